/- Helper lemmas of this claim, part 5. -/
import Derived.Test.YtclkjifgipcamaaAf4
section
set_option linter.unusedVariables false
set_option linter.unusedSimpArgs false
set_option maxHeartbeats 4000000
set_option maxRecDepth 100000
namespace Go.Proofs.Ytclkjifgipcamaa.Pm
open Go.V Wl
-- tri_v0 (fun _ => false) Try.func40 (by kernel_rfl) rfl (by simp only [List.length_append, List.length_cons, List.length_nil, Try.ntmps40]; decide) ?_
theorem ans40 : AnsOk Try.prog 40 ⟨175, false⟩ := by
 have hn : (1 : Nat) ≤ Try.f40.ntmps := by rw [Try.ntmps40]; decide
 refine ⟨fun H id f S vs ho hH ha => ?_, fun H id f c S vs ho hH ha => ?_, fun vs w => by kernel_rfl⟩
 ·refine (ansD (args := [.ref id 0 1 0 0]) (t5 := 5) (t2 := 2) (Q := fun H' => H' = H) (u' := .returning) (rv := .lit .nilIface) (cv := .nilIface) Try.func40 rfl rfl hn (fun c₀ cs hu => .inr ⟨by simp [recoverD, hu], rfl, rfl⟩) hH ha (.lit _) ?_ (by rw [Try.ntmps40]; decide) (by rw [Try.ntmps40]; decide)).mono ?_
  ·refine wps_of_vs (m := fun _ => false) ?_
   simp only [vsAll, binA, binLitA, nilA2, isConst, opA, dstOk, Nat.reduceLT, ↓reduceIte, reduceCtorEq, eq_self, wtAll, Try.ntmps40]
  ·rintro e u w ⟨h1, h2, S', H', h3, h4, h5, rfl⟩
   exact ⟨h1, h2, S', h3, h4, h5⟩
 ·refine (ansD (args := [.ref id 0 1 0 0]) (t5 := 5) (t2 := 2) (Q := fun H' => H' = H.set id (.box 1 1 fun _ => [i64 c])) (u' := .panicking [{ v := Go.V.refusal ⟨175, false⟩ c, recovered := true }]) (rv := .iface 175 (i64 c)) (cv := Go.V.refusal ⟨175, false⟩ c) Try.func40 rfl rfl hn (fun c₀ cs hu => .inl (by simp [recoverD, hu])) hH ha (.iface (.lit _)) ?_ (by rw [Try.ntmps40]; decide) (by rw [Try.ntmps40]; decide)).mono ?_
  ·refine wps_of_vs (m := fun _ => false) ?_
   obtain ⟨bb, cc, e, q1, q2, q3, q4⟩ := hH.obj id _ ho
   have q5 := q4.2.1 0 (by omega)
   simp only [vsAll, binA, nilA2, unA, extractA, nilCheckA, cellA, cellsA, opA, newCells, okCells, storeObj, taA, dstOk, nilSliceOp, argFr, Nat.reduceAdd, Nat.reduceLT, Nat.reduceEqDiff, ↓reduceIte, reduceCtorEq, eq_self, wtAll, Try.ntmps40, ho]
   have : (f 0).drop 1 = [] := List.drop_eq_nil_of_le (by omega)
   rw [this]
  ·rintro e u w ⟨h1, h2, S', H', h3, h4, h5, rfl⟩
   exact ⟨h1, h2, S', h3, h4, h5⟩
/-- What is asked of a plan. -/
abbrev isPF (p : Pu) (l : List Int) : AV := .func (.func 96) [] [.rptr 1 1 (fun _ => [intsAV l]) 0 0, pptr p]
theorem isPlan_tri (p : Pu) (l : List Int) (H : Hp) : PTri Try.prog (fnA 53) [p.av, intsAV l] H (isPF p l) := by
 refine tri_v0 (fun _ => false) Try.func53 (by kernel_rfl) rfl (by simp only [List.length_append, List.length_cons, List.length_nil, Try.ntmps53]; decide) ?_
 simp only [vsAll, boxA, boxZ, cellA, okAll, stAll, opsA, opA, dstOk, nilSliceOp, resA, argFr, retA.eq_1, Nat.reduceAdd, Nat.reduceLT, Nat.reduceEqDiff, ↓reduceIte, eq_self, wtAll, Try.ntmps53, Try.results53]
theorem isPlan1_tri (p : Pu) (l : List Int) (H : Hp) (k : Ok p) (hll : l.length ≤ 41) : PTri Try.prog (isPF p l) [] H (boo (planB p l)) := by
 have nW := k.nW
 refine tri_v0 (fun _ => false) Try.func96 (by kernel_rfl) rfl (by simp only [List.length_append, List.length_cons, List.length_nil, Try.ntmps96]; decide) ?_
 simp only [vsAll, loadA, loadRow, partA, partOk, lenA, opA, dstOk, nilSliceOp, argFr, Nat.reduceLT, Int.reduceNeg, ↓reduceIte, reduceCtorEq, eq_self, wtAll, Try.ntmps96]
 refine vs_loop (σ := Nat) (fun i => i ≤ l.length ∧ ∀ j, j < i → isW p (l.getD j 0) = true) (fun i => [(0, .rptr 1 1 (fun _ => [intsAV l]) 0 0), (1, pptr p), (5, intsAV l), (6, i64 l.length), (7, i64 i)]) (fun _ => H) (fun i => l.length - i) 0 ⟨Nat.zero_le _, fun j hj => absurd hj (by omega)⟩ ?_ (HSub.refl _) fun i hi => ?_
 ·simp only [vsAll, argFr, Nat.reduceEqDiff, ↓reduceIte, reduceCtorEq, eq_self, Int.natCast_zero]
 ·obtain ⟨hi, hall⟩ := hi
  simp only [vsAll, binA, binLitA, intA, opA, dstOk, Nat.reduceLT, Nat.reduceEqDiff, Int.reduceNeg, ↓reduceIte, reduceCtorEq, eq_self]
  refine condD (fun hd => ?_) (fun hd => ?_)
  ·have hio : i < l.length := by omega
   simp only [vsAll, binA, binLitA, intA, loadA, loadRow, partA, partOk, fieldAddrA, indexAddrA, lenA, okAll, stAll, opsA, opA, dstOk, nilSliceOp, Nat.reduceLT, Nat.reduceEqDiff, Int.reduceNeg, ↓reduceIte, reduceCtorEq, eq_self, wtAll, intF_at]
   refine ⟨⟨by omega, by omega⟩, hio, by simp only [InR_i64]; omega, callK_pure (pin_tri _ _ _ _) ?_⟩
   have ei : (decide (-1 ≤ l.getD i 0) && decide (l.getD i 0 ≤ (p.ws.length : Int) - 1)) = isW p (l.getD i 0) := rfl
   rw [ei]
   simp only [vsAll, unA, opA, dstOk, Nat.reduceLT, Int.reduceNeg, ↓reduceIte, eq_self]
   refine condV (fun hc => ?_) (fun hc => ?_)
   ·have e : planB p l = false := by
     rw [planB, Bool.and_eq_false_iff]
     refine .inl (Bool.eq_false_iff.2 fun h => ?_)
     rw [List.all_eq_true] at h
     have := h _ (mem_getD l i 0 hio)
     rw [this] at hc
     cases hc
    simp only [vsAll, opA, dstOk, nilSliceOp, resA, retA.eq_1, Nat.reduceLT, ↓reduceIte, eq_self, Try.results96, e]
   ·simp only [vsAll, binA, binLitA, intA, opA, dstOk, Nat.reduceLT, Nat.reduceEqDiff, ↓reduceIte, reduceCtorEq, eq_self]
    have hc : isW p (l.getD i 0) = true := by simpa using hc
    refine ⟨by simp only [InR_i64]; omega, loop_next (i + 1) ⟨by omega, fun j hj => ?_⟩ (by omega) ?_ HSub_rfl⟩
    ·rcases Nat.lt_succ_iff_lt_or_eq.1 hj with h | rfl
     ·exact hall j h
     ·exact hc
    ·simp only [vsAll, Nat.reduceEqDiff, ↓reduceIte, reduceCtorEq, eq_self, Int.natCast_add, Int.natCast_one]
  ·have e : i = l.length := by omega
   subst e
   simp only [vsAll, binA, binLitA, intA, loadA, loadRow, partA, partOk, fieldAddrA, lenA, opA, dstOk, nilSliceOp, resA, retA.eq_1, Nat.reduceLT, Nat.reduceEqDiff, Int.reduceNeg, ↓reduceIte, reduceCtorEq, eq_self, wtAll, Try.results96]
   have e : planB p l = decide ((l.length : Int) = p.fl.length) := by
    have h : l.all (isW p) = true := by
     rw [List.all_eq_true]
     intro x hx
     obtain ⟨j, hj, rfl⟩ := Go.V.getD_mem 0 hx
     exact hall j hj
    rw [planB, h, Bool.true_and]
    exact decide_eq_decide.2 (by omega)
   simp only [eq_self, e]
end Go.Proofs.Ytclkjifgipcamaa.Pm
end
section
set_option linter.unusedVariables false
set_option linter.unusedSimpArgs false
set_option maxHeartbeats 4000000
set_option maxRecDepth 100000
namespace Go.Proofs.Ytclkjifgipcamaa.Pm
open Go.V Wl
theorem addS_ends (acc : List (Int × Int)) (a : Int) : 0 < (addS acc a).length ∧ ((addS acc a).getD ((addS acc a).length - 1) (0, 0)).2 = a ∧ (acc = [] → ((addS acc a).getD 0 (0, 0)).1 = a) ∧ (0 < acc.length → ((addS acc a).getD 0 (0, 0)).1 = (acc.getD 0 (0, 0)).1) := by
 rcases List.eq_nil_or_concat acc with rfl | ⟨r, q, rfl⟩
 ·simp [addS]
 ·rw [List.concat_eq_append]
  unfold addS
  rw [List.getLast?_append]
  simp only [List.getLast?_singleton, Option.some_or]
  split
  ·rw [List.dropLast_concat]
   refine ⟨by simp, by simp, fun h => by simp at h, fun _ => ?_⟩
   cases r <;> simp
  ·refine ⟨by simp, by simp, fun h => by simp at h, fun _ => ?_⟩
   cases r <;> simp
theorem spansL_ends (l : List Nat) (h : 0 < l.length) : 0 < (spansL l).length ∧ ((spansL l).getD 0 (0, 0)).1 = (l.getD 0 0 : Nat) ∧ ((spansL l).getD ((spansL l).length - 1) (0, 0)).2 = (l.getD (l.length - 1) 0 : Nat) := by
 have key : ∀ (n : Nat) (r : List Nat), r.length = n → (0 < r.length → 0 < (spansL r).length ∧ ((spansL r).getD 0 (0, 0)).1 = (r.getD 0 0 : Nat)) := by
  intro n
  induction n with
  | zero => intro r e h; omega
  | succ n ih =>
    intro r' e h
    rcases List.eq_nil_or_concat r' with rfl | ⟨r, a, rfl⟩
    ·cases h
    rw [List.concat_eq_append] at e ⊢
    rw [List.length_append, List.length_singleton] at e
    have ih := ih r (by omega)
    rw [spansL_snoc]
    obtain ⟨h1, h2, h3, h4⟩ := addS_ends (spansL r) a
    refine ⟨h1, ?_⟩
    rcases Nat.eq_zero_or_pos r.length with e | e
    ·have e : r = [] := List.eq_nil_of_length_eq_zero e
     subst e
     exact h3 rfl
    ·obtain ⟨g1, g2⟩ := ih e
     rw [h4 g1, g2]
     cases r with
     | nil => cases e
     | cons x r => rfl
 refine ⟨(key _ l rfl h).1, (key _ l rfl h).2, ?_⟩
 rcases List.eq_nil_or_concat l with rfl | ⟨r, q, rfl⟩
 ·cases h
 ·rw [List.concat_eq_append, spansL_snoc, (addS_ends (spansL r) q).2.1]
  simp
/-- What open says. -/
def openR (p : Pu) (v : Bool) (H : Hp) : Res → Hp → Prop := fun r H' =>
 if errE p v = 0 then ∃ id, H id = none ∧ r = .ret (.ref id 0 9 0 0) ∧ H' = H.set id (.box 9 1 fun _ => pmC p false 0) else r = .pan (.iface 175 (i64 (errE p v))) ∧ H' = H
theorem open_tri (p : Pu) (fv : AV) (v : Bool) (H : Hp) (kn : Near p) (hfv : fv.ok) (hst : fv.st = fv)
  (hq : Ok p → ∀ (H' : Hp), PTri Try.prog fv [] H' (boo v)) : Tri Try.prog (fnA 41) [p.av, fv] H (openR p v H) := by
 have nF := kn.nF
 have nW := kn.nW
 refine tri_vs (m := mset [93]) Try.func41 (by kernel_rfl) rfl (by simp only [List.length_append, List.length_cons, List.length_nil, Try.ntmps41]; decide) ?_
 have no : ∀ {r}, ¬ Ok p → r = .pan (.iface 175 (i64 1)) → openR p v H r H := fun hno e => by
  unfold openR
  rw [errE_no hno, if_neg (by decide)]
  exact ⟨e, rfl⟩
 simp only [vsAll, loadA, loadRow, partA, partOk, fieldAddrA, boxA, boxZ, okAll, stAll, opsA, opA, dstOk, nilSliceOp, argFr, Nat.reduceAdd, Nat.reduceLT, Nat.reduceEqDiff, Nat.reduceBEq, ↓reduceIte, eq_self, wtAll, Try.ntmps41]
 refine callK_pure (wwater_tri p.ho _ kn.ho) ?_
 simp only [vsAll, binA, binLitA, intA, loadA, loadRow, partA, partOk, fieldAddrA, extractA, lenA, pickA, opA, guardV, dstOk, nilSliceOp, Nat.reduceAdd, Nat.reduceLT, Nat.reduceEqDiff, Nat.reduceBEq, ↓reduceIte, implies_true, eq_self, wtAll]
 have ew : waterE p.ho = 1 ↔ ¬ HOk p.ho := by
  unfold waterE Wl.errE
  constructor
  ·intro h hk
   rw [if_pos hk, if_pos rfl] at h
   split at h <;> omega
  ·intro h
   rw [if_neg h]
 refine gcall _ (fun g => ⟨by simp only [vsAll, opA], by simp only [vsAll, okAll, opsA, opA, ↓reduceIte, eq_self, g], pin_tri p.ca 0 100 _⟩) ?_
 simp only [vsAll, binA, binLitA, intA, loadA, loadRow, partA, partOk, fieldAddrA, lenA, pickA, okAll, stAll, opsA, opA, guardV, dstOk, Nat.reduceLT, Nat.reduceEqDiff, ↓reduceIte, implies_true, eq_self, wtAll]
 refine pask_call (fun hc => ?_) (fun hc => ?_)
 case refine_2 =>
  have hno : ¬ Ok p := fun k => by
   have h1 := k.ho; have h2 := k.nF; have h3 := k.ca; have h4 := k.nW
   have h5 : ¬ waterE p.ho = 1 := fun e => ew.1 e h1
   simp only [Bool.and_eq_false_iff, decide_eq_false_iff_not, Bool.not_eq_false', decide_eq_true_eq] at hc
   omega
  simp only [vsAll, eq_self]
  exact ⟨H, HSub_rfl, no hno rfl⟩
 have hc' : HOk p.ho ∧ p.fl.length ≤ 8 ∧ (0 ≤ p.ca ∧ p.ca ≤ 100) ∧ p.ws.length ≤ 3 := by
  simp only [Bool.and_eq_true, decide_eq_true_eq, Bool.not_eq_true', decide_eq_false_iff_not] at hc
  obtain ⟨⟨⟨h1, h2⟩, h3⟩, h4⟩ := hc
  exact ⟨Classical.byContradiction fun h => h1 (ew.2 h), by omega, h3, by omega⟩
 simp only [vsAll, loadA, loadRow, partA, partOk, fieldAddrA, lenA, opA, dstOk, Nat.reduceLT, Nat.reduceEqDiff, ↓reduceIte, eq_self, wtAll]
 refine vs_loop (σ := Nat) (fun i => i ≤ p.fl.length ∧ ∀ j, j < i → okF (p.fl.getD j (0, 0))) (fun i => [(1, fv), (2, pptr p), (5, spansAV (waterV p.ho)), (6, i64 (waterE p.ho)), (38, spansAV p.fl), (39, i64 p.fl.length), (40, i64 i)]) (fun _ => H) (fun i => p.fl.length - i) 0 ⟨Nat.zero_le _, fun j hj => absurd hj (Nat.not_lt_zero j)⟩ ?_ HSub_rfl fun i hi => ?_
 ·simp only [vsAll, argFr, Nat.reduceEqDiff, ↓reduceIte, eq_self, Int.natCast_zero]
 ·obtain ⟨hi, hall⟩ := hi
  simp only [vsAll, binA, binLitA, intA, opA, dstOk, Nat.reduceLT, Nat.reduceEqDiff, ↓reduceIte, eq_self]
  refine condD (fun hd => ?_) (fun hd => ?_)
  ·have his : i < p.fl.length := by omega
   simp only [vsAll, loadA, loadRow, partA, partOk, indexAddrA, cellA, okAll, stAll, opsA, opA, allocA, newCells, okCells, storeObj, dstOk, Nat.reduceAdd, Nat.reduceLT, Nat.reduceEqDiff, ↓reduceIte, eq_self, wtAll, spanF_at]
   refine ⟨⟨by omega, by omega⟩, his, ?_⟩
   intro i8 hh_i8; (try simp only [Hp.set_none, ite_none] at hh_i8)
   refine callK_pure (pspan_tri _ _ 40 _) ?_
   simp only [vsAll, okAll, stAll, opsA, opA, dstOk, Nat.reduceLT, ↓reduceIte, eq_self]
   refine pask_call (fun hc2 => ?_) (fun hc2 => ?_)
   case refine_2 =>
    have hno : ¬ Ok p := fun k => by
     have := k.f i his
     unfold okF at this
     simp only [Bool.and_eq_false_iff, decide_eq_false_iff_not] at hc2
     ((try clear hh_i8); omega)
    simp only [vsAll, eq_self]
    exact ⟨H, by (repeat (first | exact HSub_rfl | refine HSub_put_eq (by simp only [vsAll, binA, binLitA, intA, aggA, aggV, boolA, nilA2, isConst, unA, loadA, loadRow, partA, partOk, fieldAddrA, indexAddrA, indexA, fieldA, extractA, lenA, nilCheckA, boxA, boxZ, cellA, cellsA, fillA, okParts, buildSliceA, buildMutA, makeSliceA, partIdx, elemsA, lensA, ifaceA, convA, mmA, pickA, okAll, stAll, opsA, partsA, partsOk, opA, allocA, boxMutA, newCells, okCells, storeObj, appendA, guardV, taA, nM, mapUpA, rangeA, nextA, entryA, lookA, sliceA, sliceM, sliceS, boundsA, opO, okO, copyA, dstOk, nilA, quietOk, nilSliceOp, deferV, panA, resA, argFr, retA.eq_1, retA.eq_2, Nat.reduceAdd, Nat.reduceSub, Nat.reduceMul, Nat.reduceLT, Nat.reduceLeDiff, Nat.reduceEqDiff, Nat.reduceBEq, Int.reduceAdd, Int.reduceSub, Int.reduceMul, Int.reduceNeg, Int.reduceLE, Int.reduceLT, Int.reduceEq, Int.reduceNe, Int.reduceToNat, ↓reduceIte, reduceCtorEq, implies_true, forall_const, eq_self, ne_eq, wtAll, Try.ntmps41, Try.results41, hh_i8]) ?_ | refine HSub_drop2 (by simp only [eq_self, hh_i8]) ?_ | refine HSub_keep_eq (by simp only [vsAll, binA, binLitA, intA, aggA, aggV, boolA, nilA2, isConst, unA, loadA, loadRow, partA, partOk, fieldAddrA, indexAddrA, indexA, fieldA, extractA, lenA, nilCheckA, boxA, boxZ, cellA, cellsA, fillA, okParts, buildSliceA, buildMutA, makeSliceA, partIdx, elemsA, lensA, ifaceA, convA, mmA, pickA, okAll, stAll, opsA, partsA, partsOk, opA, allocA, boxMutA, newCells, okCells, storeObj, appendA, guardV, taA, nM, mapUpA, rangeA, nextA, entryA, lookA, sliceA, sliceM, sliceS, boundsA, opO, okO, copyA, dstOk, nilA, quietOk, nilSliceOp, deferV, panA, resA, argFr, retA.eq_1, retA.eq_2, Nat.reduceAdd, Nat.reduceSub, Nat.reduceMul, Nat.reduceLT, Nat.reduceLeDiff, Nat.reduceEqDiff, Nat.reduceBEq, Int.reduceAdd, Int.reduceSub, Int.reduceMul, Int.reduceNeg, Int.reduceLE, Int.reduceLT, Int.reduceEq, Int.reduceNe, Int.reduceToNat, ↓reduceIte, reduceCtorEq, implies_true, forall_const, eq_self, ne_eq, wtAll, Try.ntmps41, Try.results41, hh_i8]) ?_)), no hno rfl⟩
   simp only [vsAll, binA, binLitA, intA, opA, dstOk, Nat.reduceLT, Nat.reduceEqDiff, ↓reduceIte, eq_self]
   refine ⟨by simp only [InR_i64]; ((try clear hh_i8); omega), loop_next (i + 1) ⟨by ((try clear hh_i8); omega), fun j hj => ?_⟩ (by ((try clear hh_i8); omega)) ?_ (by (repeat (first | exact HSub_rfl | refine HSub_put_eq (by simp only [vsAll, binA, binLitA, intA, aggA, aggV, boolA, nilA2, isConst, unA, loadA, loadRow, partA, partOk, fieldAddrA, indexAddrA, indexA, fieldA, extractA, lenA, nilCheckA, boxA, boxZ, cellA, cellsA, fillA, okParts, buildSliceA, buildMutA, makeSliceA, partIdx, elemsA, lensA, ifaceA, convA, mmA, pickA, okAll, stAll, opsA, partsA, partsOk, opA, allocA, boxMutA, newCells, okCells, storeObj, appendA, guardV, taA, nM, mapUpA, rangeA, nextA, entryA, lookA, sliceA, sliceM, sliceS, boundsA, opO, okO, copyA, dstOk, nilA, quietOk, nilSliceOp, deferV, panA, resA, argFr, retA.eq_1, retA.eq_2, Nat.reduceAdd, Nat.reduceSub, Nat.reduceMul, Nat.reduceLT, Nat.reduceLeDiff, Nat.reduceEqDiff, Nat.reduceBEq, Int.reduceAdd, Int.reduceSub, Int.reduceMul, Int.reduceNeg, Int.reduceLE, Int.reduceLT, Int.reduceEq, Int.reduceNe, Int.reduceToNat, ↓reduceIte, reduceCtorEq, implies_true, forall_const, eq_self, ne_eq, wtAll, Try.ntmps41, Try.results41, hh_i8]) ?_ | refine HSub_drop2 (by simp only [eq_self, hh_i8]) ?_ | refine HSub_keep_eq (by simp only [vsAll, binA, binLitA, intA, aggA, aggV, boolA, nilA2, isConst, unA, loadA, loadRow, partA, partOk, fieldAddrA, indexAddrA, indexA, fieldA, extractA, lenA, nilCheckA, boxA, boxZ, cellA, cellsA, fillA, okParts, buildSliceA, buildMutA, makeSliceA, partIdx, elemsA, lensA, ifaceA, convA, mmA, pickA, okAll, stAll, opsA, partsA, partsOk, opA, allocA, boxMutA, newCells, okCells, storeObj, appendA, guardV, taA, nM, mapUpA, rangeA, nextA, entryA, lookA, sliceA, sliceM, sliceS, boundsA, opO, okO, copyA, dstOk, nilA, quietOk, nilSliceOp, deferV, panA, resA, argFr, retA.eq_1, retA.eq_2, Nat.reduceAdd, Nat.reduceSub, Nat.reduceMul, Nat.reduceLT, Nat.reduceLeDiff, Nat.reduceEqDiff, Nat.reduceBEq, Int.reduceAdd, Int.reduceSub, Int.reduceMul, Int.reduceNeg, Int.reduceLE, Int.reduceLT, Int.reduceEq, Int.reduceNe, Int.reduceToNat, ↓reduceIte, reduceCtorEq, implies_true, forall_const, eq_self, ne_eq, wtAll, Try.ntmps41, Try.results41, hh_i8]) ?_)))⟩
   ·by_cases e : j = i
    ·subst e
     unfold okF
     simp only [Bool.and_eq_true, decide_eq_true_eq] at hc2
     ((try clear hh_i8); omega)
    ·exact hall j (by ((try clear hh_i8); omega))
   ·simp only [vsAll, Nat.reduceEqDiff, ↓reduceIte, eq_self, Int.natCast_add, Int.natCast_one]
  ·have ei : i = p.fl.length := by omega
   subst ei
   simp only [vsAll, loadA, loadRow, partA, partOk, fieldAddrA, lenA, opA, dstOk, Nat.reduceLT, Nat.reduceEqDiff, ↓reduceIte, eq_self, wtAll]
   refine vs_loop (σ := Nat) (fun i => i ≤ p.ws.length ∧ ∀ j, j < i → okW (p.ws.getD j wt0)) (fun i => [(1, fv), (2, pptr p), (5, spansAV (waterV p.ho)), (6, i64 (waterE p.ho)), (49, wsAV p.ws), (50, i64 p.ws.length), (51, i64 i)]) (fun _ => H) (fun i => p.ws.length - i) 0 ⟨Nat.zero_le _, fun j hj => absurd hj (Nat.not_lt_zero j)⟩ ?_ HSub_rfl fun i hi => ?_
   ·simp only [vsAll, Nat.reduceEqDiff, ↓reduceIte, eq_self, Int.natCast_zero]
   ·obtain ⟨hi, hallw⟩ := hi
    simp only [vsAll, binA, binLitA, intA, opA, dstOk, Nat.reduceLT, Nat.reduceEqDiff, ↓reduceIte, eq_self]
    refine condD (fun hd2 => ?_) (fun hd2 => ?_)
    ·have his : i < p.ws.length := by omega
     simp only [vsAll, loadA, loadRow, partA, partOk, fieldAddrA, indexAddrA, cellA, okAll, stAll, opsA, opA, allocA, newCells, okCells, storeObj, dstOk, Nat.reduceAdd, Nat.reduceLT, Nat.reduceLeDiff, Nat.reduceEqDiff, ↓reduceIte, eq_self, wtAll, wsF_at]
     refine ⟨⟨by omega, by omega⟩, his, ?_⟩
     intro i10 hh_i10; (try simp only [Hp.set_none, ite_none] at hh_i10)
     refine callK_pure (pspan_tri _ _ 40 _) ?_
     simp only [vsAll, loadA, loadRow, partA, partOk, fieldAddrA, opA, guardV, dstOk, Nat.reduceLT, Nat.reduceEqDiff, ↓reduceIte, implies_true, eq_self, wtAll]
     refine gcall _ (fun g => ⟨by simp only [vsAll, opA], by simp only [vsAll, okAll, opsA, opA, ↓reduceIte, eq_self, g], pin_tri _ 0 20 _⟩) ?_
     simp only [vsAll, loadA, loadRow, partA, partOk, fieldAddrA, pickA, opA, guardV, dstOk, Nat.reduceLT, Nat.reduceEqDiff, ↓reduceIte, implies_true, eq_self, wtAll]
     refine gcall _ (fun g => ⟨by simp only [vsAll, opA], by simp only [vsAll, okAll, opsA, opA, ↓reduceIte, eq_self, g], pin_tri _ 0 4 _⟩) ?_
     simp only [vsAll, pickA, okAll, stAll, opsA, opA, dstOk, Nat.reduceLT, Nat.reduceEqDiff, ↓reduceIte, implies_true, eq_self]
     refine pask_call (fun hc2 => ?_) (fun hc2 => ?_)
     case refine_2 =>
      have hno : ¬ Ok p := fun k => by
       have := k.w i his
       unfold okW at this
       obtain ⟨⟨a1, a2, a3⟩, ⟨a4, a5⟩, a6, a7⟩ := this
       rw [decide_eq_true a1, decide_eq_true a2, decide_eq_true a3, decide_eq_true a4, decide_eq_true a5, decide_eq_true a6, decide_eq_true a7] at hc2
       cases hc2
      simp only [vsAll, eq_self]
      exact ⟨H, by (repeat (first | exact HSub_rfl | refine HSub_put_eq (by simp only [vsAll, binA, binLitA, intA, aggA, aggV, boolA, nilA2, isConst, unA, loadA, loadRow, partA, partOk, fieldAddrA, indexAddrA, indexA, fieldA, extractA, lenA, nilCheckA, boxA, boxZ, cellA, cellsA, fillA, okParts, buildSliceA, buildMutA, makeSliceA, partIdx, elemsA, lensA, ifaceA, convA, mmA, pickA, okAll, stAll, opsA, partsA, partsOk, opA, allocA, boxMutA, newCells, okCells, storeObj, appendA, guardV, taA, nM, mapUpA, rangeA, nextA, entryA, lookA, sliceA, sliceM, sliceS, boundsA, opO, okO, copyA, dstOk, nilA, quietOk, nilSliceOp, deferV, panA, resA, argFr, retA.eq_1, retA.eq_2, Nat.reduceAdd, Nat.reduceSub, Nat.reduceMul, Nat.reduceLT, Nat.reduceLeDiff, Nat.reduceEqDiff, Nat.reduceBEq, Int.reduceAdd, Int.reduceSub, Int.reduceMul, Int.reduceNeg, Int.reduceLE, Int.reduceLT, Int.reduceEq, Int.reduceNe, Int.reduceToNat, ↓reduceIte, reduceCtorEq, implies_true, forall_const, eq_self, ne_eq, wtAll, Try.ntmps41, Try.results41, hh_i10]) ?_ | refine HSub_drop2 (by simp only [eq_self, hh_i10]) ?_ | refine HSub_keep_eq (by simp only [vsAll, binA, binLitA, intA, aggA, aggV, boolA, nilA2, isConst, unA, loadA, loadRow, partA, partOk, fieldAddrA, indexAddrA, indexA, fieldA, extractA, lenA, nilCheckA, boxA, boxZ, cellA, cellsA, fillA, okParts, buildSliceA, buildMutA, makeSliceA, partIdx, elemsA, lensA, ifaceA, convA, mmA, pickA, okAll, stAll, opsA, partsA, partsOk, opA, allocA, boxMutA, newCells, okCells, storeObj, appendA, guardV, taA, nM, mapUpA, rangeA, nextA, entryA, lookA, sliceA, sliceM, sliceS, boundsA, opO, okO, copyA, dstOk, nilA, quietOk, nilSliceOp, deferV, panA, resA, argFr, retA.eq_1, retA.eq_2, Nat.reduceAdd, Nat.reduceSub, Nat.reduceMul, Nat.reduceLT, Nat.reduceLeDiff, Nat.reduceEqDiff, Nat.reduceBEq, Int.reduceAdd, Int.reduceSub, Int.reduceMul, Int.reduceNeg, Int.reduceLE, Int.reduceLT, Int.reduceEq, Int.reduceNe, Int.reduceToNat, ↓reduceIte, reduceCtorEq, implies_true, forall_const, eq_self, ne_eq, wtAll, Try.ntmps41, Try.results41, hh_i10]) ?_)), no hno rfl⟩
     simp only [vsAll, binA, binLitA, intA, opA, dstOk, Nat.reduceLT, Nat.reduceEqDiff, ↓reduceIte, eq_self]
     refine ⟨by simp only [InR_i64]; ((try clear hh_i10); omega), loop_next (i + 1) ⟨by ((try clear hh_i10); omega), fun j hj => ?_⟩ (by ((try clear hh_i10); omega)) ?_ (by (repeat (first | exact HSub_rfl | refine HSub_put_eq (by simp only [vsAll, binA, binLitA, intA, aggA, aggV, boolA, nilA2, isConst, unA, loadA, loadRow, partA, partOk, fieldAddrA, indexAddrA, indexA, fieldA, extractA, lenA, nilCheckA, boxA, boxZ, cellA, cellsA, fillA, okParts, buildSliceA, buildMutA, makeSliceA, partIdx, elemsA, lensA, ifaceA, convA, mmA, pickA, okAll, stAll, opsA, partsA, partsOk, opA, allocA, boxMutA, newCells, okCells, storeObj, appendA, guardV, taA, nM, mapUpA, rangeA, nextA, entryA, lookA, sliceA, sliceM, sliceS, boundsA, opO, okO, copyA, dstOk, nilA, quietOk, nilSliceOp, deferV, panA, resA, argFr, retA.eq_1, retA.eq_2, Nat.reduceAdd, Nat.reduceSub, Nat.reduceMul, Nat.reduceLT, Nat.reduceLeDiff, Nat.reduceEqDiff, Nat.reduceBEq, Int.reduceAdd, Int.reduceSub, Int.reduceMul, Int.reduceNeg, Int.reduceLE, Int.reduceLT, Int.reduceEq, Int.reduceNe, Int.reduceToNat, ↓reduceIte, reduceCtorEq, implies_true, forall_const, eq_self, ne_eq, wtAll, Try.ntmps41, Try.results41, hh_i10]) ?_ | refine HSub_drop2 (by simp only [eq_self, hh_i10]) ?_ | refine HSub_keep_eq (by simp only [vsAll, binA, binLitA, intA, aggA, aggV, boolA, nilA2, isConst, unA, loadA, loadRow, partA, partOk, fieldAddrA, indexAddrA, indexA, fieldA, extractA, lenA, nilCheckA, boxA, boxZ, cellA, cellsA, fillA, okParts, buildSliceA, buildMutA, makeSliceA, partIdx, elemsA, lensA, ifaceA, convA, mmA, pickA, okAll, stAll, opsA, partsA, partsOk, opA, allocA, boxMutA, newCells, okCells, storeObj, appendA, guardV, taA, nM, mapUpA, rangeA, nextA, entryA, lookA, sliceA, sliceM, sliceS, boundsA, opO, okO, copyA, dstOk, nilA, quietOk, nilSliceOp, deferV, panA, resA, argFr, retA.eq_1, retA.eq_2, Nat.reduceAdd, Nat.reduceSub, Nat.reduceMul, Nat.reduceLT, Nat.reduceLeDiff, Nat.reduceEqDiff, Nat.reduceBEq, Int.reduceAdd, Int.reduceSub, Int.reduceMul, Int.reduceNeg, Int.reduceLE, Int.reduceLT, Int.reduceEq, Int.reduceNe, Int.reduceToNat, ↓reduceIte, reduceCtorEq, implies_true, forall_const, eq_self, ne_eq, wtAll, Try.ntmps41, Try.results41, hh_i10]) ?_)))⟩
     ·by_cases e : j = i
      ·subst e
       unfold okW
       simp only [Bool.and_eq_true, decide_eq_true_eq] at hc2
       obtain ⟨⟨⟨⟨a1, a2⟩, a3⟩, a4⟩, a5⟩ := hc2
       exact ⟨⟨a1, a2, a3⟩, a4, a5⟩
      ·exact hallw j (by ((try clear hh_i10); omega))
     ·simp only [vsAll, Nat.reduceEqDiff, ↓reduceIte, eq_self, Int.natCast_add, Int.natCast_one]
    ·have ei : i = p.ws.length := by omega
     have k : Ok p := (ok_iff p).2 ⟨hc', hall, fun j hj => hallw j (by omega)⟩
     subst ei
     simp only [vsAll, okAll, stAll, opsA, opA, dstOk, Nat.reduceLT, Nat.reduceEqDiff, ↓reduceIte, eq_self, hfv, hst]
     refine callK_pure (hq k _) ?_
     simp only [vsAll, okAll, stAll, opsA, opA, dstOk, Nat.reduceLT, ↓reduceIte, eq_self]
     refine pask_call (fun hv => ?_) (fun hv => ?_)
     case refine_2 =>
      subst hv
      simp only [vsAll, eq_self]
      refine ⟨H, by (repeat (first | exact HSub_rfl | refine HSub_put_eq (by simp only [vsAll, binA, binLitA, intA, aggA, aggV, boolA, nilA2, isConst, unA, loadA, loadRow, partA, partOk, fieldAddrA, indexAddrA, indexA, fieldA, extractA, lenA, nilCheckA, boxA, boxZ, cellA, cellsA, fillA, okParts, buildSliceA, buildMutA, makeSliceA, partIdx, elemsA, lensA, ifaceA, convA, mmA, pickA, okAll, stAll, opsA, partsA, partsOk, opA, allocA, boxMutA, newCells, okCells, storeObj, appendA, guardV, taA, nM, mapUpA, rangeA, nextA, entryA, lookA, sliceA, sliceM, sliceS, boundsA, opO, okO, copyA, dstOk, nilA, quietOk, nilSliceOp, deferV, panA, resA, argFr, retA.eq_1, retA.eq_2, Nat.reduceAdd, Nat.reduceSub, Nat.reduceMul, Nat.reduceLT, Nat.reduceLeDiff, Nat.reduceEqDiff, Nat.reduceBEq, Int.reduceAdd, Int.reduceSub, Int.reduceMul, Int.reduceNeg, Int.reduceLE, Int.reduceLT, Int.reduceEq, Int.reduceNe, Int.reduceToNat, ↓reduceIte, reduceCtorEq, implies_true, forall_const, eq_self, ne_eq, wtAll, Try.ntmps41, Try.results41]) ?_ | refine HSub_drop2 (by simp only [vsAll, binA, binLitA, intA, aggA, aggV, boolA, nilA2, isConst, unA, loadA, loadRow, partA, partOk, fieldAddrA, indexAddrA, indexA, fieldA, extractA, lenA, nilCheckA, boxA, boxZ, cellA, cellsA, fillA, okParts, buildSliceA, buildMutA, makeSliceA, partIdx, elemsA, lensA, ifaceA, convA, mmA, pickA, okAll, stAll, opsA, partsA, partsOk, opA, allocA, boxMutA, newCells, okCells, storeObj, appendA, guardV, taA, nM, mapUpA, rangeA, nextA, entryA, lookA, sliceA, sliceM, sliceS, boundsA, opO, okO, copyA, dstOk, nilA, quietOk, nilSliceOp, deferV, panA, resA, argFr, retA.eq_1, retA.eq_2, Nat.reduceAdd, Nat.reduceSub, Nat.reduceMul, Nat.reduceLT, Nat.reduceLeDiff, Nat.reduceEqDiff, Nat.reduceBEq, Int.reduceAdd, Int.reduceSub, Int.reduceMul, Int.reduceNeg, Int.reduceLE, Int.reduceLT, Int.reduceEq, Int.reduceNe, Int.reduceToNat, ↓reduceIte, reduceCtorEq, implies_true, forall_const, eq_self, ne_eq, wtAll, Try.ntmps41, Try.results41]) ?_ | refine HSub_keep_eq (by simp only [vsAll, binA, binLitA, intA, aggA, aggV, boolA, nilA2, isConst, unA, loadA, loadRow, partA, partOk, fieldAddrA, indexAddrA, indexA, fieldA, extractA, lenA, nilCheckA, boxA, boxZ, cellA, cellsA, fillA, okParts, buildSliceA, buildMutA, makeSliceA, partIdx, elemsA, lensA, ifaceA, convA, mmA, pickA, okAll, stAll, opsA, partsA, partsOk, opA, allocA, boxMutA, newCells, okCells, storeObj, appendA, guardV, taA, nM, mapUpA, rangeA, nextA, entryA, lookA, sliceA, sliceM, sliceS, boundsA, opO, okO, copyA, dstOk, nilA, quietOk, nilSliceOp, deferV, panA, resA, argFr, retA.eq_1, retA.eq_2, Nat.reduceAdd, Nat.reduceSub, Nat.reduceMul, Nat.reduceLT, Nat.reduceLeDiff, Nat.reduceEqDiff, Nat.reduceBEq, Int.reduceAdd, Int.reduceSub, Int.reduceMul, Int.reduceNeg, Int.reduceLE, Int.reduceLT, Int.reduceEq, Int.reduceNe, Int.reduceToNat, ↓reduceIte, reduceCtorEq, implies_true, forall_const, eq_self, ne_eq, wtAll, Try.ntmps41, Try.results41]) ?_)), ?_⟩
      unfold openR
      rw [errE_bad k, if_neg (by decide)]
      exact ⟨rfl, rfl⟩
     subst hv
     simp only [vsAll, binA, binLitA, intA, okAll, stAll, opsA, opA, dstOk, Nat.reduceLT, Nat.reduceEqDiff, ↓reduceIte, eq_self]
     have ew2 : waterE p.ho = errE p true := by
      unfold waterE Wl.errE errE
      rw [if_pos hc'.1, if_pos rfl, if_pos k, if_pos rfl]
      have : (True ∧ (allA p.ho).length = 0) = ((allA p.ho).length = 0) := by simp
      simp only [true_and]
     refine pask_call (fun hc2 => ?_) (fun hc2 => ?_)
     case refine_2 =>
      have := of_decide_eq_false hc2
      simp only [vsAll, eq_self]
      refine ⟨H, by (repeat (first | exact HSub_rfl | refine HSub_put_eq (by simp only [vsAll, binA, binLitA, intA, aggA, aggV, boolA, nilA2, isConst, unA, loadA, loadRow, partA, partOk, fieldAddrA, indexAddrA, indexA, fieldA, extractA, lenA, nilCheckA, boxA, boxZ, cellA, cellsA, fillA, okParts, buildSliceA, buildMutA, makeSliceA, partIdx, elemsA, lensA, ifaceA, convA, mmA, pickA, okAll, stAll, opsA, partsA, partsOk, opA, allocA, boxMutA, newCells, okCells, storeObj, appendA, guardV, taA, nM, mapUpA, rangeA, nextA, entryA, lookA, sliceA, sliceM, sliceS, boundsA, opO, okO, copyA, dstOk, nilA, quietOk, nilSliceOp, deferV, panA, resA, argFr, retA.eq_1, retA.eq_2, Nat.reduceAdd, Nat.reduceSub, Nat.reduceMul, Nat.reduceLT, Nat.reduceLeDiff, Nat.reduceEqDiff, Nat.reduceBEq, Int.reduceAdd, Int.reduceSub, Int.reduceMul, Int.reduceNeg, Int.reduceLE, Int.reduceLT, Int.reduceEq, Int.reduceNe, Int.reduceToNat, ↓reduceIte, reduceCtorEq, implies_true, forall_const, eq_self, ne_eq, wtAll, Try.ntmps41, Try.results41]) ?_ | refine HSub_drop2 (by simp only [vsAll, binA, binLitA, intA, aggA, aggV, boolA, nilA2, isConst, unA, loadA, loadRow, partA, partOk, fieldAddrA, indexAddrA, indexA, fieldA, extractA, lenA, nilCheckA, boxA, boxZ, cellA, cellsA, fillA, okParts, buildSliceA, buildMutA, makeSliceA, partIdx, elemsA, lensA, ifaceA, convA, mmA, pickA, okAll, stAll, opsA, partsA, partsOk, opA, allocA, boxMutA, newCells, okCells, storeObj, appendA, guardV, taA, nM, mapUpA, rangeA, nextA, entryA, lookA, sliceA, sliceM, sliceS, boundsA, opO, okO, copyA, dstOk, nilA, quietOk, nilSliceOp, deferV, panA, resA, argFr, retA.eq_1, retA.eq_2, Nat.reduceAdd, Nat.reduceSub, Nat.reduceMul, Nat.reduceLT, Nat.reduceLeDiff, Nat.reduceEqDiff, Nat.reduceBEq, Int.reduceAdd, Int.reduceSub, Int.reduceMul, Int.reduceNeg, Int.reduceLE, Int.reduceLT, Int.reduceEq, Int.reduceNe, Int.reduceToNat, ↓reduceIte, reduceCtorEq, implies_true, forall_const, eq_self, ne_eq, wtAll, Try.ntmps41, Try.results41]) ?_ | refine HSub_keep_eq (by simp only [vsAll, binA, binLitA, intA, aggA, aggV, boolA, nilA2, isConst, unA, loadA, loadRow, partA, partOk, fieldAddrA, indexAddrA, indexA, fieldA, extractA, lenA, nilCheckA, boxA, boxZ, cellA, cellsA, fillA, okParts, buildSliceA, buildMutA, makeSliceA, partIdx, elemsA, lensA, ifaceA, convA, mmA, pickA, okAll, stAll, opsA, partsA, partsOk, opA, allocA, boxMutA, newCells, okCells, storeObj, appendA, guardV, taA, nM, mapUpA, rangeA, nextA, entryA, lookA, sliceA, sliceM, sliceS, boundsA, opO, okO, copyA, dstOk, nilA, quietOk, nilSliceOp, deferV, panA, resA, argFr, retA.eq_1, retA.eq_2, Nat.reduceAdd, Nat.reduceSub, Nat.reduceMul, Nat.reduceLT, Nat.reduceLeDiff, Nat.reduceEqDiff, Nat.reduceBEq, Int.reduceAdd, Int.reduceSub, Int.reduceMul, Int.reduceNeg, Int.reduceLE, Int.reduceLT, Int.reduceEq, Int.reduceNe, Int.reduceToNat, ↓reduceIte, reduceCtorEq, implies_true, forall_const, eq_self, ne_eq, wtAll, Try.ntmps41, Try.results41]) ?_)), ?_⟩
      unfold openR
      rw [← ew2, if_neg this]
      exact ⟨rfl, rfl⟩
     have he := of_decide_eq_true hc2
     have hA : 0 < (allA p.ho).length := (errE_zero (ew2.symm.trans he)).2.2
     obtain ⟨g1, g2, g3⟩ := spansL_ends _ hA
     have ewv : waterV p.ho = spansL (allA p.ho) := if_pos he
     rw [← ewv] at g1 g2 g3
     have g2' : startV p true = ((waterV p.ho).getD 0 (0, 0)).1 := g2.symm
     have hwl : (waterV p.ho).length ≤ 102 := by
      have h1 := spansL_len (allA p.ho)
      have h2 : (allA p.ho).length ≤ 101 := by
       rw [← told_filter]
       exact Nat.le_trans (List.length_filter_le _ _) (by rw [List.length_range]; exact Nat.le_refl _)
      rw [ewv]
      omega
     have g3' : startV p false = ((waterV p.ho).getD ((waterV p.ho).length - 1) (0, 0)).2 := g3.symm
     simp only [vsAll]
     refine vs_draw2 [0, 0, 0, 0, 0, 0, 0, 0, 0, 0, 0, 0, 0, 0, 0, 0, 1, 2] [([0, 1, 2, 3, 4, 5, 6, 7, 8, 9, 10, 11, 12, 13, 14, 15], [], 16)] [17] (by decide +kernel) ?_
     simp only [vsAll, binA, binLitA, intA, loadA, loadRow, partA, partOk, fieldAddrA, indexAddrA, lenA, cellA, cellsA, fillA, okParts, ifaceA, partsA, partsOk, opA, boxMutA, dstOk, Nat.reduceAdd, Nat.reduceLT, Nat.reduceLeDiff, Nat.reduceEqDiff, Nat.reduceBEq, Int.reduceLE, Int.reduceToNat, ↓reduceIte, eq_self, wtAll, spanF_at]
     refine ⟨by omega, g1, by simp only [InR_i64]; omega, ⟨by omega, by omega⟩, by omega, ?_⟩
     have en : (((waterV p.ho).length : Int) - 1).toNat = (waterV p.ho).length - 1 := by omega
     rw [en, ← g2', ← g3']
     intro id hh_id; (try simp only [Hp.set_none, ite_none] at hh_id)
     refine ret0 ?_
     simp only [vsAll, resA, retA.eq_1, ↓reduceIte, eq_self, Try.results41]
     refine ⟨_, HSub_rfl, ?_⟩
     unfold openR
     rw [← ew2, if_pos he]
     exact ⟨id, hh_id, rfl, rfl⟩
/-- A call of open. -/
theorem open_call {p : Pu} {fv : AV} {v : Bool} {H : Hp} {K : AV → Hp → Prop} {Kp : AV → Hp → Prop} (ht : Tri Try.prog (fnA 41) [p.av, fv] H (openR p v H))
  (h1 : ¬ errE p v = 0 → Kp (.iface 175 (i64 (errE p v))) H) (h2 : Ok p → v = true → 0 < (allA p.ho).length → ∀ id, H id = none → K (.ref id 0 9 0 0) (H.set id (.box 9 1 fun _ => pmC p false 0))) : CallK Try.prog (fnA 41) [p.av, fv] H K Kp := by
 refine ⟨_, ht, fun r H' hr => ?_⟩
 unfold openR at hr
 split at hr
 ·rename_i he
  obtain ⟨id, hid, rfl, rfl⟩ := hr
  obtain ⟨k1, k2, k3⟩ := errE_zero he
  exact h2 k1 k2 k3 id hid
 ·rename_i he
  obtain ⟨rfl, rfl⟩ := hr
  exact h1 he
end Go.Proofs.Ytclkjifgipcamaa.Pm
end
section
set_option linter.unusedVariables false
set_option linter.unusedSimpArgs false
set_option maxHeartbeats 4000000
set_option maxRecDepth 100000
namespace Go.Proofs.Ytclkjifgipcamaa.Pm
open Go.V Wl
theorem firstP_of {p : Pu} {l : List Int} (k : Ok p) (h : planB p l = true) : FirstP p l := by
 obtain ⟨h1, h2⟩ := planB_iff.1 h
 exact ⟨by have := k.nF; omega, h2⟩
theorem moreP_zero (p : Pu) : moreP p 0 = p := by
 unfold moreP
 have : (p.fl.map fun x : Int × Int => (x.1 + 0, x.2 + 0)) = p.fl := by
  rw [show (fun x : Int × Int => (x.1 + 0, x.2 + 0)) = id from by funext x; simp]
  exact List.map_id _
 rw [this]
theorem flo_tri (p : Pu) (l : List Int) (H : Hp) (kn : Near p) (hl : l.length ≤ 41) : PTri Try.prog (fnA 51) [p.av, intsAV l] H (.tuple [i64 (floV p l), i64 (playE p l)]) := by
 refine Tri.drop ?_
 refine tri_am (m := fun _ => false) ans40 Try.func51 (by kernel_rfl) rfl (by simp only [List.length_append, List.length_cons, List.length_nil, Try.ntmps51]; decide) ?_
 simp only [vsAll, boxA, boxZ, okAll, stAll, opsA, opA, allocA, dstOk, nilSliceOp, argFr, Nat.reduceAdd, Nat.reduceLT, ↓reduceIte, eq_self, wtAll, Try.ntmps51]
 intro i5 hh_i5; (try simp only [Hp.set_none, ite_none] at hh_i5)
 refine vs_draw2 [0, 0, 0, 0, 1, 2] [([0, 1, 2, 3], [], 4)] [5] (by decide +kernel) ?_
 simp only [vsAll, loadA, loadRow, partA, partOk, opA, dstOk, argFr, Nat.reduceLT, Nat.reduceEqDiff, ↓reduceIte, eq_self, wtAll]
 refine qcall _ ⟨trivial, by simp only [vsAll, okAll, opsA, opA, Nat.reduceEqDiff, ↓reduceIte, eq_self], isPlan_tri p l _⟩ ?_
 simp only [vsAll, okAll, stAll, opsA, opA, dstOk, Nat.reduceLT, Nat.reduceEqDiff, ↓reduceIte, eq_self]
 refine open_call (open_tri p _ (planB p l) _ kn trivial rfl (fun k H' => isPlan1_tri p l H' k hl)) (fun he => ?_) (fun k hv hA id hid => ?_)
 ·have e2 : floV p l = 0 := if_neg he
  have e : playE p l = errE p (planB p l) := rfl
  simp only [vsAll, loadA, loadRow, partA, partOk, resA, retA.eq_2, Nat.reduceEqDiff, ↓reduceIte, eq_self, wtAll, Try.results51]
  refine ⟨errE p (planB p l), i5, _, rfl, rfl, by simp only [↓reduceIte, eq_self]; try rfl, ?_⟩
  simp only [vsAll, Nat.reduceLT, ↓reduceIte, eq_self]
  refine dropR_pure ?_ (by (repeat (first | exact HSub_rfl | refine HSub_put_eq (by simp only [vsAll, binA, binLitA, intA, aggA, aggV, boolA, nilA2, isConst, unA, loadA, loadRow, partA, partOk, fieldAddrA, indexAddrA, indexA, fieldA, extractA, lenA, nilCheckA, boxA, boxZ, cellA, cellsA, fillA, okParts, buildSliceA, buildMutA, makeSliceA, partIdx, elemsA, lensA, ifaceA, convA, mmA, pickA, okAll, stAll, opsA, partsA, partsOk, opA, allocA, boxMutA, newCells, okCells, storeObj, appendA, guardV, taA, nM, mapUpA, rangeA, nextA, entryA, lookA, sliceA, sliceM, sliceS, boundsA, opO, okO, copyA, dstOk, nilA, quietOk, nilSliceOp, deferV, panA, resA, argFr, retA.eq_1, retA.eq_2, Nat.reduceAdd, Nat.reduceSub, Nat.reduceMul, Nat.reduceLT, Nat.reduceLeDiff, Nat.reduceEqDiff, Nat.reduceBEq, Int.reduceAdd, Int.reduceSub, Int.reduceMul, Int.reduceNeg, Int.reduceLE, Int.reduceLT, Int.reduceEq, Int.reduceNe, Int.reduceToNat, ↓reduceIte, reduceCtorEq, implies_true, forall_const, eq_self, ne_eq, wtAll, Try.ntmps51, Try.results51, hh_i5]) ?_ | refine HSub_drop2 (by simp only [eq_self, hh_i5]) ?_ | refine HSub_keep_eq (by simp only [vsAll, binA, binLitA, intA, aggA, aggV, boolA, nilA2, isConst, unA, loadA, loadRow, partA, partOk, fieldAddrA, indexAddrA, indexA, fieldA, extractA, lenA, nilCheckA, boxA, boxZ, cellA, cellsA, fillA, okParts, buildSliceA, buildMutA, makeSliceA, partIdx, elemsA, lensA, ifaceA, convA, mmA, pickA, okAll, stAll, opsA, partsA, partsOk, opA, allocA, boxMutA, newCells, okCells, storeObj, appendA, guardV, taA, nM, mapUpA, rangeA, nextA, entryA, lookA, sliceA, sliceM, sliceS, boundsA, opO, okO, copyA, dstOk, nilA, quietOk, nilSliceOp, deferV, panA, resA, argFr, retA.eq_1, retA.eq_2, Nat.reduceAdd, Nat.reduceSub, Nat.reduceMul, Nat.reduceLT, Nat.reduceLeDiff, Nat.reduceEqDiff, Nat.reduceBEq, Int.reduceAdd, Int.reduceSub, Int.reduceMul, Int.reduceNeg, Int.reduceLE, Int.reduceLT, Int.reduceEq, Int.reduceNe, Int.reduceToNat, ↓reduceIte, reduceCtorEq, implies_true, forall_const, eq_self, ne_eq, wtAll, Try.ntmps51, Try.results51, hh_i5]) ?_)))
  simp only [eq_self, e, e2]
 ·have he : playE p l = 0 := by
   show errE p (planB p l) = 0
   rw [hv]; exact errE_ok k (by ((try clear hh_i5); omega))
  have hF := firstP_of k hv
  have hn : l.length ≤ p.fl.length := by have := (planB_iff.1 hv).1; ((try clear hh_i5); omega)
  have hid' := hid
  simp only [Hp.set_none] at hid
  skip
  simp only [vsAll, okAll, stAll, opsA, opA, dstOk, argFr, Nat.reduceLT, Nat.reduceEqDiff, ↓reduceIte, eq_self]
  refine callK_pure (lost_tri p l false 0 id _ k hA hF hn (by ((try clear hh_i5 hid); omega)) (Hp.set_same _ _ _)) ?_
  rw [moreP_zero]
  simp only [vsAll, binA, binLitA, intA, opA, dstOk, nilSliceOp, Nat.reduceLT, ↓reduceIte, eq_self]
  refine condD (fun hc => ?_) (fun hc => ?_)
  ·have hs : safeB p l = true := decide_eq_true hc
   have ev : floV p l = 2 := by rw [floV, if_pos he, if_pos hs]
   simp only [vsAll, loadA, loadRow, partA, partOk, cellA, cellsA, opA, newCells, okCells, storeObj, dstOk, nilSliceOp, resA, retA.eq_2, Nat.reduceLT, Nat.reduceEqDiff, ↓reduceIte, eq_self, wtAll, Try.results51, hid]
   refine ⟨i5, _, rfl, by simp only [↓reduceIte, eq_self]; try rfl, ?_⟩
   refine dropR_pure ?_ (by (repeat (first | exact HSub_rfl | refine HSub_put_eq (by simp only [vsAll, binA, binLitA, intA, aggA, aggV, boolA, nilA2, isConst, unA, loadA, loadRow, partA, partOk, fieldAddrA, indexAddrA, indexA, fieldA, extractA, lenA, nilCheckA, boxA, boxZ, cellA, cellsA, fillA, okParts, buildSliceA, buildMutA, makeSliceA, partIdx, elemsA, lensA, ifaceA, convA, mmA, pickA, okAll, stAll, opsA, partsA, partsOk, opA, allocA, boxMutA, newCells, okCells, storeObj, appendA, guardV, taA, nM, mapUpA, rangeA, nextA, entryA, lookA, sliceA, sliceM, sliceS, boundsA, opO, okO, copyA, dstOk, nilA, quietOk, nilSliceOp, deferV, panA, resA, argFr, retA.eq_1, retA.eq_2, Nat.reduceAdd, Nat.reduceSub, Nat.reduceMul, Nat.reduceLT, Nat.reduceLeDiff, Nat.reduceEqDiff, Nat.reduceBEq, Int.reduceAdd, Int.reduceSub, Int.reduceMul, Int.reduceNeg, Int.reduceLE, Int.reduceLT, Int.reduceEq, Int.reduceNe, Int.reduceToNat, ↓reduceIte, reduceCtorEq, implies_true, forall_const, eq_self, ne_eq, wtAll, Try.ntmps51, Try.results51, hh_i5, hid]) ?_ | refine HSub_drop2 (by simp only [eq_self, hh_i5, hid]) ?_ | refine HSub_keep_eq (by simp only [vsAll, binA, binLitA, intA, aggA, aggV, boolA, nilA2, isConst, unA, loadA, loadRow, partA, partOk, fieldAddrA, indexAddrA, indexA, fieldA, extractA, lenA, nilCheckA, boxA, boxZ, cellA, cellsA, fillA, okParts, buildSliceA, buildMutA, makeSliceA, partIdx, elemsA, lensA, ifaceA, convA, mmA, pickA, okAll, stAll, opsA, partsA, partsOk, opA, allocA, boxMutA, newCells, okCells, storeObj, appendA, guardV, taA, nM, mapUpA, rangeA, nextA, entryA, lookA, sliceA, sliceM, sliceS, boundsA, opO, okO, copyA, dstOk, nilA, quietOk, nilSliceOp, deferV, panA, resA, argFr, retA.eq_1, retA.eq_2, Nat.reduceAdd, Nat.reduceSub, Nat.reduceMul, Nat.reduceLT, Nat.reduceLeDiff, Nat.reduceEqDiff, Nat.reduceBEq, Int.reduceAdd, Int.reduceSub, Int.reduceMul, Int.reduceNeg, Int.reduceLE, Int.reduceLT, Int.reduceEq, Int.reduceNe, Int.reduceToNat, ↓reduceIte, reduceCtorEq, implies_true, forall_const, eq_self, ne_eq, wtAll, Try.ntmps51, Try.results51, hh_i5, hid]) ?_)))
   simp only [eq_self, he, ev]
  have hs : ¬ safeB p l = true := fun h => hc (of_decide_eq_true h)
  simp only [vsAll, loadA, loadRow, partA, partOk, nilCheckA, fillA, okParts, ifaceA, okAll, stAll, opsA, partsA, partsOk, opA, dstOk, Nat.reduceLT, Nat.reduceEqDiff, ↓reduceIte, eq_self, wtAll]
  refine ⟨_, in_tri p false true 0 _, fun r H' hr => ?_⟩
  obtain ⟨j, hj, rfl, rfl⟩ := hr
  simp only [Hp.set_none] at hj
  have hj' := hj
  skip
  simp only [vsAll, okAll, stAll, opsA, opA, dstOk, argFr, Nat.reduceLT, Nat.reduceEqDiff, ↓reduceIte, eq_self]
  refine callK_pure (lost_tri p l true 0 j _ k hA hF hn (by ((try clear hh_i5 hid hj'); omega)) (Hp.set_same _ _ _)) ?_
  rw [moreP_zero]
  simp only [vsAll, binA, binLitA, intA, opA, dstOk, nilSliceOp, Nat.reduceLT, ↓reduceIte, eq_self]
  refine condD (fun hc2 => ?_) (fun hc2 => ?_)
  ·have ev : floV p l = 0 := by rw [floV, if_pos he, if_neg hs, if_pos hc2]
   simp only [vsAll, loadA, loadRow, partA, partOk, cellA, cellsA, opA, newCells, okCells, storeObj, dstOk, nilSliceOp, resA, retA.eq_2, Nat.reduceLT, Nat.reduceEqDiff, ↓reduceIte, eq_self, wtAll, Try.results51, hid, hj']
   refine ⟨i5, _, rfl, by simp only [↓reduceIte, eq_self]; try rfl, ?_⟩
   refine dropR_pure ?_ (by (repeat (first | exact HSub_rfl | refine HSub_put_eq (by simp only [vsAll, binA, binLitA, intA, aggA, aggV, boolA, nilA2, isConst, unA, loadA, loadRow, partA, partOk, fieldAddrA, indexAddrA, indexA, fieldA, extractA, lenA, nilCheckA, boxA, boxZ, cellA, cellsA, fillA, okParts, buildSliceA, buildMutA, makeSliceA, partIdx, elemsA, lensA, ifaceA, convA, mmA, pickA, okAll, stAll, opsA, partsA, partsOk, opA, allocA, boxMutA, newCells, okCells, storeObj, appendA, guardV, taA, nM, mapUpA, rangeA, nextA, entryA, lookA, sliceA, sliceM, sliceS, boundsA, opO, okO, copyA, dstOk, nilA, quietOk, nilSliceOp, deferV, panA, resA, argFr, retA.eq_1, retA.eq_2, Nat.reduceAdd, Nat.reduceSub, Nat.reduceMul, Nat.reduceLT, Nat.reduceLeDiff, Nat.reduceEqDiff, Nat.reduceBEq, Int.reduceAdd, Int.reduceSub, Int.reduceMul, Int.reduceNeg, Int.reduceLE, Int.reduceLT, Int.reduceEq, Int.reduceNe, Int.reduceToNat, ↓reduceIte, reduceCtorEq, implies_true, forall_const, eq_self, ne_eq, wtAll, Try.ntmps51, Try.results51, hh_i5, hid, hj']) ?_ | refine HSub_drop2 (by simp only [eq_self, hh_i5, hid, hj']) ?_ | refine HSub_keep_eq (by simp only [vsAll, binA, binLitA, intA, aggA, aggV, boolA, nilA2, isConst, unA, loadA, loadRow, partA, partOk, fieldAddrA, indexAddrA, indexA, fieldA, extractA, lenA, nilCheckA, boxA, boxZ, cellA, cellsA, fillA, okParts, buildSliceA, buildMutA, makeSliceA, partIdx, elemsA, lensA, ifaceA, convA, mmA, pickA, okAll, stAll, opsA, partsA, partsOk, opA, allocA, boxMutA, newCells, okCells, storeObj, appendA, guardV, taA, nM, mapUpA, rangeA, nextA, entryA, lookA, sliceA, sliceM, sliceS, boundsA, opO, okO, copyA, dstOk, nilA, quietOk, nilSliceOp, deferV, panA, resA, argFr, retA.eq_1, retA.eq_2, Nat.reduceAdd, Nat.reduceSub, Nat.reduceMul, Nat.reduceLT, Nat.reduceLeDiff, Nat.reduceEqDiff, Nat.reduceBEq, Int.reduceAdd, Int.reduceSub, Int.reduceMul, Int.reduceNeg, Int.reduceLE, Int.reduceLT, Int.reduceEq, Int.reduceNe, Int.reduceToNat, ↓reduceIte, reduceCtorEq, implies_true, forall_const, eq_self, ne_eq, wtAll, Try.ntmps51, Try.results51, hh_i5, hid, hj']) ?_)))
   simp only [eq_self, he, ev]
  ·have ev : floV p l = 1 := by rw [floV, if_pos he, if_neg hs, if_neg hc2]
   simp only [vsAll, loadA, loadRow, partA, partOk, cellA, cellsA, opA, newCells, okCells, storeObj, dstOk, nilSliceOp, resA, retA.eq_2, Nat.reduceLT, Nat.reduceEqDiff, ↓reduceIte, eq_self, wtAll, Try.results51, hid, hj']
   refine ⟨i5, _, rfl, by simp only [↓reduceIte, eq_self]; try rfl, ?_⟩
   refine dropR_pure ?_ (by (repeat (first | exact HSub_rfl | refine HSub_put_eq (by simp only [vsAll, binA, binLitA, intA, aggA, aggV, boolA, nilA2, isConst, unA, loadA, loadRow, partA, partOk, fieldAddrA, indexAddrA, indexA, fieldA, extractA, lenA, nilCheckA, boxA, boxZ, cellA, cellsA, fillA, okParts, buildSliceA, buildMutA, makeSliceA, partIdx, elemsA, lensA, ifaceA, convA, mmA, pickA, okAll, stAll, opsA, partsA, partsOk, opA, allocA, boxMutA, newCells, okCells, storeObj, appendA, guardV, taA, nM, mapUpA, rangeA, nextA, entryA, lookA, sliceA, sliceM, sliceS, boundsA, opO, okO, copyA, dstOk, nilA, quietOk, nilSliceOp, deferV, panA, resA, argFr, retA.eq_1, retA.eq_2, Nat.reduceAdd, Nat.reduceSub, Nat.reduceMul, Nat.reduceLT, Nat.reduceLeDiff, Nat.reduceEqDiff, Nat.reduceBEq, Int.reduceAdd, Int.reduceSub, Int.reduceMul, Int.reduceNeg, Int.reduceLE, Int.reduceLT, Int.reduceEq, Int.reduceNe, Int.reduceToNat, ↓reduceIte, reduceCtorEq, implies_true, forall_const, eq_self, ne_eq, wtAll, Try.ntmps51, Try.results51, hh_i5, hid, hj']) ?_ | refine HSub_drop2 (by simp only [eq_self, hh_i5, hid, hj']) ?_ | refine HSub_keep_eq (by simp only [vsAll, binA, binLitA, intA, aggA, aggV, boolA, nilA2, isConst, unA, loadA, loadRow, partA, partOk, fieldAddrA, indexAddrA, indexA, fieldA, extractA, lenA, nilCheckA, boxA, boxZ, cellA, cellsA, fillA, okParts, buildSliceA, buildMutA, makeSliceA, partIdx, elemsA, lensA, ifaceA, convA, mmA, pickA, okAll, stAll, opsA, partsA, partsOk, opA, allocA, boxMutA, newCells, okCells, storeObj, appendA, guardV, taA, nM, mapUpA, rangeA, nextA, entryA, lookA, sliceA, sliceM, sliceS, boundsA, opO, okO, copyA, dstOk, nilA, quietOk, nilSliceOp, deferV, panA, resA, argFr, retA.eq_1, retA.eq_2, Nat.reduceAdd, Nat.reduceSub, Nat.reduceMul, Nat.reduceLT, Nat.reduceLeDiff, Nat.reduceEqDiff, Nat.reduceBEq, Int.reduceAdd, Int.reduceSub, Int.reduceMul, Int.reduceNeg, Int.reduceLE, Int.reduceLT, Int.reduceEq, Int.reduceNe, Int.reduceToNat, ↓reduceIte, reduceCtorEq, implies_true, forall_const, eq_self, ne_eq, wtAll, Try.ntmps51, Try.results51, hh_i5, hid, hj']) ?_)))
   simp only [eq_self, he, ev]
end Go.Proofs.Ytclkjifgipcamaa.Pm
end
section
set_option linter.unusedVariables false
set_option linter.unusedSimpArgs false
set_option maxHeartbeats 4000000
set_option maxRecDepth 100000
namespace Go.Proofs.Ytclkjifgipcamaa.Pm
open Go.V Wl
theorem vs_entF {P : Program} {m : Option Tmp → Bool} {n : Nat} {k : List It} {s : Fr} {ds : List AD} {H : Hp} {Q : Post} {g : Operand} {ps : Array Tmp} {assign body : Code} (h : Ent s ds H fun s ds H => VS none P m n (.code (.rangeFunc g ps assign body) :: k) s ds H Q) : VS none P m n (.code (.rangeFunc g ps assign body) :: k) s ds H Q :=
 (wps_ent h : WPS none P n (.rangeFunc g ps assign body) s ds H (TK none P m n k Q))
/-- The best and the worst water after so many hours: the first ones with both. -/
def plyH (p : Pu) (l : List Int) (a n : Nat) : List (Int × Int) := (List.range n).map fun i => (watV p l true (i + 1), if i < a then watV p l false (i + 1) else 0)
theorem plyH_len (p : Pu) (l : List Int) (a n : Nat) : (plyH p l a n).length = n := by simp [plyH]
theorem plyH_succ (p : Pu) (l : List Int) (n : Nat) : plyH p l 0 (n + 1) = plyH p l 0 n ++ [(watV p l true (n + 1), 0)] := by simp [plyH, List.range_succ]
theorem plyH_all (p : Pu) (l : List Int) (n : Nat) : plyH p l n n = plyL p l n := by
 unfold plyH plyL
 refine List.map_congr_left fun i hi => ?_
 rw [if_pos (List.mem_range.1 hi)]
theorem plyH_at (p : Pu) (l : List Int) (a : Nat) {n i : Nat} (hi : i < n) : (plyH p l a n).getD i (0, 0) = (watV p l true (i + 1), if i < a then watV p l false (i + 1) else 0) := by
 simp [plyH, List.getD_eq_getElem?_getD, hi]
theorem plyH_upd (p : Pu) (l : List Int) {n i : Nat} (hi : i < n) (q : Nat) (hq : q < n) : updF n i (spanF (plyH p l i n)) (List.take 1 (spanF (plyH p l i n) i) ++ [i64 (watV p l false (i + 1))] ++ List.drop 2 (spanF (plyH p l i n) i)) q = spanF (plyH p l (i + 1) n) q := by
 rw [updF_at hi hq]
 by_cases e : q = i
 ·subst e
  simp only [spanF, plyH_at p l _ hi, Nat.lt_succ_self, if_true]
  simp
 ·simp only [spanF, plyH_at p l _ hq]
  have : (q < i) = (q < i + 1) := by apply propext; omega
  simp [e, this]
/-- What is told of the water, in a row of its own. -/
def playR (p : Pu) (l : List Int) (H : Hp) : Res → Hp → Prop := fun r H' => ∃ id, H id = none ∧ r = .ret (.tuple [.sl id 2 (playV p l).length, i64 (playE p l)]) ∧ H' = H.set id (.row 2 (playV p l).length (spanF (playV p l)))
theorem wplay_triM (p : Pu) (l : List Int) (H : Hp) (kn : Near p) (hl : l.length ≤ 41) : Tri Try.prog (fnA 13) [p.av, intsAV l] H (playR p l H) := by
 refine Tri.drop ?_
 refine tri_am (m := mset [4]) ans40 Try.func13 (by kernel_rfl) rfl (by simp only [List.length_append, List.length_cons, List.length_nil, Try.ntmps13]; decide) ?_
 simp only [vsAll, boxA, boxZ, okAll, stAll, opsA, opA, allocA, dstOk, nilA, argFr, Nat.reduceAdd, Nat.reduceLT, Nat.reduceBEq, ↓reduceIte, eq_self, wtAll, Try.ntmps13]
 intro i4 hh_i4; (try simp only [Hp.set_none, ite_none] at hh_i4); intro i5 hh_i5; (try simp only [ite_none] at hh_i5)
 refine vs_draw2 [0, 0, 0, 0, 1, 2] [([0, 1, 2, 3], [], 4)] [5] (by decide +kernel) ?_
 simp only [vsAll, loadA, loadRow, partA, partOk, opA, dstOk, argFr, Nat.reduceLT, Nat.reduceEqDiff, ↓reduceIte, eq_self, wtAll]
 refine qcall _ ⟨trivial, by simp only [vsAll, okAll, opsA, opA, Nat.reduceEqDiff, ↓reduceIte, eq_self], isPlan_tri p l _⟩ ?_
 simp only [vsAll, okAll, stAll, opsA, opA, dstOk, Nat.reduceLT, Nat.reduceEqDiff, ↓reduceIte, eq_self]
 refine open_call (open_tri p _ (planB p l) _ kn trivial rfl (fun k H' => isPlan1_tri p l H' k hl)) (fun he => ?_) (fun k hv hA id hid => ?_)
 ·have e2 : playV p l = [] := if_neg he
  have e : playE p l = errE p (planB p l) := rfl
  simp only [vsAll, loadA, loadRow, partA, partOk, resA, retA.eq_2, Nat.reduceEqDiff, ↓reduceIte, eq_self, wtAll, Try.results13]
  refine ⟨errE p (planB p l), i5, _, rfl, rfl, by simp only [↓reduceIte, eq_self]; try rfl, ?_⟩
  simp only [vsAll, Nat.reduceLT, ↓reduceIte, eq_self]
  refine ⟨_, ?_, i4, hh_i4, by simp only [vsAll, eq_self, e2, e]; try rfl, rfl⟩
  rw [e2]
  refine HSub_put (o' := .row 2 0 fun _ => []) (by simp only [vsAll, ↓reduceIte, eq_self, hh_i5]) (row0_le _ _ _) ?_
  (repeat (first | exact HSub_rfl | refine HSub_put_eq (by simp only [vsAll, binA, binLitA, intA, aggA, aggV, boolA, nilA2, isConst, unA, loadA, loadRow, partA, partOk, fieldAddrA, indexAddrA, indexA, fieldA, extractA, lenA, nilCheckA, boxA, boxZ, cellA, cellsA, fillA, okParts, buildSliceA, buildMutA, makeSliceA, partIdx, elemsA, lensA, ifaceA, convA, mmA, pickA, okAll, stAll, opsA, partsA, partsOk, opA, allocA, boxMutA, newCells, okCells, storeObj, appendA, guardV, taA, nM, mapUpA, rangeA, nextA, entryA, lookA, sliceA, sliceM, sliceS, boundsA, opO, okO, copyA, dstOk, nilA, quietOk, nilSliceOp, deferV, panA, resA, argFr, retA.eq_1, retA.eq_2, Nat.reduceAdd, Nat.reduceSub, Nat.reduceMul, Nat.reduceLT, Nat.reduceLeDiff, Nat.reduceEqDiff, Nat.reduceBEq, Int.reduceAdd, Int.reduceSub, Int.reduceMul, Int.reduceNeg, Int.reduceLE, Int.reduceLT, Int.reduceEq, Int.reduceNe, Int.reduceToNat, ↓reduceIte, reduceCtorEq, implies_true, forall_const, eq_self, ne_eq, wtAll, Try.ntmps13, Try.results13, hh_i4, hh_i5]) ?_ | refine HSub_drop2 (by simp only [eq_self, hh_i4, hh_i5]) ?_ | refine HSub_keep_eq (by simp only [vsAll, binA, binLitA, intA, aggA, aggV, boolA, nilA2, isConst, unA, loadA, loadRow, partA, partOk, fieldAddrA, indexAddrA, indexA, fieldA, extractA, lenA, nilCheckA, boxA, boxZ, cellA, cellsA, fillA, okParts, buildSliceA, buildMutA, makeSliceA, partIdx, elemsA, lensA, ifaceA, convA, mmA, pickA, okAll, stAll, opsA, partsA, partsOk, opA, allocA, boxMutA, newCells, okCells, storeObj, appendA, guardV, taA, nM, mapUpA, rangeA, nextA, entryA, lookA, sliceA, sliceM, sliceS, boundsA, opO, okO, copyA, dstOk, nilA, quietOk, nilSliceOp, deferV, panA, resA, argFr, retA.eq_1, retA.eq_2, Nat.reduceAdd, Nat.reduceSub, Nat.reduceMul, Nat.reduceLT, Nat.reduceLeDiff, Nat.reduceEqDiff, Nat.reduceBEq, Int.reduceAdd, Int.reduceSub, Int.reduceMul, Int.reduceNeg, Int.reduceLE, Int.reduceLT, Int.reduceEq, Int.reduceNe, Int.reduceToNat, ↓reduceIte, reduceCtorEq, implies_true, forall_const, eq_self, ne_eq, wtAll, Try.ntmps13, Try.results13, hh_i4, hh_i5]) ?_))
 ·have he : playE p l = 0 := by
   show errE p (planB p l) = 0
   rw [hv]; exact errE_ok k (by ((try clear hh_i4 hh_i5); omega))
  have hF := firstP_of k hv
  have hn : l.length ≤ p.fl.length := by have := (planB_iff.1 hv).1; ((try clear hh_i4 hh_i5); omega)
  have hid' := hid
  simp only [Hp.set_none] at hid
  skip
  simp only [vsAll, loadA, loadRow, partA, partOk, nilCheckA, fillA, okParts, ifaceA, okAll, stAll, opsA, partsA, partsOk, opA, allocA, dstOk, Nat.reduceLT, Nat.reduceEqDiff, ↓reduceIte, eq_self, wtAll]
  intro i7 hh_i7; (try simp only [ite_none] at hh_i7)
  simp only [vsAll, Nat.reduceLT, ↓reduceIte, eq_self, hh_i7]
  refine ⟨_, in_tri p false true 0 _, fun r H' hr => ?_⟩
  obtain ⟨j, hj, rfl, rfl⟩ := hr
  simp only [Hp.set_none] at hj
  have hj' := hj
  skip
  simp only [vsAll, okAll, stAll, opsA, opA, dstOk, argFr, Nat.reduceLT, Nat.reduceEqDiff, ↓reduceIte, eq_self]
  refine callK_pure (run_tri p l j _) ?_
  simp only [vsAll]
  refine vs_entF (Ent.nilBox 2 (spanF []) (fun id _ => [.sl id 2 0]) (j := i7) (st' := 1) (n' := 1) (g := fun _ => [.lit (.slice none 0 0)]) ((Hp.set_ne _ _ hj.1.2).trans (Hp.set_same _ _ _)) (fun _ _ _ => rfl) (fun id q d hq hd => ?_) fun ih hih => ?_)
  ·match d, hd with
   | 0, _ => exact .hit
  simp only [Hp.set_none] at hih
  have hih' := hih
  skip
  refine vs_rangeB (σ := Unit) (runL p l true 0) (fun _ _ => True)
   (fun i _ => (((((H.set i4 (.row 2 0 fun _ => [])).set i5 (.box 1 1 fun _ => [i64 0])).set id (.box 9 1 fun _ => pmC p false 0)).set j (.box 9 1 fun _ => pmC p true 0)).set ih (.row 2 i (spanF (plyH p l 0 i)))).set i7 (.box 1 1 fun _ => [.sl ih 2 i])) () (PmAt p true 0 j) Try.func97 (by kernel_rfl) rfl (by simp only [vsAll, opA, ↓reduceIte, eq_self]) (by simp only [vsAll, opA, ↓reduceIte, eq_self]) (by decide) (fun v hv => by obtain ⟨q, _, rfl⟩ := List.mem_map.1 hv; rfl)
   (fun yf H K hp hi => run1_tri p l true 0 j k hA hF hn (by ((try clear hh_i4 hh_i5 hid hh_i7 hj' hih'); omega)) yf H K hi hp) trivial ?_ ?_ ?_ ?_ ?_
  ·show Go.V.HSub _ ((((((H.set i4 (.row 2 0 fun _ => [])).set i5 (.box 1 1 fun _ => [i64 0])).set id (.box 9 1 fun _ => pmC p false 0)).set j (.box 9 1 fun _ => pmC p true 0)).set ih (.row 2 0 (spanF []))).set i7 (.box 1 1 fun _ => [.sl ih 2 0]))
   (repeat (first | exact HSub_rfl | refine HSub_put_eq (by simp only [vsAll, ↓reduceIte, eq_self, hh_i5, hid, hh_i7, hj', hih']) ?_ | refine HSub_drop2 (by simp only [eq_self, hh_i4, hh_i5, hid, hh_i7, hj', hih']) ?_ | refine HSub_keep_eq (by simp only [vsAll, binA, binLitA, intA, aggA, aggV, boolA, nilA2, isConst, unA, loadA, loadRow, partA, partOk, fieldAddrA, indexAddrA, indexA, fieldA, extractA, lenA, nilCheckA, boxA, boxZ, cellA, cellsA, fillA, okParts, buildSliceA, buildMutA, makeSliceA, partIdx, elemsA, lensA, ifaceA, convA, mmA, pickA, okAll, stAll, opsA, partsA, partsOk, opA, allocA, boxMutA, newCells, okCells, storeObj, appendA, guardV, taA, nM, mapUpA, rangeA, nextA, entryA, lookA, sliceA, sliceM, sliceS, boundsA, opO, okO, copyA, dstOk, nilA, quietOk, nilSliceOp, deferV, panA, resA, argFr, retA.eq_1, retA.eq_2, Nat.reduceAdd, Nat.reduceSub, Nat.reduceMul, Nat.reduceLT, Nat.reduceLeDiff, Nat.reduceEqDiff, Nat.reduceBEq, Int.reduceAdd, Int.reduceSub, Int.reduceMul, Int.reduceNeg, Int.reduceLE, Int.reduceLT, Int.reduceEq, Int.reduceNe, Int.reduceToNat, ↓reduceIte, reduceCtorEq, implies_true, forall_const, eq_self, ne_eq, wtAll, Try.ntmps13, Try.results13, hh_i4, hh_i5, hid, hh_i7, hj', hih']) ?_))
  ·intro i _ _ q
   simp only [Hp.set_none]
  ·intro i x hi lid did o1 o2 h1 h2
   simp only [Hp.set_none] at h1 h2
   show Hp.set (Hp.set (Hp.set (Hp.set (Hp.set (Hp.set (Hp.set (Hp.set H i4 _) i5 _) id _) j _) ih _) i7 _) did _) lid _ j = _
   simp only [vsAll, ↓reduceIte, eq_self, hj', hih', h1, h2]
  ·rintro j2 o i v ⟨⟩ hv hi hj2 lid did l' lo h1 h2 h3 h5 h6
   simp only [Hp.set_none] at hj2 h1 h2
   have h4 : ¬ did = lid := fun e => h3 e.symm
   have h5' : ¬ lid = j2 := fun e => h5 e.symm
   have h6' : ¬ did = j2 := fun e => h6 e.symm
   skip
   obtain ⟨his, rfl⟩ := runL_get hv
   simp only [vsAll, loadA, loadRow, partA, partOk, fieldAddrA, cellA, cellsA, fillA, okParts, buildSliceA, partIdx, elemsA, lensA, partsA, partsOk, opA, allocA, newCells, okCells, storeObj, appendA, dstOk, quietOk, Nat.reduceAdd, Nat.reduceMul, Nat.reduceLT, Nat.reduceLeDiff, Nat.reduceEqDiff, Nat.reduceBEq, ↓reduceIte, eq_self, wtAll, hj2, h1, h2]
   intro i9 hh_i9; (try simp only [ite_none] at hh_i9)
   refine ⟨?_, ?_⟩
   ·simp only [↓reduceIte, eq_self, hh_i9]
   simp only [vsAll, Nat.reduceAdd, Nat.reduceLT, ↓reduceIte, eq_self, hih', hj2, h1, h2, hh_i9]
   rw [moreP_zero, app_spans' (plyH_len p l 0 i) (watV p l true (i + 1)) 0 _ rfl, ← plyH_succ]
   exact ⟨fun q hq => by (have : q = 0 := by ((try clear hh_i4 hh_i5 hid hh_i7 hj' hih' hj2 h1 h2 h3 h4 h5 h6 h5' h6' hh_i9); omega)); subst this; exact ⟨rfl, rfl, trivial⟩, by ((try clear hh_i4 hh_i5 hid hh_i7 hj' hih' hj2 h1 h2 h3 h4 h5 h6 h5' h6' hh_i9); omega), by ((try clear hh_i4 hh_i5 hid hh_i7 hj' hih' hj2 h1 h2 h3 h4 h5 h6 h5' h6' hh_i9); omega), ⟨_, _, rfl⟩, _, ⟨(), rfl⟩, by (repeat (first | exact HSub_rfl | refine HSub_put_eq (by simp only [vsAll, ↓reduceIte, eq_self, hh_i5, hid, hh_i7, hj', hih', hj2, h1, h2, h4, h5, h6, hh_i9]) ?_ | refine HSub_drop2 (by simp only [eq_self, hh_i4, hh_i5, hid, hh_i7, hj', hih', hj2, h1, h2, hh_i9]) ?_ | refine HSub_keep_eq (by simp only [vsAll, binA, binLitA, intA, aggA, aggV, boolA, nilA2, isConst, unA, loadA, loadRow, partA, partOk, fieldAddrA, indexAddrA, indexA, fieldA, extractA, lenA, nilCheckA, boxA, boxZ, cellA, cellsA, fillA, okParts, buildSliceA, buildMutA, makeSliceA, partIdx, elemsA, lensA, ifaceA, convA, mmA, pickA, okAll, stAll, opsA, partsA, partsOk, opA, allocA, boxMutA, newCells, okCells, storeObj, appendA, guardV, taA, nM, mapUpA, rangeA, nextA, entryA, lookA, sliceA, sliceM, sliceS, boundsA, opO, okO, copyA, dstOk, nilA, quietOk, nilSliceOp, deferV, panA, resA, argFr, retA.eq_1, retA.eq_2, Nat.reduceAdd, Nat.reduceSub, Nat.reduceMul, Nat.reduceLT, Nat.reduceLeDiff, Nat.reduceEqDiff, Nat.reduceBEq, Int.reduceAdd, Int.reduceSub, Int.reduceMul, Int.reduceNeg, Int.reduceLE, Int.reduceLT, Int.reduceEq, Int.reduceNe, Int.reduceToNat, ↓reduceIte, reduceCtorEq, implies_true, forall_const, eq_self, ne_eq, wtAll, Try.ntmps13, Try.results13, hh_i4, hh_i5, hid, hh_i7, hj', hih', hj2, h1, h2, h3, h4, h5, h6, h5', h6', hh_i9]) ?_))⟩
  ·rintro ⟨⟩ hi lid did lo h1 h2 h3
   simp only [Hp.set_none] at h1 h2
   have h4 : ¬ did = lid := fun e => h3 e.symm
   skip
   rw [runL_len]
   simp only [vsAll, okAll, stAll, opsA, opA, dstOk, argFr, Nat.reduceLT, Nat.reduceEqDiff, ↓reduceIte, eq_self]
   refine callK_pure (run_tri p l id _) ?_
   simp only [vsAll]
   refine vs_rangeB (σ := Unit) (runL p l false 0) (fun _ _ => True)
    (fun i _ => ((((((H.set i4 (.row 2 0 fun _ => [])).set i5 (.box 1 1 fun _ => [i64 0])).set id (.box 9 1 fun _ => pmC p false 0)).set j (.box 9 1 fun _ => pmC p true 0)).set ih (.row 2 l.length (spanF (plyH p l i l.length)))).set i7 (.box 1 1 fun _ => [.sl ih 2 l.length])).set did (.raw (.deferred (some [])))) () (PmAt p false 0 id) Try.func97 (by kernel_rfl) rfl (by simp only [vsAll, opA, ↓reduceIte, eq_self]) (by simp only [vsAll, opA, ↓reduceIte, eq_self]) (by decide) (fun v hv => by obtain ⟨q, _, rfl⟩ := List.mem_map.1 hv; rfl)
    (fun yf H K hp hi => run1_tri p l false 0 id k hA hF hn (by ((try clear hh_i4 hh_i5 hid hh_i7 hj' hih' h1 h2 h3 h4); omega)) yf H K hi hp) trivial ?_ ?_ ?_ ?_ ?_
   ·(repeat (first | exact HSub_rfl | refine HSub_put_eq (by simp only [vsAll, ↓reduceIte, eq_self, hh_i5, hid, hh_i7, hj', hih', h1, h2, h4]) ?_ | refine HSub_drop2 (by simp only [eq_self, hh_i4, hh_i5, hid, hh_i7, hj', hih', h1, h2]) ?_ | refine HSub_keep_eq (by simp only [vsAll, binA, binLitA, intA, aggA, aggV, boolA, nilA2, isConst, unA, loadA, loadRow, partA, partOk, fieldAddrA, indexAddrA, indexA, fieldA, extractA, lenA, nilCheckA, boxA, boxZ, cellA, cellsA, fillA, okParts, buildSliceA, buildMutA, makeSliceA, partIdx, elemsA, lensA, ifaceA, convA, mmA, pickA, okAll, stAll, opsA, partsA, partsOk, opA, allocA, boxMutA, newCells, okCells, storeObj, appendA, guardV, taA, nM, mapUpA, rangeA, nextA, entryA, lookA, sliceA, sliceM, sliceS, boundsA, opO, okO, copyA, dstOk, nilA, quietOk, nilSliceOp, deferV, panA, resA, argFr, retA.eq_1, retA.eq_2, Nat.reduceAdd, Nat.reduceSub, Nat.reduceMul, Nat.reduceLT, Nat.reduceLeDiff, Nat.reduceEqDiff, Nat.reduceBEq, Int.reduceAdd, Int.reduceSub, Int.reduceMul, Int.reduceNeg, Int.reduceLE, Int.reduceLT, Int.reduceEq, Int.reduceNe, Int.reduceToNat, ↓reduceIte, reduceCtorEq, implies_true, forall_const, eq_self, ne_eq, wtAll, Try.ntmps13, Try.results13, hh_i4, hh_i5, hid, hh_i7, hj', hih', h1, h2, h3, h4]) ?_))
   ·intro i _ _ q
    simp only [Hp.set_none]
   ·intro i x hi lid2 did2 o1 o2 g1 g2
    simp only [Hp.set_none] at g1 g2
    show Hp.set (Hp.set (Hp.set (Hp.set (Hp.set (Hp.set (Hp.set (Hp.set (Hp.set H i4 _) i5 _) id _) j _) ih _) i7 _) did _) did2 _) lid2 _ id = _
    simp only [vsAll, ↓reduceIte, eq_self, hh_i7, hj', hih', h2, g1, g2]
   ·rintro j3 o i v ⟨⟩ hv hi hj3 lid2 did2 l' lo2 g1 g2 g3 g5 g6
    simp only [Hp.set_none] at hj3 g1 g2
    have g4 : ¬ did2 = lid2 := fun e => g3 e.symm
    have g5' : ¬ lid2 = j3 := fun e => g5 e.symm
    have g6' : ¬ did2 = j3 := fun e => g6 e.symm
    skip
    obtain ⟨his, rfl⟩ := runL_get hv
    simp only [vsAll, loadA, loadRow, partA, partOk, fieldAddrA, indexAddrA, cellA, cellsA, opA, allocA, newCells, okCells, storeObj, dstOk, quietOk, nilSliceOp, Nat.reduceAdd, Nat.reduceLT, Nat.reduceEqDiff, Nat.reduceBEq, ↓reduceIte, reduceCtorEq, eq_self, wtAll, h2, hj3, g1, g2]
    intro i11 hh_i11; (try simp only [ite_none] at hh_i11)
    refine ⟨?_, ?_⟩
    ·simp only [↓reduceIte, eq_self, hh_i11]
    simp only [vsAll, cellA, okCells, Nat.reduceAdd, Nat.reduceLT, ↓reduceIte, eq_self, hih', h2, hj3, g1, g2, hh_i11]
    rw [moreP_zero]
    refine ⟨⟨by ((try clear hh_i4 hh_i5 hid hh_i7 hj' hih' h1 h2 h3 h4 hj3 g1 g2 g3 g4 g5 g6 g5' g6' hh_i11); omega), by ((try clear hh_i4 hh_i5 hid hh_i7 hj' hih' h1 h2 h3 h4 hj3 g1 g2 g3 g4 g5 g6 g5' g6' hh_i11); omega)⟩, his, ⟨_, _, rfl⟩, _, ⟨(), rfl⟩, ?_⟩
    refine HSub_put_eq (by simp only [vsAll, ↓reduceIte, eq_self, g1]) ?_
    refine HSub_put_eq (by simp only [vsAll, ↓reduceIte, eq_self, g2, g4, hh_i11]) ?_
    refine HSub_put_eq (by simp only [vsAll, ↓reduceIte, eq_self, hj3, g5, g6, hh_i11]) ?_
    refine HSub_put_eq (by simp only [vsAll, ↓reduceIte, eq_self, h2, hj3, g1, g2, hh_i11]) ?_
    refine HSub_put_eq (by simp only [vsAll, ↓reduceIte, eq_self, hih', h2, hj3, g1, g2, hh_i11]) ?_
    refine HSub_put (o' := .row 2 l.length (updF l.length i (spanF (plyH p l i l.length)) (List.take 1 (spanF (plyH p l i l.length) i) ++ [i64 (watV p l false (i + 1))] ++ List.drop 2 (spanF (plyH p l i l.length) i)))) (by simp only [vsAll, ↓reduceIte, eq_self]) (row_ext (plyH_upd p l his)) ?_
    (repeat (first | exact HSub_rfl | refine HSub_put_eq (by simp only [vsAll, ↓reduceIte, eq_self, hh_i5, hid, hh_i7, hj', hih', h2, hj3, g1, g2, hh_i11]) ?_ | refine HSub_drop2 (by simp only [eq_self, hh_i4, hh_i5, hid, hh_i7, hj', hih', h2, hj3, g1, g2, hh_i11]) ?_ | refine HSub_keep_eq (by simp only [vsAll, binA, binLitA, intA, aggA, aggV, boolA, nilA2, isConst, unA, loadA, loadRow, partA, partOk, fieldAddrA, indexAddrA, indexA, fieldA, extractA, lenA, nilCheckA, boxA, boxZ, cellA, cellsA, fillA, okParts, buildSliceA, buildMutA, makeSliceA, partIdx, elemsA, lensA, ifaceA, convA, mmA, pickA, okAll, stAll, opsA, partsA, partsOk, opA, allocA, boxMutA, newCells, okCells, storeObj, appendA, guardV, taA, nM, mapUpA, rangeA, nextA, entryA, lookA, sliceA, sliceM, sliceS, boundsA, opO, okO, copyA, dstOk, nilA, quietOk, nilSliceOp, deferV, panA, resA, argFr, retA.eq_1, retA.eq_2, Nat.reduceAdd, Nat.reduceSub, Nat.reduceMul, Nat.reduceLT, Nat.reduceLeDiff, Nat.reduceEqDiff, Nat.reduceBEq, Int.reduceAdd, Int.reduceSub, Int.reduceMul, Int.reduceNeg, Int.reduceLE, Int.reduceLT, Int.reduceEq, Int.reduceNe, Int.reduceToNat, ↓reduceIte, reduceCtorEq, implies_true, forall_const, eq_self, ne_eq, wtAll, Try.ntmps13, Try.results13, hh_i4, hh_i5, hid, hh_i7, hj', hih', h1, h2, h3, h4, hj3, g1, g2, g3, g4, g5, g6, g5', g6', hh_i11]) ?_))
   ·rintro ⟨⟩ hi lid2 did2 lo2 g1 g2 g3
    simp only [Hp.set_none] at g1 g2
    have g4 : ¬ did2 = lid2 := fun e => g3 e.symm
    skip
    rw [runL_len]
    simp only [vsAll, loadA, loadRow, partA, partOk, cellA, cellsA, opA, newCells, okCells, storeObj, dstOk, nilSliceOp, resA, retA.eq_2, Nat.reduceLT, Nat.reduceEqDiff, Nat.reduceBEq, ↓reduceIte, eq_self, wtAll, Try.results13, hid, hh_i7, hj', hih', h2, g1, g2, g4]
    have ev : playV p l = plyL p l l.length := if_pos he
    have el : (playV p l).length = l.length := by rw [ev, ply_len]
    refine ⟨i5, _, rfl, by simp only [↓reduceIte, eq_self, h2, g2]; try rfl, ?_⟩
    rw [plyH_all]
    refine ⟨H.set ih (.row 2 (playV p l).length (spanF (playV p l))), ?_, ih, by simp only [eq_self, hih'], by simp only [eq_self, el, he]; try rfl, rfl⟩
    rw [el, ev]
    (repeat (first | exact HSub_rfl | refine HSub_put_eq (by simp only [vsAll, ↓reduceIte, eq_self, hih', h2, g1, g2]) ?_ | refine HSub_drop2 (by simp only [eq_self, hh_i4, hh_i5, hid, hh_i7, hj', hih', h2, g1, g2]) ?_ | refine HSub_keep_eq (by simp only [vsAll, binA, binLitA, intA, aggA, aggV, boolA, nilA2, isConst, unA, loadA, loadRow, partA, partOk, fieldAddrA, indexAddrA, indexA, fieldA, extractA, lenA, nilCheckA, boxA, boxZ, cellA, cellsA, fillA, okParts, buildSliceA, buildMutA, makeSliceA, partIdx, elemsA, lensA, ifaceA, convA, mmA, pickA, okAll, stAll, opsA, partsA, partsOk, opA, allocA, boxMutA, newCells, okCells, storeObj, appendA, guardV, taA, nM, mapUpA, rangeA, nextA, entryA, lookA, sliceA, sliceM, sliceS, boundsA, opO, okO, copyA, dstOk, nilA, quietOk, nilSliceOp, deferV, panA, resA, argFr, retA.eq_1, retA.eq_2, Nat.reduceAdd, Nat.reduceSub, Nat.reduceMul, Nat.reduceLT, Nat.reduceLeDiff, Nat.reduceEqDiff, Nat.reduceBEq, Int.reduceAdd, Int.reduceSub, Int.reduceMul, Int.reduceNeg, Int.reduceLE, Int.reduceLT, Int.reduceEq, Int.reduceNe, Int.reduceToNat, ↓reduceIte, reduceCtorEq, implies_true, forall_const, eq_self, ne_eq, wtAll, Try.ntmps13, Try.results13, hh_i4, hh_i5, hid, hh_i7, hj', hih', h1, h2, h3, h4, g1, g2, g3, g4]) ?_))
theorem wplay_tri (p : Pu) (l : List Int) (H : Hp) (kn : Near p) (hl : l.length ≤ 41) : PTri Try.prog (fnA 13) [p.av, intsAV l] H (.tuple [spansAV (playV p l), i64 (playE p l)]) := by
 refine Tri.thaw (wplay_triM p l H kn hl) ?_
 rintro r H' ⟨id, hid, rfl, rfl⟩
 right
 exact ⟨_, id, 2, _, _, 0, rfl, Hp.set_same _ _ _, by simp, rfl, rfl, set_del hid⟩
end Go.Proofs.Ytclkjifgipcamaa.Pm
end
section
set_option linter.unusedVariables false
set_option linter.unusedSimpArgs false
set_option maxHeartbeats 4000000
set_option maxRecDepth 100000
namespace Go.Proofs.Ytclkjifgipcamaa.Pm
open Go.V Wl
/-- What tells of decks. -/
abbrev onF (id u S i9 i10 : Nat) : AV := .func (.func 90) [] [.rptr 1 1 (fun _ => [i64 (u : Int)]) 0 0, .ref i9 0 1 0 0, .rptr 1 1 (fun _ => [.ref id 0 9 0 0]) 0 0, .rptr 1 1 (fun _ => [u64 (S : Int)]) 0 0, .ref i10 0 1 0 0, .rptr 1 2 (fun _ => [.func (.func 88) [] [], .func (.func 89) [] []]) 0 0]
theorem FirstL.first {p : Pu} {u : Nat} {l : List Int} (k : Ok p) (h : FirstL p u l) (hu : u ≤ p.fl.length) : FirstP p l := ⟨by have := h.len; have := k.nF; omega, h.at_⟩
theorem dk_rng {p : Pu} (k : Ok p) {u : Nat} {l : List Int} (h : FirstL p u l) (hu : u ≤ p.fl.length) : ∀ x ∈ dkI p l, -1000000 ≤ x ∧ x ≤ 1000000 := by
 have nF := k.nF
 have hl := h.len
 have hm : ∀ v, (menV p l l.length v).1 ≤ 100 ∧ (menV p l l.length v).2 ≤ 100 := fun v => by
  unfold menV
  split
  ·have h1 := doneW_le (p.wt v).re l (v : Int) l.length
   unfold capM
   simp only []
   omega
  ·exact ⟨by decide, by decide⟩
 have hw : 0 ≤ watV p l false l.length ∧ watV p l false l.length ≤ 1000 := by
  have := wat_rng (flowLe_ok k hu) l false l.length hl
  omega
 have h0 := hm 0
 have h1 := hm 1
 have h2 := hm 2
 intro x hx
 unfold dkI at hx
 simp only [List.mem_cons, List.not_mem_nil, or_false] at hx
 rcases hx with rfl | rfl | rfl | rfl | rfl | rfl | rfl | rfl <;> omega
theorem dkP_key {p : Pu} (k : Ok p) {u : Nat} {l : List Int} (h : FirstL p u l) (hu : u ≤ p.fl.length) : ∃ s, keyOf Try.prog 113 (dkP p l) = some s := dkK (dk_rng k h hu)
theorem memT_key {p : Pu} (k : Ok p) {u S : Nat} (hu : u ≤ p.fl.length) {q v : Value} (h : memT p u S q v) : ∃ s, keyOf Try.prog 113 q = some s := by
 obtain ⟨l, h1, rfl, _⟩ := h
 exact dkP_key k h1 hu
theorem bit_eq0 (C i : Nat) : decide ((((((C : Int) / 2 ^ i).toNat &&& 1 : Nat) : Int)) = 0) = !C.testBit i := by
 have e : (C : Int) / 2 ^ i = ((C / 2 ^ i : Nat) : Int) := by simp
 rw [e, Int.toNat_natCast, Nat.and_one_is_mod, Nat.testBit_eq_decide_div_mod_eq]
 have h : C / 2 ^ i % 2 = 0 ∨ C / 2 ^ i % 2 = 1 := by omega
 rcases h with h | h <;> rw [h] <;> rfl
theorem div_rng (C i : Nat) (h : C < 8) : 0 ≤ (C : Int) / 2 ^ i ∧ (C : Int) / 2 ^ i < 8 := by
 have e : (C : Int) / 2 ^ i = ((C / 2 ^ i : Nat) : Int) := by simp
 have := Nat.div_le_self C (2 ^ i)
 rw [e]
 exact ⟨Int.natCast_nonneg _, Int.ofNat_lt.2 (Nat.lt_of_le_of_lt this h)⟩
theorem on_tri {p : Pu} {id u S i9 i10 im : Nat} (k : Ok p) (hA : 0 < (allA p.ho).length) (hu : u ≤ p.fl.length) (hS : S < 8) :
  ∀ (n : Nat) (l : List Int) (H : Hp), l.length + n = u → FirstL p u l → PmAt p false 0 id H → H i9 = some (.box 1 1 fun _ => [.map im]) → H i10 = some (.box 1 1 fun _ => [onF id u S i9 i10]) → H im = some (.memo (memT p u S)) →
    PTri Try.prog (onF id u S i9 i10) [.agg (dkC p l false 0 l.length)] H (knA (leastB p S n l)) := by
 have nF := k.nF
 have nW := k.nW
 intro n
 induction n with
 | zero =>
   intro l H hl hf hp h9 h10 hm
   refine Tri.drop ?_
   refine tri_m (m := fun _ => false) Try.func90 (by kernel_rfl) rfl (by simp only [List.length_append, List.length_cons, List.length_nil, Try.ntmps90]; decide) ?_
   have es : l.length = u := by omega
   rw [es]
   simp only [vsAll, binA, binLitA, intA, loadA, loadRow, partA, partOk, fieldAddrA, boxA, boxZ, opA, allocA, dstOk, nilSliceOp, resA, argFr, retA.eq_2, Nat.reduceAdd, Nat.reduceLT, Nat.reduceEqDiff, Int.reduceNeg, ↓reduceIte, eq_self, wtAll, Try.ntmps90, Try.results90]
   intro i10k hh_i10k; (try simp only [Hp.set_none, ite_none] at hh_i10k)
   exact dropR_pure rfl (by (repeat (first | exact HSub_rfl | refine HSub_put_eq (by simp only [vsAll, binA, binLitA, intA, aggA, aggV, boolA, nilA2, isConst, unA, loadA, loadRow, partA, partOk, fieldAddrA, indexAddrA, indexA, fieldA, extractA, lenA, nilCheckA, boxA, boxZ, cellA, cellsA, fillA, okParts, buildSliceA, buildMutA, makeSliceA, partIdx, elemsA, lensA, ifaceA, convA, mmA, pickA, okAll, stAll, opsA, partsA, partsOk, opA, allocA, boxMutA, newCells, okCells, storeObj, appendA, guardV, taA, nM, mapUpA, rangeA, nextA, entryA, lookA, sliceA, sliceM, sliceS, boundsA, opO, okO, copyA, dstOk, nilA, quietOk, nilSliceOp, deferV, panA, resA, argFr, retA.eq_1, retA.eq_2, Nat.reduceAdd, Nat.reduceSub, Nat.reduceMul, Nat.reduceLT, Nat.reduceLeDiff, Nat.reduceEqDiff, Nat.reduceBEq, Int.reduceAdd, Int.reduceSub, Int.reduceMul, Int.reduceNeg, Int.reduceLE, Int.reduceLT, Int.reduceEq, Int.reduceNe, Int.reduceToNat, ↓reduceIte, reduceCtorEq, implies_true, forall_const, eq_self, ne_eq, wtAll, Try.ntmps90, Try.results90, hh_i10k]) ?_ | refine HSub_drop2 (by simp only [eq_self, hh_i10k]) ?_ | refine HSub_keep_eq (by simp only [vsAll, binA, binLitA, intA, aggA, aggV, boolA, nilA2, isConst, unA, loadA, loadRow, partA, partOk, fieldAddrA, indexAddrA, indexA, fieldA, extractA, lenA, nilCheckA, boxA, boxZ, cellA, cellsA, fillA, okParts, buildSliceA, buildMutA, makeSliceA, partIdx, elemsA, lensA, ifaceA, convA, mmA, pickA, okAll, stAll, opsA, partsA, partsOk, opA, allocA, boxMutA, newCells, okCells, storeObj, appendA, guardV, taA, nM, mapUpA, rangeA, nextA, entryA, lookA, sliceA, sliceM, sliceS, boundsA, opO, okO, copyA, dstOk, nilA, quietOk, nilSliceOp, deferV, panA, resA, argFr, retA.eq_1, retA.eq_2, Nat.reduceAdd, Nat.reduceSub, Nat.reduceMul, Nat.reduceLT, Nat.reduceLeDiff, Nat.reduceEqDiff, Nat.reduceBEq, Int.reduceAdd, Int.reduceSub, Int.reduceMul, Int.reduceNeg, Int.reduceLE, Int.reduceLT, Int.reduceEq, Int.reduceNe, Int.reduceToNat, ↓reduceIte, reduceCtorEq, implies_true, forall_const, eq_self, ne_eq, wtAll, Try.ntmps90, Try.results90, hh_i10k]) ?_)))
 | succ n ih =>
   intro l H hl hf hp h9 h10 hm
   have hne : ¬ l.length = u := by omega
   refine Tri.unpack hm fun es ck hes hpw => ?_
   have hkey : ∃ s, keyOf Try.prog 113 (dkP p l) = some s := dkP_key k hf hu
   obtain ⟨o, hfo, hst, hcase⟩ := found_of und179q key113q hkey (fun e he => memT_key k hu (hes e he)) hpw
   have hback : Go.V.HSub (H.set im (.raw (.map es ck))) H := HSub_set' hm (memo_le hes hpw)
   have n9 : ¬ i9 = im := fun q => by rw [q, hm] at h9; cases h9
   have n10 : ¬ i10 = im := fun q => by rw [q, hm] at h10; cases h10
   have nid : ¬ id = im := fun q => by rw [q] at hp; have := hm.symm.trans hp; cases this
   have n9' : ¬ im = i9 := fun q => n9 q.symm
   have n10' : ¬ im = i10 := fun q => n10 q.symm
   have nid' : ¬ im = id := fun q => nid q.symm
   refine Tri.drop ?_
   refine tri_m (m := fun _ => false) Try.func90 (by kernel_rfl) rfl (by simp only [List.length_append, List.length_cons, List.length_nil, Try.ntmps90]; decide) ?_
   skip
   simp only [vsAll, binA, binLitA, intA, loadA, loadRow, partA, partOk, fieldAddrA, boxA, boxZ, opA, allocA, dstOk, nilSliceOp, argFr, Nat.reduceAdd, Nat.reduceLT, Nat.reduceEqDiff, Int.reduceNeg, ↓reduceIte, eq_self, wtAll, Try.ntmps90]
   intro i10k hh_i10k; (try simp only [ite_none] at hh_i10k)
   have a1 := ne_some hh_i10k.2 hp
   have a2 := ne_some hh_i10k.2 h9
   have a3 := ne_some hh_i10k.2 h10
   have a4 := ne_some hh_i10k.2 hm
   skip
   refine condV (fun hc => ?_) (fun hc => ?_)
   ·simp only [decide_eq_true_eq] at hc; ((try clear hp h9 h10 hm n9 n10 nid n9' n10' nid' hh_i10k a1 a2 a3 a4); omega)
   have e0 : dkC p l false 0 l.length = [i64 (l.length : Int), i64 (menV p l l.length 0).1, i64 (menV p l l.length 0).2, i64 (menV p l l.length 1).1, i64 (menV p l l.length 1).2, i64 (menV p l l.length 2).1, i64 (menV p l l.length 2).2, i64 (watV p l false l.length)] := by
    simp only [dkC, moreP_zero]
   simp only [vsAll, loadA, loadRow, partA, partOk, extractA, cellsA, opA, allocA, newCells, storeObj, lookA, dstOk, nilSliceOp, argFr, Nat.reduceAdd, Nat.reduceMul, Nat.reduceLT, Nat.reduceEqDiff, Int.reduceNeg, ↓reduceIte, eq_self, wtAll, h9, n9, hh_i10k, a2, mapZ179q, e0]
   refine ⟨o, hfo _, ?_⟩
   rcases hcase with ⟨rfl, hno⟩ | ⟨j, en, rfl, hj, hkn⟩
   ·simp only [vsAll, cellA, opA, okCells, dstOk, nilSliceOp, Nat.reduceAdd, Nat.reduceLT, Int.reduceNeg, eq_self]
    intro i11 hh_i11; (try simp only [ite_none] at hh_i11)
    have b1 := ne_some hh_i11.2.2 hp
    have b2 := ne_some hh_i11.2.2 h9
    have b3 := ne_some hh_i11.2.2 h10
    have b4 := ne_some hh_i11.2.2 hm
    skip
    generalize hpv : rowB p S (leastB p S n) l = pv
    have hpv0 : pv 0 = none := by rw [← hpv]; rfl
    have hend : leastB p S (n + 1) l = pv (p.ws.length + 1) := by rw [← hpv]; rfl
    refine vs_loop (σ := Nat) (fun j => j ≤ p.ws.length + 1) (fun j => [(2, .ref i9 0 1 0 0), (3, .rptr 1 1 (fun _ => [.ref id 0 9 0 0]) 0 0), (4, .rptr 1 1 (fun _ => [u64 (S : Int)]) 0 0), (5, .ref i10 0 1 0 0), (6, .rptr 1 2 (fun _ => [.func (.func 88) [] [], .func (.func 89) [] []]) 0 0), (7, .rptr 1 8 (fun _ => dkC p l false 0 l.length) 0 0), (10, .ref i10k 0 2 0 0), (13, i64 ((j : Int) - 1))])
     (fun j => H.set i10k (.box 2 1 fun _ => [i64 ((pv j).getD 0), boo (pv j).isSome])) (fun j => p.ws.length + 1 - j) 0 (Nat.zero_le _) ?_ ?_ fun j hj => ?_
    ·simp only [vsAll, argFr, Nat.reduceEqDiff, Int.reduceNeg, ↓reduceIte, eq_self, e0]
     exact AV.Le.refl _
    ·simp only [hpv0]
     show Go.V.HSub _ (H.set i10k (.box 2 1 fun _ => [i64 0, boo false]))
     refine HSub_put_eq (by simp only [vsAll, ↓reduceIte, eq_self, hh_i11]) ?_
     rw [Hp.set_set]
     refine HSub_drop2 (by simp only [eq_self, hh_i11]) (HSub_drop2 (by simp only [eq_self, hh_i10k]) hback)
    ·simp only [vsAll, binA, binLitA, intA, loadA, loadRow, partA, partOk, fieldAddrA, lenA, nilCheckA, opA, dstOk, Nat.reduceLT, Nat.reduceEqDiff, ↓reduceIte, eq_self, wtAll, hp, a1, e0]
     refine condD (fun hd => ?_) (fun hd => ?_)
     case refine_2 =>
      have ej : j = p.ws.length + 1 := by ((try clear hp h9 h10 hm n9 n10 nid n9' n10' nid' hh_i10k a1 a2 a3 a4 hh_i11 b1 b2 b3 b4); omega)
      subst ej
      simp only [vsAll, loadA, loadRow, partA, partOk, opA, mapUpA, dstOk, Nat.reduceLT, Nat.reduceEqDiff, ↓reduceIte, eq_self, wtAll, h9, hm, hh_i10k, a2]
      have hul : u - l.length = n + 1 := by ((try clear hp h9 h10 hm n9 n10 nid n9' n10' nid' hh_i10k a1 a2 a3 a4 hh_i11 b1 b2 b3 b4); omega)
      refine ⟨113, 181, und179q, key113q, hkey, fun q v h => memT_key k hu h, ⟨l, hf, rfl, by rw [hul, hend]⟩, ?_⟩
      refine vs_draw2 [0, 0, 0, 0, 1, 3] [([0, 1, 2, 3], [3], 4), ([], [], 5)] [] (by decide +kernel) ?_
      simp only [vsAll, loadA, loadRow, partA, partOk, fieldAddrA, opA, dstOk, nilSliceOp, resA, retA.eq_2, Nat.reduceLT, Nat.reduceEqDiff, ↓reduceIte, eq_self, wtAll, Try.results90]
      exact dropR_pure (by rw [hend]) (by (repeat (first | exact HSub_rfl | refine HSub_put_eq (by simp only [vsAll, binA, binLitA, intA, aggA, aggV, boolA, nilA2, isConst, unA, loadA, loadRow, partA, partOk, fieldAddrA, indexAddrA, indexA, fieldA, extractA, lenA, nilCheckA, boxA, boxZ, cellA, cellsA, fillA, okParts, buildSliceA, buildMutA, makeSliceA, partIdx, elemsA, lensA, ifaceA, convA, mmA, pickA, okAll, stAll, opsA, partsA, partsOk, opA, allocA, boxMutA, newCells, okCells, storeObj, appendA, guardV, taA, nM, mapUpA, rangeA, nextA, entryA, lookA, sliceA, sliceM, sliceS, boundsA, opO, okO, copyA, dstOk, nilA, quietOk, nilSliceOp, deferV, panA, resA, argFr, retA.eq_1, retA.eq_2, Nat.reduceAdd, Nat.reduceSub, Nat.reduceMul, Nat.reduceLT, Nat.reduceLeDiff, Nat.reduceEqDiff, Nat.reduceBEq, Int.reduceAdd, Int.reduceSub, Int.reduceMul, Int.reduceNeg, Int.reduceLE, Int.reduceLT, Int.reduceEq, Int.reduceNe, Int.reduceToNat, ↓reduceIte, reduceCtorEq, implies_true, forall_const, eq_self, ne_eq, wtAll, Try.ntmps90, Try.results90, hp, h9, h10, hm, n9, n10, nid, n9', n10', nid', hh_i10k, a1, a2, a3, a4, hh_i11, b1, b2, b3, b4]) ?_ | refine HSub_drop2 (by simp only [eq_self, hh_i10k]) ?_ | refine HSub_keep_eq (by simp only [vsAll, binA, binLitA, intA, aggA, aggV, boolA, nilA2, isConst, unA, loadA, loadRow, partA, partOk, fieldAddrA, indexAddrA, indexA, fieldA, extractA, lenA, nilCheckA, boxA, boxZ, cellA, cellsA, fillA, okParts, buildSliceA, buildMutA, makeSliceA, partIdx, elemsA, lensA, ifaceA, convA, mmA, pickA, okAll, stAll, opsA, partsA, partsOk, opA, allocA, boxMutA, newCells, okCells, storeObj, appendA, guardV, taA, nM, mapUpA, rangeA, nextA, entryA, lookA, sliceA, sliceM, sliceS, boundsA, opO, okO, copyA, dstOk, nilA, quietOk, nilSliceOp, deferV, panA, resA, argFr, retA.eq_1, retA.eq_2, Nat.reduceAdd, Nat.reduceSub, Nat.reduceMul, Nat.reduceLT, Nat.reduceLeDiff, Nat.reduceEqDiff, Nat.reduceBEq, Int.reduceAdd, Int.reduceSub, Int.reduceMul, Int.reduceNeg, Int.reduceLE, Int.reduceLT, Int.reduceEq, Int.reduceNe, Int.reduceToNat, ↓reduceIte, reduceCtorEq, implies_true, forall_const, eq_self, ne_eq, wtAll, Try.ntmps90, Try.results90, hp, h9, h10, hm, n9, n10, nid, n9', n10', nid', hh_i10k, a1, a2, a3, a4, hh_i11, b1, b2, b3, b4]) ?_)))
     have hw : -1 ≤ (j : Int) - 1 ∧ (j : Int) - 1 < p.ws.length := by ((try clear hp h9 h10 hm n9 n10 nid n9' n10' nid' hh_i10k a1 a2 a3 a4 hh_i11 b1 b2 b3 b4); omega)
     generalize hjw : (j : Int) - 1 = w at hw hd
     have hf2 := hf.snoc (by ((try clear hp h9 h10 hm n9 n10 nid n9' n10' nid' hh_i10k a1 a2 a3 a4 hh_i11 b1 b2 b3 b4); omega)) hw
     rw [← e0, ← deck_pre p l [w] false 0 l.length (Nat.le_refl _)]
     simp only [vsAll, loadA, loadRow, partA, partOk, okAll, stAll, opsA, opA, dstOk, Nat.reduceLT, Nat.reduceEqDiff, ↓reduceIte, eq_self, wtAll]
     refine callK_pure (next_tri p (l ++ [w]) false 0 l.length w id _ k hA (by show Hp.set _ _ _ id = _; simp only [vsAll, ↓reduceIte, eq_self, hp, a1]) (by ((try clear hp h9 h10 hm n9 n10 nid n9' n10' nid' hh_i10k a1 a2 a3 a4 hh_i11 b1 b2 b3 b4); omega)) hw (getD_app_len l w) (by ((try clear hp h9 h10 hm n9 n10 nid n9' n10' nid' hh_i10k a1 a2 a3 a4 hh_i11 b1 b2 b3 b4); omega))) ?_
     simp only [vsAll, binA, binLitA, intA, loadA, loadRow, partA, partOk, cellA, pickA, opA, allocA, newCells, okCells, storeObj, guardV, dstOk, Nat.reduceAdd, Nat.reduceLT, Nat.reduceEqDiff, Int.reduceLE, Int.reduceToNat, ↓reduceIte, implies_true, eq_self, wtAll]
     intro i14 hh_i14; (try simp only [ite_none] at hh_i14)
     have c1 := ne_some hh_i14.2 hp
     have c2 := ne_some hh_i14.2 h9
     have c3 := ne_some hh_i14.2 h10
     have c4 := ne_some hh_i14.2 hm
     skip
     rw [Hp.set_set]
     have hdv := div_rng S w.toNat hS
     refine ⟨fun g => ⟨g, g, of_decide_eq_true g, by ((try clear hp h9 h10 hm n9 n10 nid n9' n10' nid' hh_i10k a1 a2 a3 a4 hh_i11 b1 b2 b3 b4 hh_i14 c1 c2 c3 c4); omega), rfl⟩, fun g => ⟨g, hdv.1, by simp only [InR_u64]; ((try clear hp h9 h10 hm n9 n10 nid n9' n10' nid' hh_i10k a1 a2 a3 a4 hh_i11 b1 b2 b3 b4 hh_i14 c1 c2 c3 c4); omega), by simp only [InR_u64]; ((try clear hp h9 h10 hm n9 n10 nid n9' n10' nid' hh_i10k a1 a2 a3 a4 hh_i11 b1 b2 b3 b4 hh_i14 c1 c2 c3 c4); omega)⟩, ?_⟩
     rw [bit_eq0]
     refine gcall _ (fun g => ⟨by simp only [vsAll, opA], by simp only [vsAll, okAll, opsA, opA, Nat.reduceEqDiff, ↓reduceIte, eq_self, g], floats_tri p (l ++ [w]) false 0 (l.length + 1) id _ (by show Hp.set (Hp.set _ _ _) _ _ id = _; simp only [vsAll, ↓reduceIte, eq_self, hp, a1, c1])⟩) ?_
     rw [moreP_zero]
     simp only [vsAll, unA, pickA, opA, guardV, dstOk, Nat.reduceLT, Nat.reduceEqDiff, ↓reduceIte, implies_true, eq_self]
     have hpn : pv (j + 1) = stepB p S (leastB p S n) l (pv j) w := by
      rw [← hpv, ← hjw]; rfl
     have e13 : w + 1 = ((j + 1 : Nat) : Int) - 1 := by ((try clear hp h9 h10 hm n9 n10 nid n9' n10' nid' hh_i10k a1 a2 a3 a4 hh_i11 b1 b2 b3 b4 hh_i14 c1 c2 c3 c4); omega)
     refine condV (fun hc => ?_) (fun hc => ?_)
     ·have hc' : (0 ≤ w ∧ S.testBit w.toNat = false) ∨ ¬ watV p (l ++ [w]) false (l.length + 1) ≤ p.ca := by simpa using hc
      rw [stepB, if_pos hc'] at hpn
      simp only [vsAll, binA, binLitA, intA, opA, dstOk, nilSliceOp, Nat.reduceLT, Nat.reduceEqDiff, ↓reduceIte, eq_self]
      refine ⟨by simp only [InR_i64]; ((try clear hp h9 h10 hm n9 n10 nid n9' n10' nid' hh_i10k a1 a2 a3 a4 hh_i11 b1 b2 b3 b4 hh_i14 c1 c2 c3 c4); omega), loop_next (j + 1) (by ((try clear hp h9 h10 hm n9 n10 nid n9' n10' nid' hh_i10k a1 a2 a3 a4 hh_i11 b1 b2 b3 b4 hh_i14 c1 c2 c3 c4); omega)) (by ((try clear hp h9 h10 hm n9 n10 nid n9' n10' nid' hh_i10k a1 a2 a3 a4 hh_i11 b1 b2 b3 b4 hh_i14 c1 c2 c3 c4); omega)) ?_ ?_⟩
      ·simp only [vsAll, Nat.reduceEqDiff, ↓reduceIte, eq_self]
       rw [e13]
       exact AV.Le.refl _
      ·simp only [hpn]
       (repeat (first | exact HSub_rfl | refine HSub_put_eq (by simp only [vsAll, ↓reduceIte, eq_self, hh_i14]) ?_ | refine HSub_drop2 (by simp only [eq_self, hh_i10k, hh_i14]) ?_ | refine HSub_keep_eq (by simp only [vsAll, binA, binLitA, intA, aggA, aggV, boolA, nilA2, isConst, unA, loadA, loadRow, partA, partOk, fieldAddrA, indexAddrA, indexA, fieldA, extractA, lenA, nilCheckA, boxA, boxZ, cellA, cellsA, fillA, okParts, buildSliceA, buildMutA, makeSliceA, partIdx, elemsA, lensA, ifaceA, convA, mmA, pickA, okAll, stAll, opsA, partsA, partsOk, opA, allocA, boxMutA, newCells, okCells, storeObj, appendA, guardV, taA, nM, mapUpA, rangeA, nextA, entryA, lookA, sliceA, sliceM, sliceS, boundsA, opO, okO, copyA, dstOk, nilA, quietOk, nilSliceOp, deferV, panA, resA, argFr, retA.eq_1, retA.eq_2, Nat.reduceAdd, Nat.reduceSub, Nat.reduceMul, Nat.reduceLT, Nat.reduceLeDiff, Nat.reduceEqDiff, Nat.reduceBEq, Int.reduceAdd, Int.reduceSub, Int.reduceMul, Int.reduceNeg, Int.reduceLE, Int.reduceLT, Int.reduceEq, Int.reduceNe, Int.reduceToNat, ↓reduceIte, reduceCtorEq, implies_true, forall_const, eq_self, ne_eq, wtAll, Try.ntmps90, Try.results90, hp, h9, h10, hm, n9, n10, nid, n9', n10', nid', hh_i10k, a1, a2, a3, a4, hh_i11, b1, b2, b3, b4, hh_i14, c1, c2, c3, c4]) ?_))
     ·have hc' : ¬ ((0 ≤ w ∧ S.testBit w.toNat = false) ∨ ¬ watV p (l ++ [w]) false (l.length + 1) ≤ p.ca) := fun h => by
       have : (decide (0 ≤ w) && !S.testBit w.toNat || !decide (watV p (l ++ [w]) false (l.length + 1) ≤ p.ca)) = true := by simpa using h
       rw [this] at hc
       cases hc
      rw [stepB, if_neg hc'] at hpn
      simp only [vsAll, loadA, loadRow, partA, partOk, okAll, stAll, opsA, opA, dstOk, Nat.reduceLT, Nat.reduceEqDiff, ↓reduceIte, eq_self, wtAll, h10, a3, c3]
      have hih := fun X => ih (l ++ [w]) X (by rw [List.length_append, List.length_singleton]; ((try clear hp h9 h10 hm n9 n10 nid n9' n10' nid' hh_i10k a1 a2 a3 a4 hh_i11 b1 b2 b3 b4 hh_i14 c1 c2 c3 c4); omega)) hf2
      rw [List.length_append, List.length_singleton] at hih
      refine callK_pure (hih _ (by show Hp.set (Hp.set _ _ _) _ _ id = _; simp only [vsAll, ↓reduceIte, eq_self, hp, a1, c1]) (by show Hp.set (Hp.set _ _ _) _ _ i9 = _; simp only [vsAll, ↓reduceIte, eq_self, h9, a2, c2]) (by show Hp.set (Hp.set _ _ _) _ _ i10 = _; simp only [vsAll, ↓reduceIte, eq_self, h10, a3, c3]) (by show Hp.set (Hp.set _ _ _) _ _ im = _; simp only [vsAll, ↓reduceIte, eq_self, hm, hh_i10k, c4])) ?_
      generalize hq : leastB p S n (l ++ [w]) = q at hpn
      cases q with
      | none =>
        simp only [] at hpn
        simp only [vsAll, binA, binLitA, intA, unA, extractA, opA, dstOk, nilSliceOp, Nat.reduceAdd, Nat.reduceLT, Nat.reduceEqDiff, ↓reduceIte, eq_self]
        refine ⟨by simp only [InR_i64]; ((try clear hp h9 h10 hm n9 n10 nid n9' n10' nid' hh_i10k a1 a2 a3 a4 hh_i11 b1 b2 b3 b4 hh_i14 c1 c2 c3 c4); omega), loop_next (j + 1) (by ((try clear hp h9 h10 hm n9 n10 nid n9' n10' nid' hh_i10k a1 a2 a3 a4 hh_i11 b1 b2 b3 b4 hh_i14 c1 c2 c3 c4); omega)) (by ((try clear hp h9 h10 hm n9 n10 nid n9' n10' nid' hh_i10k a1 a2 a3 a4 hh_i11 b1 b2 b3 b4 hh_i14 c1 c2 c3 c4); omega)) ?_ ?_⟩
        ·simp only [vsAll, Nat.reduceEqDiff, ↓reduceIte, eq_self]
         rw [e13]
         exact AV.Le.refl _
        ·simp only [hpn]
         (repeat (first | exact HSub_rfl | refine HSub_put_eq (by simp only [vsAll, ↓reduceIte, eq_self, hh_i14]) ?_ | refine HSub_drop2 (by simp only [eq_self, hh_i10k, hh_i14]) ?_ | refine HSub_keep_eq (by simp only [vsAll, binA, binLitA, intA, aggA, aggV, boolA, nilA2, isConst, unA, loadA, loadRow, partA, partOk, fieldAddrA, indexAddrA, indexA, fieldA, extractA, lenA, nilCheckA, boxA, boxZ, cellA, cellsA, fillA, okParts, buildSliceA, buildMutA, makeSliceA, partIdx, elemsA, lensA, ifaceA, convA, mmA, pickA, okAll, stAll, opsA, partsA, partsOk, opA, allocA, boxMutA, newCells, okCells, storeObj, appendA, guardV, taA, nM, mapUpA, rangeA, nextA, entryA, lookA, sliceA, sliceM, sliceS, boundsA, opO, okO, copyA, dstOk, nilA, quietOk, nilSliceOp, deferV, panA, resA, argFr, retA.eq_1, retA.eq_2, Nat.reduceAdd, Nat.reduceSub, Nat.reduceMul, Nat.reduceLT, Nat.reduceLeDiff, Nat.reduceEqDiff, Nat.reduceBEq, Int.reduceAdd, Int.reduceSub, Int.reduceMul, Int.reduceNeg, Int.reduceLE, Int.reduceLT, Int.reduceEq, Int.reduceNe, Int.reduceToNat, ↓reduceIte, reduceCtorEq, implies_true, forall_const, eq_self, ne_eq, wtAll, Try.ntmps90, Try.results90, hp, h9, h10, hm, n9, n10, nid, n9', n10', nid', hh_i10k, a1, a2, a3, a4, hh_i11, b1, b2, b3, b4, hh_i14, c1, c2, c3, c4]) ?_))
      | some x =>
        simp only [] at hpn
        have hx := least_rng S n _ _ hq
        have hl8 := hf2.len
        have hn8 : (n : Int) ≤ 8 := by ((try clear hp h9 h10 hm n9 n10 nid n9' n10' nid' hh_i10k a1 a2 a3 a4 hh_i11 b1 b2 b3 b4 hh_i14 c1 c2 c3 c4); omega)
        simp only [vsAll, unA, loadA, loadRow, partA, partOk, fieldAddrA, extractA, okAll, stAll, opsA, opA, dstOk, nilSliceOp, Nat.reduceAdd, Nat.reduceLT, Nat.reduceEqDiff, ↓reduceIte, eq_self, wtAll, Option.getD_some]
        refine callK_pure (of_tri2 w x _ (by ((try clear hp h9 h10 hm n9 n10 nid n9' n10' nid' hh_i10k a1 a2 a3 a4 hh_i11 b1 b2 b3 b4 hh_i14 c1 c2 c3 c4); omega))) ?_
        cases hpj : pv j with
        | none =>
          rw [hpj] at hpn
          simp only [] at hpn
          simp only [vsAll, unA, loadA, loadRow, partA, partOk, fieldAddrA, opA, guardV, dstOk, nilSliceOp, Nat.reduceLT, Nat.reduceEqDiff, ↓reduceIte, implies_true, eq_self, wtAll, hh_i14]
          refine gcall (boo true) (fun g => by cases g) ?_
          simp only [vsAll, binA, binLitA, intA, cellA, cellsA, fillA, okParts, pickA, partsA, partsOk, opA, newCells, okCells, storeObj, dstOk, nilSliceOp, Nat.reduceAdd, Nat.reduceLT, Nat.reduceLeDiff, Nat.reduceEqDiff, ↓reduceIte, eq_self, wtAll, hh_i14]
          refine ⟨by simp only [InR_i64]; ((try clear hp h9 h10 hm n9 n10 nid n9' n10' nid' hh_i10k a1 a2 a3 a4 hh_i11 b1 b2 b3 b4 hh_i14 c1 c2 c3 c4); omega), loop_next (j + 1) (by ((try clear hp h9 h10 hm n9 n10 nid n9' n10' nid' hh_i10k a1 a2 a3 a4 hh_i11 b1 b2 b3 b4 hh_i14 c1 c2 c3 c4); omega)) (by ((try clear hp h9 h10 hm n9 n10 nid n9' n10' nid' hh_i10k a1 a2 a3 a4 hh_i11 b1 b2 b3 b4 hh_i14 c1 c2 c3 c4); omega)) ?_ ?_⟩
          ·simp only [vsAll, Nat.reduceEqDiff, ↓reduceIte, eq_self]
           rw [e13]
           exact AV.Le.refl _
          ·simp only [hpn, Option.getD_some, Option.isSome_some]
           (repeat (first | exact HSub_rfl | refine HSub_put_eq (by simp only [vsAll, ↓reduceIte, eq_self]) ?_ | refine HSub_drop2 (by simp only [eq_self, hh_i10k, hh_i14]) ?_ | refine HSub_keep_eq (by simp only [vsAll, binA, binLitA, intA, aggA, aggV, boolA, nilA2, isConst, unA, loadA, loadRow, partA, partOk, fieldAddrA, indexAddrA, indexA, fieldA, extractA, lenA, nilCheckA, boxA, boxZ, cellA, cellsA, fillA, okParts, buildSliceA, buildMutA, makeSliceA, partIdx, elemsA, lensA, ifaceA, convA, mmA, pickA, okAll, stAll, opsA, partsA, partsOk, opA, allocA, boxMutA, newCells, okCells, storeObj, appendA, guardV, taA, nM, mapUpA, rangeA, nextA, entryA, lookA, sliceA, sliceM, sliceS, boundsA, opO, okO, copyA, dstOk, nilA, quietOk, nilSliceOp, deferV, panA, resA, argFr, retA.eq_1, retA.eq_2, Nat.reduceAdd, Nat.reduceSub, Nat.reduceMul, Nat.reduceLT, Nat.reduceLeDiff, Nat.reduceEqDiff, Nat.reduceBEq, Int.reduceAdd, Int.reduceSub, Int.reduceMul, Int.reduceNeg, Int.reduceLE, Int.reduceLT, Int.reduceEq, Int.reduceNe, Int.reduceToNat, ↓reduceIte, reduceCtorEq, implies_true, forall_const, eq_self, ne_eq, wtAll, Try.ntmps90, Try.results90, hp, h9, h10, hm, n9, n10, nid, n9', n10', nid', hh_i10k, a1, a2, a3, a4, hh_i11, b1, b2, b3, b4, hh_i14, c1, c2, c3, c4]) ?_))
        | some y =>
          rw [hpj] at hpn
          simp only [] at hpn
          simp only [vsAll, unA, loadA, loadRow, partA, partOk, fieldAddrA, opA, guardV, dstOk, nilSliceOp, Nat.reduceLT, Nat.reduceEqDiff, ↓reduceIte, eq_self, wtAll, hh_i14, Option.getD_some]
          refine gcall _ (fun g => ⟨by simp only [vsAll, opA, Nat.reduceEqDiff, ↓reduceIte, eq_self], by simp only [vsAll, okAll, opsA, opA, Nat.reduceEqDiff, ↓reduceIte, eq_self], less_tri (costW w x) y _⟩) ?_
          simp only [vsAll, pickA, opA, dstOk, Nat.reduceLT, Nat.reduceEqDiff, ↓reduceIte, implies_true, eq_self]
          refine condD (fun hc2 => ?_) (fun hc2 => ?_)
          ·rw [if_pos hc2] at hpn
           simp only [vsAll, binA, binLitA, intA, cellA, cellsA, fillA, okParts, partsA, partsOk, opA, newCells, okCells, storeObj, dstOk, nilSliceOp, Nat.reduceAdd, Nat.reduceLT, Nat.reduceLeDiff, Nat.reduceEqDiff, ↓reduceIte, eq_self, wtAll, hh_i14]
           refine ⟨by simp only [InR_i64]; ((try clear hp h9 h10 hm n9 n10 nid n9' n10' nid' hh_i10k a1 a2 a3 a4 hh_i11 b1 b2 b3 b4 hh_i14 c1 c2 c3 c4); omega), loop_next (j + 1) (by ((try clear hp h9 h10 hm n9 n10 nid n9' n10' nid' hh_i10k a1 a2 a3 a4 hh_i11 b1 b2 b3 b4 hh_i14 c1 c2 c3 c4); omega)) (by ((try clear hp h9 h10 hm n9 n10 nid n9' n10' nid' hh_i10k a1 a2 a3 a4 hh_i11 b1 b2 b3 b4 hh_i14 c1 c2 c3 c4); omega)) ?_ ?_⟩
           ·simp only [vsAll, Nat.reduceEqDiff, ↓reduceIte, eq_self]
            rw [e13]
            exact AV.Le.refl _
           ·simp only [hpn, Option.getD_some, Option.isSome_some]
            (repeat (first | exact HSub_rfl | refine HSub_put_eq (by simp only [vsAll, ↓reduceIte, eq_self]) ?_ | refine HSub_drop2 (by simp only [eq_self, hh_i10k, hh_i14]) ?_ | refine HSub_keep_eq (by simp only [vsAll, binA, binLitA, intA, aggA, aggV, boolA, nilA2, isConst, unA, loadA, loadRow, partA, partOk, fieldAddrA, indexAddrA, indexA, fieldA, extractA, lenA, nilCheckA, boxA, boxZ, cellA, cellsA, fillA, okParts, buildSliceA, buildMutA, makeSliceA, partIdx, elemsA, lensA, ifaceA, convA, mmA, pickA, okAll, stAll, opsA, partsA, partsOk, opA, allocA, boxMutA, newCells, okCells, storeObj, appendA, guardV, taA, nM, mapUpA, rangeA, nextA, entryA, lookA, sliceA, sliceM, sliceS, boundsA, opO, okO, copyA, dstOk, nilA, quietOk, nilSliceOp, deferV, panA, resA, argFr, retA.eq_1, retA.eq_2, Nat.reduceAdd, Nat.reduceSub, Nat.reduceMul, Nat.reduceLT, Nat.reduceLeDiff, Nat.reduceEqDiff, Nat.reduceBEq, Int.reduceAdd, Int.reduceSub, Int.reduceMul, Int.reduceNeg, Int.reduceLE, Int.reduceLT, Int.reduceEq, Int.reduceNe, Int.reduceToNat, ↓reduceIte, reduceCtorEq, implies_true, forall_const, eq_self, ne_eq, wtAll, Try.ntmps90, Try.results90, hp, h9, h10, hm, n9, n10, nid, n9', n10', nid', hh_i10k, a1, a2, a3, a4, hh_i11, b1, b2, b3, b4, hh_i14, c1, c2, c3, c4]) ?_))
          ·rw [if_neg hc2] at hpn
           simp only [vsAll, binA, binLitA, intA, opA, dstOk, nilSliceOp, Nat.reduceLT, Nat.reduceEqDiff, ↓reduceIte, eq_self]
           refine ⟨by simp only [InR_i64]; ((try clear hp h9 h10 hm n9 n10 nid n9' n10' nid' hh_i10k a1 a2 a3 a4 hh_i11 b1 b2 b3 b4 hh_i14 c1 c2 c3 c4); omega), loop_next (j + 1) (by ((try clear hp h9 h10 hm n9 n10 nid n9' n10' nid' hh_i10k a1 a2 a3 a4 hh_i11 b1 b2 b3 b4 hh_i14 c1 c2 c3 c4); omega)) (by ((try clear hp h9 h10 hm n9 n10 nid n9' n10' nid' hh_i10k a1 a2 a3 a4 hh_i11 b1 b2 b3 b4 hh_i14 c1 c2 c3 c4); omega)) ?_ ?_⟩
           ·simp only [vsAll, Nat.reduceEqDiff, ↓reduceIte, eq_self]
            rw [e13]
            exact AV.Le.refl _
           ·simp only [hpn, Option.getD_some, Option.isSome_some]
            (repeat (first | exact HSub_rfl | refine HSub_put_eq (by simp only [vsAll, ↓reduceIte, eq_self, hh_i14]) ?_ | refine HSub_drop2 (by simp only [eq_self, hh_i10k, hh_i14]) ?_ | refine HSub_keep_eq (by simp only [vsAll, binA, binLitA, intA, aggA, aggV, boolA, nilA2, isConst, unA, loadA, loadRow, partA, partOk, fieldAddrA, indexAddrA, indexA, fieldA, extractA, lenA, nilCheckA, boxA, boxZ, cellA, cellsA, fillA, okParts, buildSliceA, buildMutA, makeSliceA, partIdx, elemsA, lensA, ifaceA, convA, mmA, pickA, okAll, stAll, opsA, partsA, partsOk, opA, allocA, boxMutA, newCells, okCells, storeObj, appendA, guardV, taA, nM, mapUpA, rangeA, nextA, entryA, lookA, sliceA, sliceM, sliceS, boundsA, opO, okO, copyA, dstOk, nilA, quietOk, nilSliceOp, deferV, panA, resA, argFr, retA.eq_1, retA.eq_2, Nat.reduceAdd, Nat.reduceSub, Nat.reduceMul, Nat.reduceLT, Nat.reduceLeDiff, Nat.reduceEqDiff, Nat.reduceBEq, Int.reduceAdd, Int.reduceSub, Int.reduceMul, Int.reduceNeg, Int.reduceLE, Int.reduceLT, Int.reduceEq, Int.reduceNe, Int.reduceToNat, ↓reduceIte, reduceCtorEq, implies_true, forall_const, eq_self, ne_eq, wtAll, Try.ntmps90, Try.results90, hp, h9, h10, hm, n9, n10, nid, n9', n10', nid', hh_i10k, a1, a2, a3, a4, hh_i11, b1, b2, b3, b4, hh_i14, c1, c2, c3, c4]) ?_))
   ·obtain ⟨l', h1, h2, h3⟩ := hes en (by
     have := Array.getElem?_eq_some_iff.1 hj
     obtain ⟨hl, rfl⟩ := this
     simp)
    have hval : en.val = knV (leastB p S (n + 1) l) := by
     have hd : dkI p l' = dkI p l := dkP_inj (h2.symm.trans hkn)
     have hl' := (dkI_inj hd).1
     rw [h3, show u - l'.length = n + 1 by ((try clear hp h9 h10 hm n9 n10 nid n9' n10' nid' hh_i10k a1 a2 a3 a4); omega), least_congr k S _ _ _ hd]
    generalize htl : leastB p S (n + 1) l = tv at hval
    simp only [vsAll, cellA, okCells, Nat.reduceAdd, Int.reduceNeg, eq_self, hval]
    intro i11 hh_i11; (try simp only [ite_none] at hh_i11)
    refine vs_draw2 [0, 0, 0, 0, 1, 3] [([0, 1, 2, 3], [3], 4), ([], [], 5)] [] (by decide +kernel) ?_
    simp only [vsAll, loadA, loadRow, partA, partOk, fieldAddrA, opA, dstOk, nilSliceOp, resA, retA.eq_2, Nat.reduceLT, Nat.reduceEqDiff, Int.reduceNeg, ↓reduceIte, eq_self, wtAll, Try.results90]
    rw [Hp.set_set]
    exact dropR_pure rfl (HSub_drop2 (by simp only [eq_self, hh_i11]) (HSub_drop2 (by simp only [eq_self, hh_i10k]) hback))
end Go.Proofs.Ytclkjifgipcamaa.Pm
end
section
set_option linter.unusedVariables false
set_option linter.unusedSimpArgs false
set_option maxHeartbeats 4000000
set_option maxRecDepth 100000
namespace Go.Proofs.Ytclkjifgipcamaa.Pm
open Go.V Wl
theorem azT179q : azT Try.prog 179 = some (1, 1, [.map none]) := by kernel_rfl
theorem azT102q : azT Try.prog 102 = some (1, 1, [.nilFunc]) := by kernel_rfl
/-- The heap behind a teller that is made. -/
abbrev cheH (p : Pu) (id u S : Nat) (H : Hp) (im i9 i10 : Nat) : Hp :=
 ((H.set im (.memo (memT p u S))).set i9 (.box 1 1 fun _ => [.map im])).set i10 (.box 1 1 fun _ => [onF id u S i9 i10])
def cheR (p : Pu) (id u S : Nat) (H : Hp) : Res → Hp → Prop := fun r H' =>
 ∃ i9 i10 im, r = .ret (onF id u S i9 i10) ∧ (H im = none ∧ H i9 = none ∧ H i10 = none) ∧ ((¬ i9 = im ∧ ¬ im = i9) ∧ (¬ i10 = im ∧ ¬ im = i10) ∧ ¬ i10 = i9 ∧ ¬ i9 = i10) ∧ H' = cheH p id u S H im i9 i10
theorem che_tri (p : Pu) (id u S : Nat) (H : Hp) : Tri Try.prog (fnA 44) [.ref id 0 9 0 0, i64 (u : Int), u64 (S : Int), hoursA] H (cheR p id u S H) := by
 refine Tri.drop ?_
 refine tri_v0 (fun _ => false) Try.func44 (by kernel_rfl) rfl (by simp only [List.length_append, List.length_cons, List.length_nil, Try.ntmps44]; decide) ?_
 simp only [vsAll, loadA, loadRow, partA, partOk, boxA, boxZ, cellA, cellsA, okAll, stAll, opsA, opA, allocA, newCells, okCells, storeObj, nM, dstOk, nilSliceOp, resA, argFr, retA.eq_1, Nat.reduceAdd, Nat.reduceLT, Nat.reduceEqDiff, ↓reduceIte, eq_self, wtAll, Try.ntmps44, Try.results44, azT179q, azT102q]
 intro im hh_im; (try simp only [Hp.set_none, ite_none] at hh_im); intro i9 hh_i9; (try simp only [ite_none] at hh_i9); intro i10 hh_i10; (try simp only [ite_none] at hh_i10)
 rw [Hp.set_set, Hp.set_set]
 refine ⟨cheH p id u S H im i9 i10, HSub.set (HSub.set (HSub.set (HSub.refl _) (memo_le (by simp) (by simp))) (.refl _)) (.refl _), i9, i10, im, rfl, ?_, ?_, rfl⟩
 ·refine ⟨?_, ?_, ?_⟩ <;> simp_all
 ·refine ⟨⟨?_, ?_⟩, ⟨?_, ?_⟩, ?_, ?_⟩ <;> simp_all
theorem cheH_sub {p : Pu} {id u S : Nat} {H : Hp} {im i9 i10 : Nat} (h : H im = none ∧ H i9 = none ∧ H i10 = none) : Go.V.HSub (cheH p id u S H im i9 i10) H := fun q o hq => by
 have h1 : ¬ q = i10 := fun e => by rw [e, h.2.2] at hq; cases hq
 have h2 : ¬ q = i9 := fun e => by rw [e, h.2.1] at hq; cases hq
 have h3 : ¬ q = im := fun e => by rw [e, h.1] at hq; cases hq
 exact ⟨o, by rw [cheH, Hp.set_ne _ _ h1, Hp.set_ne _ _ h2, Hp.set_ne _ _ h3]; exact hq, .refl _⟩
/-- What is told of a plan so far, by a teller that was made. -/
theorem told_tri {p : Pu} {id u S : Nat} {H : Hp} {im i9 i10 : Nat} (k : Ok p) (hA : 0 < (allA p.ho).length) (hu : u ≤ p.fl.length) (hS : S < 8)
  (hd : (¬ i9 = im ∧ ¬ im = i9) ∧ (¬ i10 = im ∧ ¬ im = i10) ∧ ¬ i10 = i9 ∧ ¬ i9 = i10) (hf : H im = none ∧ H i9 = none ∧ H i10 = none) (hp : PmAt p false 0 id H) (n : Nat) (l : List Int) (hn : l.length + n = u) (hl : FirstL p u l) :
  PTri Try.prog (onF id u S i9 i10) [.agg (dkC p l false 0 l.length)] (cheH p id u S H im i9 i10) (knA (leastB p S n l)) := by
 obtain ⟨o, g1, g2⟩ := cheH_sub (p := p) (id := id) (u := u) (S := S) hf id _ hp
 have e : PmAt p false 0 id (cheH p id u S H im i9 i10) := by
  have n1 := (ne_some hf.2.2 hp).2
  have n2 := (ne_some hf.2.1 hp).2
  have n3 := (ne_some hf.1 hp).2
  show cheH p id u S H im i9 i10 id = _
  rw [cheH, Hp.set_ne _ _ n1, Hp.set_ne _ _ n2, Hp.set_ne _ _ n3]; exact hp
 exact on_tri k hA hu hS n l _ hn hl e (by rw [cheH, Hp.set_ne _ _ hd.2.2.2, Hp.set_same]) (by rw [cheH, Hp.set_same]) (by rw [cheH, Hp.set_ne _ _ hd.2.1.2, Hp.set_ne _ _ hd.1.2, Hp.set_same])
theorem cheH_pm {p : Pu} {id u S : Nat} {H : Hp} {im i9 i10 : Nat} (hf : H im = none ∧ H i9 = none ∧ H i10 = none) {b : Bool} {m : Int} (hp : PmAt p b m id H) : PmAt p b m id (cheH p id u S H im i9 i10) := by
 have n1 := (ne_some hf.2.2 hp).2
 have n2 := (ne_some hf.2.1 hp).2
 have n3 := (ne_some hf.1 hp).2
 show cheH p id u S H im i9 i10 id = _
 rw [cheH, Hp.set_ne _ _ n1, Hp.set_ne _ _ n2, Hp.set_ne _ _ n3]; exact hp
theorem first0 (p : Pu) (u : Nat) : FirstL p u [] := ⟨Nat.zero_le _, fun i hi => absurd hi (Nat.not_lt_zero i)⟩
/-- Can she be kept afloat for so many hours, by some watches? -/
def canB (p : Pu) (u S : Nat) : Bool := (leastB p S u []).isSome
end Go.Proofs.Ytclkjifgipcamaa.Pm
end
section
set_option linter.unusedVariables false
set_option linter.unusedSimpArgs false
set_option maxHeartbeats 4000000
set_option maxRecDepth 100000
namespace Go.Proofs.Ytclkjifgipcamaa.Pm
open Go.V Wl
abbrev everyN (p : Pu) : Nat := 2 ^ p.ws.length - 1
theorem every_lt {p : Pu} (k : Ok p) : everyN p < 8 := by
 have nW := k.nW
 unfold everyN
 have : p.ws.length = 0 ∨ p.ws.length = 1 ∨ p.ws.length = 2 ∨ p.ws.length = 3 := by omega
 rcases this with h | h | h | h <;> rw [h] <;> decide
/-- For how many hours she can be kept afloat, tried from some number on. -/
def untN (p : Pu) : Nat → Nat → Nat
 | 0, m => m
 | k + 1, m => if canB p (m + 1) (everyN p) = true then untN p k (m + 1) else m
def untE (p : Pu) : Int := errE p true
def untV (p : Pu) : Int := if untE p = 0 then (untN p p.fl.length 0 : Nat) else 0
end Go.Proofs.Ytclkjifgipcamaa.Pm
end
section
set_option linter.unusedVariables false
set_option linter.unusedSimpArgs false
namespace Go.Proofs.Ytclkjifgipcamaa.Pm
open Go.V Wl
/-- Does a watch do, if so much is wanted? -/
def okB (p : Pu) (S n : Nat) (l : List Int) (want w : Int) : Bool := match leastB p S n (l ++ [w]) with
 | some x => decide (watV p (l ++ [w]) false (l.length + 1) ≤ p.ca) && decide (costW w x = want)
 | none => false
def firstW (p : Pu) (S n : Nat) (l : List Int) (want : Int) : Option Nat := (List.range (p.ws.length + 1)).find? fun j => okB p S n l want ((j : Int) - 1)
def fewL (p : Pu) (S : Nat) : Nat → List Int → Int → List Int
 | 0, l, _ => l
 | n + 1, l, want => match firstW p S n l want with
   | some j => fewL p S n (l ++ [(j : Int) - 1]) ((leastB p S n (l ++ [(j : Int) - 1])).getD 0)
   | none => l
theorem row_att {p : Pu} {S : Nat} {f : List Int → Option Int} {l : List Int} : ∀ j y, rowB p S f l j = some y → ∃ i, i < j ∧ watV p (l ++ [(i : Int) - 1]) false (l.length + 1) ≤ p.ca ∧ ∃ x, f (l ++ [(i : Int) - 1]) = some x ∧ costW ((i : Int) - 1) x = y := by
 intro j
 induction j with
 | zero => intro y h; cases h
 | succ j ih =>
   intro y h
   have old : rowB p S f l j = some y → ∃ i, i < j + 1 ∧ watV p (l ++ [(i : Int) - 1]) false (l.length + 1) ≤ p.ca ∧ ∃ x, f (l ++ [(i : Int) - 1]) = some x ∧ costW ((i : Int) - 1) x = y := fun h => by
    obtain ⟨i, hi, h⟩ := ih y h
    exact ⟨i, by omega, h⟩
   simp only [rowB, stepB] at h
   split at h
   ·exact old h
   ·rename_i hc
    have hw : watV p (l ++ [(j : Int) - 1]) false (l.length + 1) ≤ p.ca := Classical.byContradiction fun q => hc (.inr q)
    split at h
    ·exact old h
    ·rename_i x hx
     have new : costW ((j : Int) - 1) x = y → ∃ i, i < j + 1 ∧ watV p (l ++ [(i : Int) - 1]) false (l.length + 1) ≤ p.ca ∧ ∃ x, f (l ++ [(i : Int) - 1]) = some x ∧ costW ((i : Int) - 1) x = y := fun e => ⟨j, Nat.lt_succ_self j, hw, x, hx, e⟩
     split at h
     ·simp only [Option.some.injEq] at h; exact new h
     ·split at h
      ·simp only [Option.some.injEq] at h; exact new h
      ·exact old h
theorem first_some {p : Pu} {S n : Nat} {l : List Int} {want : Int} (h : leastB p S (n + 1) l = some want) : ∃ j, firstW p S n l want = some j ∧ j < p.ws.length + 1 ∧ okB p S n l want ((j : Int) - 1) = true ∧ ∀ i, i < j → okB p S n l want ((i : Int) - 1) = false := by
 obtain ⟨i, hi, h1, x, h2, h3⟩ := row_att _ _ h
 have hok : okB p S n l want ((i : Int) - 1) = true := by
  unfold okB
  rw [h2]
  simp only [Bool.and_eq_true, decide_eq_true_eq]
  exact ⟨h1, h3⟩
 cases hf : firstW p S n l want with
 | none =>
   unfold firstW at hf
   rw [List.find?_eq_none] at hf
   exact absurd hok (hf i (List.mem_range.2 hi))
 | some j =>
   have hf' := hf
   unfold firstW at hf'
   rw [List.find?_range_eq_some] at hf'
   obtain ⟨g1, g2, g3⟩ := hf'
   exact ⟨j, rfl, List.mem_range.1 g2, g1, fun i hi => by simpa using g3 i hi⟩
theorem ok_some {p : Pu} {S n : Nat} {l : List Int} {want w : Int} (h : okB p S n l want w = true) : ∃ x, leastB p S n (l ++ [w]) = some x ∧ costW w x = want := by
 unfold okB at h
 split at h
 ·rename_i x hx
  rw [Bool.and_eq_true, decide_eq_true_eq, decide_eq_true_eq] at h
  exact ⟨x, hx, h.2⟩
 ·cases h
theorem few_at {p : Pu} {S n : Nat} {l : List Int} {want : Int} {j : Nat} (hj : j < p.ws.length + 1) (hok : okB p S n l want ((j : Int) - 1) = true) (hb : ∀ i, i < j → okB p S n l want ((i : Int) - 1) = false) {x : Int} (hx : leastB p S n (l ++ [(j : Int) - 1]) = some x) : fewL p S (n + 1) l want = fewL p S n (l ++ [(j : Int) - 1]) x := by
 have hf : firstW p S n l want = some j := by
  unfold firstW
  rw [List.find?_range_eq_some]
  exact ⟨hok, List.mem_range.2 hj, fun i hi => by simpa using hb i hi⟩
 rw [fewL, hf]
 simp only [hx, Option.getD_some]
/-- What is told: the number, the plan, and why not. -/
def fewE (p : Pu) : Int := if errE p true = 0 then if (leastB p (everyN p) p.fl.length []).isSome = true then 0 else 4 else errE p true
def fewN (p : Pu) : Int := if fewE p = 0 then (leastB p (everyN p) p.fl.length []).getD 0 else 0
def fewP (p : Pu) : List Int := if fewE p = 0 then fewL p (everyN p) p.fl.length [] (fewN p) else []
end Go.Proofs.Ytclkjifgipcamaa.Pm
end
section
set_option linter.unusedVariables false
set_option linter.unusedSimpArgs false
set_option maxHeartbeats 4000000
set_option maxRecDepth 100000
namespace Go.Proofs.Ytclkjifgipcamaa.Pm
open Go.V Wl
theorem cheH_at {p : Pu} {id u S : Nat} {H : Hp} {im i9 i10 : Nat} (hf : H im = none ∧ H i9 = none ∧ H i10 = none) {q : Nat} {o : Go.V.Obj} (hp : H q = some o) : cheH p id u S H im i9 i10 q = some o := by
 have n1 := (ne_some hf.2.2 hp).2
 have n2 := (ne_some hf.2.1 hp).2
 have n3 := (ne_some hf.1 hp).2
 rw [cheH, Hp.set_ne _ _ n1, Hp.set_ne _ _ n2, Hp.set_ne _ _ n3]; exact hp
theorem intF_put (l : List Int) (w : Int) (hl : l.length < 8) (q : Nat) (hq : q < 8) : updF 8 l.length (intF l) (i64 w :: List.drop 1 (intF l l.length)) q = intF (l ++ [w]) q := by
 rw [updF_at hl hq]
 by_cases e : q = l.length
 ·rw [if_pos e, e]
  simp [intF, List.getD_eq_getElem?_getD]
 ·rw [if_neg e]
  simp only [intF]
  by_cases e' : q < l.length
  ·rw [List.getD_eq_getElem?_getD, List.getD_eq_getElem?_getD, List.getElem?_append_left e']
  ·rw [List.getD_eq_getElem?_getD, List.getD_eq_getElem?_getD, List.getElem?_eq_none (by omega), List.getElem?_eq_none (by simp; omega)]
/-- What is told of the fewest hours, the plan in a row of its own. -/
def fewR (p : Pu) (H : Hp) : Res → Hp → Prop := fun r H' => ∃ id, H id = none ∧ r = .ret (.tuple [i64 (fewN p), .sl id 1 (fewP p).length, i64 (fewE p)]) ∧ H' = H.set id (.row 1 (fewP p).length (intF (fewP p)))
theorem fewM_tri (p : Pu) (H : Hp) (kn : Near p) : Tri Try.prog (fnA 11) [p.av] H (fewR p H) := by
 refine Tri.drop ?_
 refine tri_am (m := mset [3, 99]) ans40 Try.func11 (by kernel_rfl) rfl (by simp only [List.length_append, List.length_cons, List.length_nil, Try.ntmps11]; decide) ?_
 simp only [vsAll, loadA, loadRow, partA, partOk, boxA, boxZ, okAll, stAll, opsA, opA, allocA, dstOk, nilA, nilSliceOp, argFr, Nat.reduceAdd, Nat.reduceLT, Nat.reduceEqDiff, Nat.reduceBEq, Int.reduceNeg, ↓reduceIte, eq_self, wtAll, Try.ntmps11]
 intro i3 hh_i3; (try simp only [Hp.set_none, ite_none] at hh_i3); intro i4 hh_i4; (try simp only [ite_none] at hh_i4)
 refine open_call (open_tri p _ true _ kn trivial rfl (fun k H' => palways_tri H')) (fun he => ?_) (fun k hv hA id hid => ?_)
 ·have e : fewE p = errE p true := if_neg he
  have e2 : fewN p = 0 := if_neg (by rw [e]; exact he)
  have e3 : fewP p = [] := if_neg (by rw [e]; exact he)
  simp only [vsAll, loadA, loadRow, partA, partOk, resA, retA.eq_2, Nat.reduceEqDiff, Int.reduceNeg, ↓reduceIte, eq_self, wtAll, Try.results11]
  refine ⟨errE p true, i4, _, rfl, rfl, by simp only [↓reduceIte, eq_self]; try rfl, ?_⟩
  simp only [vsAll, Nat.reduceLT, ↓reduceIte, eq_self]
  refine ⟨_, ?_, i3, hh_i3, by simp only [vsAll, eq_self, e3, e, e2]; try rfl, rfl⟩
  rw [e3]
  refine HSub_put (o' := .row 1 0 fun _ => []) (by simp only [vsAll, ↓reduceIte, eq_self, hh_i4]) (row0_le _ _ _) ?_
  (repeat (first | exact HSub_rfl | refine HSub_put_eq (by simp only [vsAll, binA, binLitA, intA, aggA, aggV, boolA, nilA2, isConst, unA, loadA, loadRow, partA, partOk, fieldAddrA, indexAddrA, indexA, fieldA, extractA, lenA, nilCheckA, boxA, boxZ, cellA, cellsA, fillA, okParts, buildSliceA, buildMutA, makeSliceA, partIdx, elemsA, lensA, ifaceA, convA, mmA, pickA, okAll, stAll, opsA, partsA, partsOk, opA, allocA, boxMutA, newCells, okCells, storeObj, appendA, guardV, taA, nM, mapUpA, rangeA, nextA, entryA, lookA, sliceA, sliceM, sliceS, boundsA, opO, okO, copyA, dstOk, nilA, quietOk, nilSliceOp, deferV, panA, resA, argFr, retA.eq_1, retA.eq_2, Nat.reduceAdd, Nat.reduceSub, Nat.reduceMul, Nat.reduceLT, Nat.reduceLeDiff, Nat.reduceEqDiff, Nat.reduceBEq, Int.reduceAdd, Int.reduceSub, Int.reduceMul, Int.reduceNeg, Int.reduceLE, Int.reduceLT, Int.reduceEq, Int.reduceNe, Int.reduceToNat, ↓reduceIte, reduceCtorEq, implies_true, forall_const, eq_self, ne_eq, wtAll, Try.ntmps11, Try.results11, hh_i3, hh_i4]) ?_ | refine HSub_drop2 (by simp only [eq_self, hh_i3, hh_i4]) ?_ | refine HSub_keep_eq (by simp only [vsAll, binA, binLitA, intA, aggA, aggV, boolA, nilA2, isConst, unA, loadA, loadRow, partA, partOk, fieldAddrA, indexAddrA, indexA, fieldA, extractA, lenA, nilCheckA, boxA, boxZ, cellA, cellsA, fillA, okParts, buildSliceA, buildMutA, makeSliceA, partIdx, elemsA, lensA, ifaceA, convA, mmA, pickA, okAll, stAll, opsA, partsA, partsOk, opA, allocA, boxMutA, newCells, okCells, storeObj, appendA, guardV, taA, nM, mapUpA, rangeA, nextA, entryA, lookA, sliceA, sliceM, sliceS, boundsA, opO, okO, copyA, dstOk, nilA, quietOk, nilSliceOp, deferV, panA, resA, argFr, retA.eq_1, retA.eq_2, Nat.reduceAdd, Nat.reduceSub, Nat.reduceMul, Nat.reduceLT, Nat.reduceLeDiff, Nat.reduceEqDiff, Nat.reduceBEq, Int.reduceAdd, Int.reduceSub, Int.reduceMul, Int.reduceNeg, Int.reduceLE, Int.reduceLT, Int.reduceEq, Int.reduceNe, Int.reduceToNat, ↓reduceIte, reduceCtorEq, implies_true, forall_const, eq_self, ne_eq, wtAll, Try.ntmps11, Try.results11, hh_i3, hh_i4]) ?_))
 ·have eN : errE p true = 0 := errE_ok k (by ((try clear hh_i3 hh_i4); omega))
  have nF := k.nF
  have nW := k.nW
  have hE := every_lt k
  have hid' := hid
  simp only [Hp.set_none] at hid
  skip
  simp only [vsAll, okAll, stAll, opsA, opA, dstOk, nilSliceOp, Nat.reduceLT, Nat.reduceBEq, Int.reduceNeg, ↓reduceIte, eq_self]
  refine callK_pure (hours_tri _) ?_
  simp only [vsAll, cellA, opA, allocA, newCells, okCells, storeObj, dstOk, Nat.reduceAdd, Nat.reduceLT, Nat.reduceEqDiff, Int.reduceNeg, ↓reduceIte, eq_self, wtAll]
  intro i6 hh_i6; (try simp only [ite_none] at hh_i6)
  rw [Hp.set_set]
  refine vs_draw2 [0, 0, 0, 0, 0, 0, 0, 0, 0, 0, 1, 2] [([0, 1, 2, 3, 4, 5, 6, 7, 8, 9], [], 10)] [11] (by decide +kernel) ?_
  simp only [vsAll, loadA, loadRow, partA, partOk, fieldAddrA, lenA, nilCheckA, opA, dstOk, Nat.reduceLT, Nat.reduceEqDiff, Int.reduceNeg, ↓reduceIte, eq_self, wtAll, hh_i6]
  refine qcall _ ⟨trivial, by simp only [vsAll, okAll, opsA, opA, ↓reduceIte, eq_self], every_tri p false 0 id _ k (by show Hp.set _ _ _ id = _; simp only [vsAll, ↓reduceIte, eq_self, hh_i6])⟩ ?_
  simp only [vsAll, loadA, loadRow, partA, partOk, okAll, stAll, opsA, opA, dstOk, Nat.reduceLT, Nat.reduceEqDiff, Int.reduceNeg, ↓reduceIte, eq_self, wtAll]
  refine ⟨_, che_tri p id p.fl.length (everyN p) _, fun r H' hr => ?_⟩
  obtain ⟨i9, i10, im, rfl, hfr, hd, rfl⟩ := hr
  have hpm : PmAt p false 0 id ((((H.set i3 (.row 1 0 fun _ => [])).set i4 (.box 1 1 fun _ => [i64 0])).set id (.box 9 1 fun _ => pmC p false 0)).set i6 (.box 2 1 fun _ => [.func (.func 88) [] [], .func (.func 89) [] []])) := by
   show Hp.set _ _ _ id = _
   simp only [vsAll, ↓reduceIte, eq_self, hh_i6]
  have hB4 : ((((H.set i3 (.row 1 0 fun _ => [])).set i4 (.box 1 1 fun _ => [i64 0])).set id (.box 9 1 fun _ => pmC p false 0)).set i6 (.box 2 1 fun _ => [.func (.func 88) [] [], .func (.func 89) [] []])) i4 = some (.box 1 1 fun _ => [i64 0]) := by simp only [vsAll, ↓reduceIte, eq_self, hid, hh_i6]
  have hB6 : ((((H.set i3 (.row 1 0 fun _ => [])).set i4 (.box 1 1 fun _ => [i64 0])).set id (.box 9 1 fun _ => pmC p false 0)).set i6 (.box 2 1 fun _ => [.func (.func 88) [] [], .func (.func 89) [] []])) i6 = some (.box 2 1 fun _ => [.func (.func 88) [] [], .func (.func 89) [] []]) := Hp.set_same _ _ _
  have hB3 : ((((H.set i3 (.row 1 0 fun _ => [])).set i4 (.box 1 1 fun _ => [i64 0])).set id (.box 9 1 fun _ => pmC p false 0)).set i6 (.box 2 1 fun _ => [.func (.func 88) [] [], .func (.func 89) [] []])) i3 = some (.row 1 0 fun _ => []) := by simp only [vsAll, ↓reduceIte, eq_self, hh_i4, hid, hh_i6]
  have hBH : Go.V.HSub ((((H.set i3 (.row 1 0 fun _ => [])).set i4 (.box 1 1 fun _ => [i64 0])).set id (.box 9 1 fun _ => pmC p false 0)).set i6 (.box 2 1 fun _ => [.func (.func 88) [] [], .func (.func 89) [] []])) H := by (repeat (first | exact HSub_rfl | refine HSub_put_eq (by simp only [vsAll, binA, binLitA, intA, aggA, aggV, boolA, nilA2, isConst, unA, loadA, loadRow, partA, partOk, fieldAddrA, indexAddrA, indexA, fieldA, extractA, lenA, nilCheckA, boxA, boxZ, cellA, cellsA, fillA, okParts, buildSliceA, buildMutA, makeSliceA, partIdx, elemsA, lensA, ifaceA, convA, mmA, pickA, okAll, stAll, opsA, partsA, partsOk, opA, allocA, boxMutA, newCells, okCells, storeObj, appendA, guardV, taA, nM, mapUpA, rangeA, nextA, entryA, lookA, sliceA, sliceM, sliceS, boundsA, opO, okO, copyA, dstOk, nilA, quietOk, nilSliceOp, deferV, panA, resA, argFr, retA.eq_1, retA.eq_2, Nat.reduceAdd, Nat.reduceSub, Nat.reduceMul, Nat.reduceLT, Nat.reduceLeDiff, Nat.reduceEqDiff, Nat.reduceBEq, Int.reduceAdd, Int.reduceSub, Int.reduceMul, Int.reduceNeg, Int.reduceLE, Int.reduceLT, Int.reduceEq, Int.reduceNe, Int.reduceToNat, ↓reduceIte, reduceCtorEq, implies_true, forall_const, eq_self, ne_eq, wtAll, Try.ntmps11, Try.results11, hh_i3, hh_i4, hid, hh_i6]) ?_ | refine HSub_drop2 (by simp only [eq_self, hh_i3, hh_i4, hid, hh_i6]) ?_ | refine HSub_keep_eq (by simp only [vsAll, binA, binLitA, intA, aggA, aggV, boolA, nilA2, isConst, unA, loadA, loadRow, partA, partOk, fieldAddrA, indexAddrA, indexA, fieldA, extractA, lenA, nilCheckA, boxA, boxZ, cellA, cellsA, fillA, okParts, buildSliceA, buildMutA, makeSliceA, partIdx, elemsA, lensA, ifaceA, convA, mmA, pickA, okAll, stAll, opsA, partsA, partsOk, opA, allocA, boxMutA, newCells, okCells, storeObj, appendA, guardV, taA, nM, mapUpA, rangeA, nextA, entryA, lookA, sliceA, sliceM, sliceS, boundsA, opO, okO, copyA, dstOk, nilA, quietOk, nilSliceOp, deferV, panA, resA, argFr, retA.eq_1, retA.eq_2, Nat.reduceAdd, Nat.reduceSub, Nat.reduceMul, Nat.reduceLT, Nat.reduceLeDiff, Nat.reduceEqDiff, Nat.reduceBEq, Int.reduceAdd, Int.reduceSub, Int.reduceMul, Int.reduceNeg, Int.reduceLE, Int.reduceLT, Int.reduceEq, Int.reduceNe, Int.reduceToNat, ↓reduceIte, reduceCtorEq, implies_true, forall_const, eq_self, ne_eq, wtAll, Try.ntmps11, Try.results11, hh_i3, hh_i4, hid, hh_i6]) ?_))
  generalize ((((H.set i3 (.row 1 0 fun _ => [])).set i4 (.box 1 1 fun _ => [i64 0])).set id (.box 9 1 fun _ => pmC p false 0)).set i6 (.box 2 1 fun _ => [.func (.func 88) [] [], .func (.func 89) [] []])) = B at hfr hpm hB4 hB6 hB3 hBH ⊢
  have hGp := cheH_pm (u := p.fl.length) (S := everyN p) hfr hpm
  have hG4 := cheH_at (p := p) (id := id) (u := p.fl.length) (S := everyN p) hfr hB4
  have hG6 := cheH_at (p := p) (id := id) (u := p.fl.length) (S := everyN p) hfr hB6
  have hG3 := cheH_at (p := p) (id := id) (u := p.fl.length) (S := everyN p) hfr hB3
  have hGH := HSub.trans (cheH_sub (p := p) (id := id) (u := p.fl.length) (S := everyN p) hfr) hBH
  have hG9 : cheH p id p.fl.length (everyN p) B im i9 i10 i9 = some (.box 1 1 fun _ => [.map im]) := by rw [cheH, Hp.set_ne _ _ hd.2.2.2, Hp.set_same]
  have hG10 : cheH p id p.fl.length (everyN p) B im i9 i10 i10 = some (.box 1 1 fun _ => [onF id p.fl.length (everyN p) i9 i10]) := by rw [cheH, Hp.set_same]
  have hGm : cheH p id p.fl.length (everyN p) B im i9 i10 im = some (.memo (memT p p.fl.length (everyN p))) := by rw [cheH, Hp.set_ne _ _ hd.2.1.2, Hp.set_ne _ _ hd.1.2, Hp.set_same]
  generalize cheH p id p.fl.length (everyN p) B im i9 i10 = G at hGp hG4 hG6 hG3 hGH hG9 hG10 hGm ⊢
  have hnone : ∀ q, G q = none → H q = none := fun q hq => by
   cases e : H q with
   | none => rfl
   | some o =>
     obtain ⟨o', e1, _⟩ := hGH q o e
     rw [hq] at e1; cases e1
  have hon := fun n l X h1 h2 h3 h4 h5 h6 => on_tri (p := p) (id := id) (i9 := i9) (i10 := i10) (im := im) k hA (Nat.le_refl p.fl.length) hE n l X h1 h2 h3 h4 h5 h6
  have hok : (onF id p.fl.length (everyN p) i9 i10).ok := trivial
  have hst : (onF id p.fl.length (everyN p) i9 i10).st = onF id p.fl.length (everyN p) i9 i10 := rfl
  generalize onF id p.fl.length (everyN p) i9 i10 = T at hG10 hon hok hst ⊢
  skip
  simp only [vsAll, okAll, stAll, opsA, opA, dstOk, Nat.reduceLT, Nat.reduceEqDiff, Int.reduceNeg, ↓reduceIte, eq_self, hok, hst]
  refine callK_pure (begin_tri p [] false 0 id _ hGp) ?_
  simp only [vsAll, loadA, loadRow, partA, partOk, cellA, okAll, stAll, opsA, opA, allocA, newCells, okCells, storeObj, dstOk, Nat.reduceAdd, Nat.reduceLT, Nat.reduceEqDiff, Int.reduceNeg, ↓reduceIte, eq_self, wtAll, hok, hst]
  intro i8 hh_i8; (try simp only [Hp.set_none, ite_none] at hh_i8)
  have a1 := ne_some hh_i8 hGp
  have a2 := ne_some hh_i8 hG4
  have a3 := ne_some hh_i8 hG6
  have a4 := ne_some hh_i8 hG9
  have a5 := ne_some hh_i8 hG10
  have a6 := ne_some hh_i8 hGm
  skip
  rw [Hp.set_set]
  refine callK_pure (hon p.fl.length [] _ (Nat.zero_add _) (first0 p _) (by show Hp.set _ _ _ id = _; simp only [vsAll, ↓reduceIte, eq_self, hGp, a1]) (by simp only [vsAll, ↓reduceIte, eq_self, hG9, a4]) (by simp only [vsAll, ↓reduceIte, eq_self, hG10, a5]) (by simp only [vsAll, ↓reduceIte, eq_self, hGm, a6])) ?_
  cases hL : leastB p (everyN p) p.fl.length [] with
  | none =>
    have e : fewE p = 4 := by rw [fewE, if_pos eN, hL]; rfl
    have e2 : fewN p = 0 := if_neg (by rw [e]; decide)
    have e3 : fewP p = [] := if_neg (by rw [e]; decide)
    simp only [vsAll, extractA, okAll, stAll, opsA, opA, dstOk, nilSliceOp, Nat.reduceAdd, Nat.reduceLT, Nat.reduceEqDiff, Nat.reduceBEq, Int.reduceNeg, ↓reduceIte, eq_self, Option.getD_none]
    refine pask_call (fun hc => by cases hc) (fun _ => ?_)
    simp only [vsAll, loadA, loadRow, partA, partOk, resA, retA.eq_2, Nat.reduceEqDiff, Int.reduceNeg, ↓reduceIte, eq_self, wtAll, Try.results11, hG4, a2]
    refine ⟨4, i4, _, rfl, rfl, by simp only [↓reduceIte, hG4, a2]; try rfl, ?_⟩
    simp only [vsAll, Nat.reduceLT, ↓reduceIte, eq_self]
    have c3 := ne_some hh_i8 hG3
    have c4 : ¬ i3 = i4 := fun e => by rw [e] at hG3; have := hG3.symm.trans hG4; cases this
    refine ⟨H.set i3 (.row 1 0 (intF [])), ?_, i3, hh_i3, by rw [e, e2, e3]; rfl, by rw [e3]; rfl⟩
    refine HSub_put (o' := .row 1 0 fun _ => []) ?_ (row0_le _ _ _) (HSub_drop2 hh_i4.2 (HSub_drop2 (hnone _ hh_i8) hGH))
    rw [Hp.set_ne _ _ c4, Hp.set_ne _ _ c3.2]
    exact hG3
  | some want =>
    have e : fewE p = 0 := by rw [fewE, if_pos eN, hL]; rfl
    have e2 : fewN p = want := by rw [fewN, if_pos e, hL]; rfl
    have e3 : fewP p = fewL p (everyN p) p.fl.length [] want := by rw [fewP, if_pos e, e2]
    simp only [vsAll, extractA, okAll, stAll, opsA, opA, dstOk, nilSliceOp, Nat.reduceAdd, Nat.reduceLT, Nat.reduceEqDiff, Nat.reduceBEq, Int.reduceNeg, ↓reduceIte, eq_self, Option.getD_some]
    refine pask_call (fun _ => ?_) (fun hc => by cases hc)
    simp only [vsAll, opA, allocA, dstOk, nilSliceOp, Nat.reduceLT, Nat.reduceEqDiff, Nat.reduceBEq, Int.reduceNeg, ↓reduceIte, eq_self, wtAll]
    intro i11 hh_i11; (try simp only [ite_none] at hh_i11)
    have b1 := ne_some hh_i11.2 hGp
    have b2 := ne_some hh_i11.2 hG4
    have b3 := ne_some hh_i11.2 hG6
    have b4 := ne_some hh_i11.2 hG9
    have b5 := ne_some hh_i11.2 hG10
    have b6 := ne_some hh_i11.2 hGm
    skip
    refine vs_loop (σ := List Int × Int) (fun y => FirstL p p.fl.length y.1 ∧ leastB p (everyN p) (p.fl.length - y.1.length) y.1 = some y.2 ∧ fewL p (everyN p) (p.fl.length - y.1.length) y.1 y.2 = fewL p (everyN p) p.fl.length [] want)
     (fun y => [(4, .ref i4 0 1 0 0), (5, .ref id 0 9 0 0), (6, .ref i6 0 2 0 0), (7, T), (8, .ref i8 0 8 0 0), (9, i64 want), (11, .ref i11 0 1 0 0), (12, i64 y.2)])
     (fun y => (G.set i8 (.box 8 1 fun _ => dkC p y.1 false 0 y.1.length)).set i11 (.box 1 8 (intF y.1))) (fun y => p.fl.length - y.1.length) ([], want) ⟨first0 p _, hL, rfl⟩ ?_ ?_ fun y hy => ?_
    ·simp only [vsAll, Nat.reduceEqDiff, ↓reduceIte, eq_self]
    ·exact HSub_rfl
    ·obtain ⟨l, wt⟩ := y
     obtain ⟨hl1, hl2, hl3⟩ := hy
     simp only [] at hl1 hl2 hl3
     have hll := hl1.len
     simp only [vsAll, Int.reduceNeg]
     refine vs_draw2 [0, 0, 0, 0, 0, 0, 0, 0, 0] [] [0, 1, 2, 3, 4, 5, 6, 7, 8] (by decide +kernel) ?_
     simp only [vsAll, binA, binLitA, intA, loadA, loadRow, partA, partOk, fieldAddrA, lenA, nilCheckA, opA, dstOk, Nat.reduceLT, Nat.reduceEqDiff, Int.reduceNeg, ↓reduceIte, eq_self, wtAll, hGp, a1, hh_i11, b1]
     refine condD (fun hd1 => ?_) (fun hd1 => ?_)
     case refine_2 =>
      have el : p.fl.length - l.length = 0 := by ((try clear hh_i3 hh_i4 hid hh_i6 hGp hG4 hG6 hG9 hG10 hGm hh_i8 a1 a2 a3 a4 a5 a6 hh_i11 b1 b2 b3 b4 b5 b6); omega)
      rw [el] at hl3
      have hfin : fewP p = l := by rw [e3, ← hl3]; rfl
      have el2 : l.length = p.fl.length := by ((try clear hh_i3 hh_i4 hid hh_i6 hGp hG4 hG6 hG9 hG10 hGm hh_i8 a1 a2 a3 a4 a5 a6 hh_i11 b1 b2 b3 b4 b5 b6); omega)
      simp only [vsAll, loadA, loadRow, partA, partOk, fieldAddrA, lenA, nilCheckA, cellA, cellsA, makeSliceA, opA, newCells, okCells, storeObj, sliceA, boundsA, opO, okO, copyA, dstOk, nilSliceOp, resA, retA.eq_2, Nat.reduceSub, Nat.reduceLT, Nat.reduceEqDiff, Nat.reduceBEq, Int.reduceNeg, ↓reduceIte, eq_self, wtAll, Try.results11, hGp, hG4, a1, a2, b1, b2]
      refine ⟨by ((try clear hh_i3 hh_i4 hid hh_i6 hGp hG4 hG6 hG9 hG10 hGm hh_i8 a1 a2 a3 a4 a5 a6 hh_i11 b1 b2 b3 b4 b5 b6); omega), by ((try clear hh_i3 hh_i4 hid hh_i6 hGp hG4 hG6 hG9 hG10 hGm hh_i8 a1 a2 a3 a4 a5 a6 hh_i11 b1 b2 b3 b4 b5 b6); omega), by ((try clear hh_i3 hh_i4 hid hh_i6 hGp hG4 hG6 hG9 hG10 hGm hh_i8 a1 a2 a3 a4 a5 a6 hh_i11 b1 b2 b3 b4 b5 b6); omega), ?_⟩
      intro io hh_io; (try simp only [ite_none] at hh_io)
      have u1 := ne_some hh_io.2.2 hG4
      skip
      simp only [vsAll, Nat.reduceLT, ↓reduceIte, eq_self, hh_io, u1]
      refine ⟨fun q hq => ⟨rfl, trivial⟩, ?_⟩
      have ecp : cpF 0 (min 8 p.fl.length) (fun _ => [i64 0]) 0 (fun i => intF l i) = intF l := by
       funext q
       simp only [cpF, Nat.zero_add, Nat.sub_zero, Nat.zero_le, true_and]
       split
       ·rfl
       ·simp only [intF]
        rw [List.getD_eq_getElem?_getD, List.getElem?_eq_none (by ((try clear hh_i3 hh_i4 hid hh_i6 hGp hG4 hG6 hG9 hG10 hGm hh_i8 a1 a2 a3 a4 a5 a6 hh_i11 b1 b2 b3 b4 b5 b6 hh_io u1); omega))]
        rfl
      rw [ecp]
      refine ⟨i4, _, rfl, by simp only [↓reduceIte, eq_self]; try rfl, H.set io (.row 1 p.fl.length (intF l)), ?_, io, hnone io hh_io.2.2, by rw [e, e2, hfin, el2], by rw [hfin, el2]⟩
      exact HSub_put_eq (by simp only [vsAll, ↓reduceIte, eq_self, u1]) (HSub_drop2 hh_i4.2 (HSub_drop2 (hnone _ hh_io.2.2) (HSub_drop2 (hnone _ hh_io.2.2) (HSub_drop2 (hnone _ hh_i11.2) (HSub_drop2 (hnone _ hh_i8) hGH)))))
     have hlt : l.length < p.fl.length := by ((try clear hh_i3 hh_i4 hid hh_i6 hGp hG4 hG6 hG9 hG10 hGm hh_i8 a1 a2 a3 a4 a5 a6 hh_i11 b1 b2 b3 b4 b5 b6); omega)
     obtain ⟨n, hn⟩ : ∃ n, p.fl.length - l.length = n + 1 := ⟨p.fl.length - l.length - 1, by ((try clear hh_i3 hh_i4 hid hh_i6 hGp hG4 hG6 hG9 hG10 hGm hh_i8 a1 a2 a3 a4 a5 a6 hh_i11 b1 b2 b3 b4 b5 b6); omega)⟩
     rw [hn] at hl2 hl3
     obtain ⟨j0, f1, f2, f3, f4⟩ := first_some hl2
     simp only [vsAll, opA, dstOk, nilSliceOp, Nat.reduceLT, Nat.reduceBEq, Int.reduceNeg, eq_self]
     refine vs_loop (σ := Nat) (fun j => j ≤ p.ws.length + 1 ∧ ∀ i, i < j → okB p (everyN p) n l wt ((i : Int) - 1) = false)
      (fun j => [(4, .ref i4 0 1 0 0), (5, .ref id 0 9 0 0), (6, .ref i6 0 2 0 0), (7, T), (8, .ref i8 0 8 0 0), (9, i64 want), (11, .ref i11 0 1 0 0), (12, i64 wt), (13, i64 ((j : Int) - 1))])
      (fun _ => (G.set i8 (.box 8 1 fun _ => dkC p l false 0 l.length)).set i11 (.box 1 8 (intF l))) (fun j => p.ws.length + 1 - j) 0 ⟨Nat.zero_le _, fun i hi => absurd hi (Nat.not_lt_zero i)⟩ ?_ HSub_rfl fun j hj => ?_
     ·simp only [vsAll, Nat.reduceEqDiff, Int.reduceNeg, ↓reduceIte, eq_self]
      exact AV.Le.refl _
     ·obtain ⟨hj1, hj2⟩ := hj
      simp only [vsAll, binA, binLitA, intA, loadA, loadRow, partA, partOk, fieldAddrA, lenA, nilCheckA, opA, dstOk, Nat.reduceLT, Nat.reduceEqDiff, ↓reduceIte, eq_self, wtAll, hGp, a1, b1]
      refine condD (fun hd2 => ?_) (fun hd2 => ?_)
      case refine_2 =>
       have ej : j = p.ws.length + 1 := by ((try clear hh_i3 hh_i4 hid hh_i6 hGp hG4 hG6 hG9 hG10 hGm hh_i8 a1 a2 a3 a4 a5 a6 hh_i11 b1 b2 b3 b4 b5 b6); omega)
       have := hj2 j0 (by ((try clear hh_i3 hh_i4 hid hh_i6 hGp hG4 hG6 hG9 hG10 hGm hh_i8 a1 a2 a3 a4 a5 a6 hh_i11 b1 b2 b3 b4 b5 b6); omega))
       rw [f3] at this
       cases this
      have hw : -1 ≤ (j : Int) - 1 ∧ (j : Int) - 1 < p.ws.length := by ((try clear hh_i3 hh_i4 hid hh_i6 hGp hG4 hG6 hG9 hG10 hGm hh_i8 a1 a2 a3 a4 a5 a6 hh_i11 b1 b2 b3 b4 b5 b6); omega)
      generalize hjw : (j : Int) - 1 = w at hw hd2
      have hf2 := hl1.snoc hlt hw
      rw [← deck_pre p l [w] false 0 l.length (Nat.le_refl _)]
      simp only [vsAll, loadA, loadRow, partA, partOk, okAll, stAll, opsA, opA, dstOk, Nat.reduceLT, Nat.reduceEqDiff, ↓reduceIte, eq_self, wtAll, hh_i11]
      refine callK_pure (next_tri p (l ++ [w]) false 0 l.length w id _ k hA (by show Hp.set (Hp.set _ _ _) _ _ id = _; simp only [vsAll, ↓reduceIte, eq_self, hGp, a1, b1]) (by ((try clear hh_i3 hh_i4 hid hh_i6 hGp hG4 hG6 hG9 hG10 hGm hh_i8 a1 a2 a3 a4 a5 a6 hh_i11 b1 b2 b3 b4 b5 b6); omega)) hw (getD_app_len l w) (by ((try clear hh_i3 hh_i4 hid hh_i6 hGp hG4 hG6 hG9 hG10 hGm hh_i8 a1 a2 a3 a4 a5 a6 hh_i11 b1 b2 b3 b4 b5 b6); omega))) ?_
      simp only [vsAll, loadA, loadRow, partA, partOk, cellA, okAll, stAll, opsA, opA, allocA, newCells, okCells, storeObj, dstOk, Nat.reduceAdd, Nat.reduceLT, Nat.reduceEqDiff, ↓reduceIte, eq_self, wtAll]
      intro i14 hh_i14; (try simp only [ite_none] at hh_i14)
      have d1 := ne_some hh_i14.2.2 hGp
      have d2 := ne_some hh_i14.2.2 hG4
      have d3 := ne_some hh_i14.2.2 hG6
      have d4 := ne_some hh_i14.2.2 hG9
      have d5 := ne_some hh_i14.2.2 hG10
      have d6 := ne_some hh_i14.2.2 hGm
      skip
      rw [Hp.set_set]
      have hih := fun X => hon n (l ++ [w]) X (by rw [List.length_append, List.length_singleton]; ((try clear hh_i3 hh_i4 hid hh_i6 hGp hG4 hG6 hG9 hG10 hGm hh_i8 a1 a2 a3 a4 a5 a6 hh_i11 b1 b2 b3 b4 b5 b6 hh_i14 d1 d2 d3 d4 d5 d6); omega)) hf2
      rw [List.length_append, List.length_singleton] at hih
      simp only [vsAll, hok, hst]
      refine callK_pure (hih _ (by show Hp.set (Hp.set (Hp.set _ _ _) _ _) _ _ id = _; simp only [vsAll, ↓reduceIte, eq_self, hGp, a1, b1, d1]) (by show Hp.set (Hp.set (Hp.set _ _ _) _ _) _ _ i9 = _; simp only [vsAll, ↓reduceIte, eq_self, hG9, a4, b4, d4]) (by show Hp.set (Hp.set (Hp.set _ _ _) _ _) _ _ i10 = _; simp only [vsAll, ↓reduceIte, eq_self, hG10, a5, b5, d5]) (by show Hp.set (Hp.set (Hp.set _ _ _) _ _) _ _ im = _; simp only [vsAll, ↓reduceIte, eq_self, hGm, a6, b6, d6])) ?_
      have e13 : w + 1 = ((j + 1 : Nat) : Int) - 1 := by ((try clear hh_i3 hh_i4 hid hh_i6 hGp hG4 hG6 hG9 hG10 hGm hh_i8 a1 a2 a3 a4 a5 a6 hh_i11 b1 b2 b3 b4 b5 b6 hh_i14 d1 d2 d3 d4 d5 d6); omega)
      have hnext : okB p (everyN p) n l wt w = false → ∀ i, i < j + 1 → okB p (everyN p) n l wt ((i : Int) - 1) = false := fun h i hi => by
       by_cases e : i = j
       ·rw [e, hjw]; exact h
       ·exact hj2 i (by ((try clear hh_i3 hh_i4 hid hh_i6 hGp hG4 hG6 hG9 hG10 hGm hh_i8 a1 a2 a3 a4 a5 a6 hh_i11 b1 b2 b3 b4 b5 b6 hh_i14 d1 d2 d3 d4 d5 d6); omega))
      have eok : okB p (everyN p) n l wt w = match leastB p (everyN p) n (l ++ [w]) with | some x => decide (watV p (l ++ [w]) false (l.length + 1) ≤ p.ca) && decide (costW w x = wt) | none => false := rfl
      cases hq : leastB p (everyN p) n (l ++ [w]) with
      | none =>
        rw [hq] at eok
        simp only [] at eok
        simp only [vsAll, loadA, loadRow, partA, partOk, extractA, opA, guardV, dstOk, nilSliceOp, Nat.reduceAdd, Nat.reduceLT, Nat.reduceEqDiff, Nat.reduceBEq, ↓reduceIte, implies_true, eq_self, wtAll]
        refine gcall (boo true) (fun g => by cases g) ?_
        simp only [vsAll, loadA, loadRow, partA, partOk, fieldAddrA, pickA, opA, guardV, dstOk, Nat.reduceLT, Nat.reduceEqDiff, ↓reduceIte, implies_true, eq_self, wtAll, hG6, a3, b3, d3]
        refine gcall (i64 0) (fun g => by cases g) ?_
        simp only [vsAll, binA, binLitA, intA, pickA, opA, guardV, dstOk, nilSliceOp, Nat.reduceLT, Nat.reduceEqDiff, Nat.reduceBEq, ↓reduceIte, implies_true, eq_self]
        refine ⟨by simp only [InR_i64]; ((try clear hh_i3 hh_i4 hid hh_i6 hGp hG4 hG6 hG9 hG10 hGm hh_i8 a1 a2 a3 a4 a5 a6 hh_i11 b1 b2 b3 b4 b5 b6 hh_i14 d1 d2 d3 d4 d5 d6); omega), loop_next (j + 1) ⟨by ((try clear hh_i3 hh_i4 hid hh_i6 hGp hG4 hG6 hG9 hG10 hGm hh_i8 a1 a2 a3 a4 a5 a6 hh_i11 b1 b2 b3 b4 b5 b6 hh_i14 d1 d2 d3 d4 d5 d6); omega), hnext eok⟩ (by ((try clear hh_i3 hh_i4 hid hh_i6 hGp hG4 hG6 hG9 hG10 hGm hh_i8 a1 a2 a3 a4 a5 a6 hh_i11 b1 b2 b3 b4 b5 b6 hh_i14 d1 d2 d3 d4 d5 d6); omega)) ?_ (by (repeat (first | exact HSub_rfl | refine HSub_put_eq (by simp only [vsAll, ↓reduceIte, eq_self, hh_i11, hh_i14]) ?_ | refine HSub_drop2 (by simp only [eq_self, hh_i8, hh_i11, hh_i14]) ?_ | refine HSub_keep_eq (by simp only [vsAll, binA, binLitA, intA, aggA, aggV, boolA, nilA2, isConst, unA, loadA, loadRow, partA, partOk, fieldAddrA, indexAddrA, indexA, fieldA, extractA, lenA, nilCheckA, boxA, boxZ, cellA, cellsA, fillA, okParts, buildSliceA, buildMutA, makeSliceA, partIdx, elemsA, lensA, ifaceA, convA, mmA, pickA, okAll, stAll, opsA, partsA, partsOk, opA, allocA, boxMutA, newCells, okCells, storeObj, appendA, guardV, taA, nM, mapUpA, rangeA, nextA, entryA, lookA, sliceA, sliceM, sliceS, boundsA, opO, okO, copyA, dstOk, nilA, quietOk, nilSliceOp, deferV, panA, resA, argFr, retA.eq_1, retA.eq_2, Nat.reduceAdd, Nat.reduceSub, Nat.reduceMul, Nat.reduceLT, Nat.reduceLeDiff, Nat.reduceEqDiff, Nat.reduceBEq, Int.reduceAdd, Int.reduceSub, Int.reduceMul, Int.reduceNeg, Int.reduceLE, Int.reduceLT, Int.reduceEq, Int.reduceNe, Int.reduceToNat, ↓reduceIte, reduceCtorEq, implies_true, forall_const, eq_self, ne_eq, wtAll, Try.ntmps11, Try.results11, hh_i3, hh_i4, hid, hh_i6, hGp, hG4, hG6, hG9, hG10, hGm, hh_i8, a1, a2, a3, a4, a5, a6, hh_i11, b1, b2, b3, b4, b5, b6, hh_i14, d1, d2, d3, d4, d5, d6]) ?_)))⟩
        simp only [vsAll, Nat.reduceEqDiff, ↓reduceIte, eq_self]
        rw [e13]
        exact AV.Le.refl _
      | some x =>
        rw [hq] at eok
        simp only [] at eok
        have hx := least_rng (everyN p) n _ _ hq
        simp only [vsAll, loadA, loadRow, partA, partOk, extractA, opA, guardV, dstOk, nilSliceOp, Nat.reduceAdd, Nat.reduceLT, Nat.reduceEqDiff, Nat.reduceBEq, ↓reduceIte, eq_self, wtAll, Option.getD_some]
        refine gcall _ (fun g => ⟨by simp only [vsAll, opA], by simp only [vsAll, okAll, opsA, opA, Nat.reduceEqDiff, ↓reduceIte, eq_self], floats_tri p (l ++ [w]) false 0 (l.length + 1) id _ (by show Hp.set (Hp.set (Hp.set _ _ _) _ _) _ _ id = _; simp only [vsAll, ↓reduceIte, eq_self, hGp, a1, b1, d1])⟩) ?_
        rw [moreP_zero]
        simp only [vsAll, loadA, loadRow, partA, partOk, fieldAddrA, pickA, opA, guardV, dstOk, Nat.reduceLT, Nat.reduceEqDiff, ↓reduceIte, implies_true, eq_self, wtAll, hG6, a3, b3, d3]
        refine gcall (i64 (costW w x)) (fun g => ⟨by simp only [vsAll, opA, Nat.reduceEqDiff, ↓reduceIte, eq_self, g], by simp only [vsAll, okAll, opsA, opA, Nat.reduceEqDiff, ↓reduceIte, eq_self, g], of_tri2 w x _ (by ((try clear hh_i3 hh_i4 hid hh_i6 hGp hG4 hG6 hG9 hG10 hGm hh_i8 a1 a2 a3 a4 a5 a6 hh_i11 b1 b2 b3 b4 b5 b6 hh_i14 d1 d2 d3 d4 d5 d6); omega))⟩) ?_
        simp only [vsAll, binA, binLitA, intA, pickA, opA, guardV, dstOk, Nat.reduceLT, Nat.reduceEqDiff, ↓reduceIte, implies_true, eq_self]
        rw [← eok]
        refine condV (fun hc3 => ?_) (fun hc3 => ?_)
        ·obtain ⟨x', g1, g2⟩ := ok_some hc3
         have hxx : x' = x := by rw [hq] at g1; simpa using g1.symm
         subst hxx
         have hj3 : j < p.ws.length + 1 := by ((try clear hh_i3 hh_i4 hid hh_i6 hGp hG4 hG6 hG9 hG10 hGm hh_i8 a1 a2 a3 a4 a5 a6 hh_i11 b1 b2 b3 b4 b5 b6 hh_i14 d1 d2 d3 d4 d5 d6); omega)
         have hc4 : okB p (everyN p) n l wt ((j : Int) - 1) = true := by rw [hjw]; exact hc3
         have hq4 : leastB p (everyN p) n (l ++ [(j : Int) - 1]) = some x' := by rw [hjw]; exact hq
         have hfe := few_at hj3 hc4 hj2 hq4
         rw [hjw] at hfe
         simp only [vsAll]
         refine vs_draw2 [0, 0, 0, 0, 0, 0, 1, 3, 5] [([0, 1, 2, 3, 4, 5], [3], 6), ([], [], 7), ([], [], 8)] [] (by decide +kernel) ?_
         simp only [vsAll, loadA, loadRow, partA, partOk, fieldAddrA, indexAddrA, cellA, cellsA, opA, newCells, okCells, storeObj, dstOk, nilSliceOp, Nat.reduceAdd, Nat.reduceLT, Nat.reduceEqDiff, Nat.reduceBEq, ↓reduceIte, eq_self, wtAll, hh_i11, hh_i14]
         have hlen2 : (l ++ [w]).length = l.length + 1 := by rw [List.length_append, List.length_singleton]
         have hn2 : p.fl.length - (l ++ [w]).length = n := by rw [hlen2]; ((try clear hh_i3 hh_i4 hid hh_i6 hGp hG4 hG6 hG9 hG10 hGm hh_i8 a1 a2 a3 a4 a5 a6 hh_i11 b1 b2 b3 b4 b5 b6 hh_i14 d1 d2 d3 d4 d5 d6); omega)
         refine ⟨⟨by ((try clear hh_i3 hh_i4 hid hh_i6 hGp hG4 hG6 hG9 hG10 hGm hh_i8 a1 a2 a3 a4 a5 a6 hh_i11 b1 b2 b3 b4 b5 b6 hh_i14 d1 d2 d3 d4 d5 d6); omega), by ((try clear hh_i3 hh_i4 hid hh_i6 hGp hG4 hG6 hG9 hG10 hGm hh_i8 a1 a2 a3 a4 a5 a6 hh_i11 b1 b2 b3 b4 b5 b6 hh_i14 d1 d2 d3 d4 d5 d6); omega)⟩, by ((try clear hh_i3 hh_i4 hid hh_i6 hGp hG4 hG6 hG9 hG10 hGm hh_i8 a1 a2 a3 a4 a5 a6 hh_i11 b1 b2 b3 b4 b5 b6 hh_i14 d1 d2 d3 d4 d5 d6); omega), loop_next (l ++ [w], x') ⟨hf2, by simp only [hn2]; exact hq, by simp only [hn2]; rw [← hfe]; exact hl3⟩ (by simp only []; ((try clear hh_i3 hh_i4 hid hh_i6 hGp hG4 hG6 hG9 hG10 hGm hh_i8 a1 a2 a3 a4 a5 a6 hh_i11 b1 b2 b3 b4 b5 b6 hh_i14 d1 d2 d3 d4 d5 d6); omega)) ?_ ?_⟩
         ·simp only [vsAll, Nat.reduceEqDiff, ↓reduceIte, eq_self]
         ·simp only [hlen2]
          refine HSub_put (o' := .box 1 8 (updF 8 l.length (intF l) (i64 w :: List.drop 1 (intF l l.length)))) (by simp only [vsAll, ↓reduceIte, eq_self, hh_i11]) (box_ext (intF_put l w (by ((try clear hh_i3 hh_i4 hid hh_i6 hGp hG4 hG6 hG9 hG10 hGm hh_i8 a1 a2 a3 a4 a5 a6 hh_i11 b1 b2 b3 b4 b5 b6 hh_i14 d1 d2 d3 d4 d5 d6); omega)))) ?_
          refine HSub_put_eq (by simp only [vsAll, ↓reduceIte, eq_self]) ?_
          exact HSub_drop2 hh_i8 (HSub_drop2 hh_i11.2 (HSub_drop2 hh_i14.2.2 (HSub_drop2 hh_i11.2 (HSub_drop2 hh_i8 HSub_rfl))))
        ·simp only [vsAll, binA, binLitA, intA, opA, dstOk, nilSliceOp, Nat.reduceLT, Nat.reduceEqDiff, Nat.reduceBEq, ↓reduceIte, eq_self]
         refine ⟨by simp only [InR_i64]; ((try clear hh_i3 hh_i4 hid hh_i6 hGp hG4 hG6 hG9 hG10 hGm hh_i8 a1 a2 a3 a4 a5 a6 hh_i11 b1 b2 b3 b4 b5 b6 hh_i14 d1 d2 d3 d4 d5 d6); omega), loop_next (j + 1) ⟨by ((try clear hh_i3 hh_i4 hid hh_i6 hGp hG4 hG6 hG9 hG10 hGm hh_i8 a1 a2 a3 a4 a5 a6 hh_i11 b1 b2 b3 b4 b5 b6 hh_i14 d1 d2 d3 d4 d5 d6); omega), hnext hc3⟩ (by ((try clear hh_i3 hh_i4 hid hh_i6 hGp hG4 hG6 hG9 hG10 hGm hh_i8 a1 a2 a3 a4 a5 a6 hh_i11 b1 b2 b3 b4 b5 b6 hh_i14 d1 d2 d3 d4 d5 d6); omega)) ?_ (by (repeat (first | exact HSub_rfl | refine HSub_put_eq (by simp only [vsAll, ↓reduceIte, eq_self, hh_i11, hh_i14]) ?_ | refine HSub_drop2 (by simp only [eq_self, hh_i8, hh_i11, hh_i14]) ?_ | refine HSub_keep_eq (by simp only [vsAll, binA, binLitA, intA, aggA, aggV, boolA, nilA2, isConst, unA, loadA, loadRow, partA, partOk, fieldAddrA, indexAddrA, indexA, fieldA, extractA, lenA, nilCheckA, boxA, boxZ, cellA, cellsA, fillA, okParts, buildSliceA, buildMutA, makeSliceA, partIdx, elemsA, lensA, ifaceA, convA, mmA, pickA, okAll, stAll, opsA, partsA, partsOk, opA, allocA, boxMutA, newCells, okCells, storeObj, appendA, guardV, taA, nM, mapUpA, rangeA, nextA, entryA, lookA, sliceA, sliceM, sliceS, boundsA, opO, okO, copyA, dstOk, nilA, quietOk, nilSliceOp, deferV, panA, resA, argFr, retA.eq_1, retA.eq_2, Nat.reduceAdd, Nat.reduceSub, Nat.reduceMul, Nat.reduceLT, Nat.reduceLeDiff, Nat.reduceEqDiff, Nat.reduceBEq, Int.reduceAdd, Int.reduceSub, Int.reduceMul, Int.reduceNeg, Int.reduceLE, Int.reduceLT, Int.reduceEq, Int.reduceNe, Int.reduceToNat, ↓reduceIte, reduceCtorEq, implies_true, forall_const, eq_self, ne_eq, wtAll, Try.ntmps11, Try.results11, hh_i3, hh_i4, hid, hh_i6, hGp, hG4, hG6, hG9, hG10, hGm, hh_i8, a1, a2, a3, a4, a5, a6, hh_i11, b1, b2, b3, b4, b5, b6, hh_i14, d1, d2, d3, d4, d5, d6]) ?_)))⟩
         simp only [vsAll, Nat.reduceEqDiff, ↓reduceIte, eq_self]
         rw [e13]
         exact AV.Le.refl _
theorem few_tri (p : Pu) (H : Hp) (kn : Near p) : PTri Try.prog (fnA 11) [p.av] H (.tuple [i64 (fewN p), intsAV (fewP p), i64 (fewE p)]) := by
 refine Tri.thaw (fewM_tri p H kn) ?_
 rintro r H' ⟨id, hid, rfl, rfl⟩
 right
 exact ⟨_, id, 1, _, _, 1, rfl, Hp.set_same _ _ _, by simp, rfl, rfl, set_del hid⟩
end Go.Proofs.Ytclkjifgipcamaa.Pm
end
section
set_option linter.unusedVariables false
set_option linter.unusedSimpArgs false
set_option maxHeartbeats 4000000
set_option maxRecDepth 100000
namespace Go.Proofs.Ytclkjifgipcamaa.Pm
open Go.V Wl
/-- How many watches are in a set. -/
def bitN (S : Nat) : Nat := S % 2 + S / 2 % 2 + S / 4 % 2
end Go.Proofs.Ytclkjifgipcamaa.Pm
end
section
set_option linter.unusedVariables false
set_option linter.unusedSimpArgs false
set_option maxHeartbeats 4000000
set_option maxRecDepth 100000
namespace Go.Proofs.Ytclkjifgipcamaa.Pm
open Go.V Wl
/-- Is a set of so many watches enough? -/
def setB (p : Pu) (m S : Nat) : Bool := decide (bitN S = m) && canB p p.fl.length S
def setsO (p : Pu) (m : Nat) : Option Nat := (List.range (2 ^ p.ws.length)).find? (setB p m)
def wchO (p : Pu) : Option Nat := (List.range (p.ws.length + 1)).findSome? (setsO p)
def wchE (p : Pu) : Int := if errE p true = 0 then if (wchO p).isSome = true then 0 else 4 else errE p true
def wchV (p : Pu) : Int := if wchE p = 0 then ((wchO p).getD 0 : Nat) else 0
end Go.Proofs.Ytclkjifgipcamaa.Pm
end
section
set_option linter.unusedVariables false
set_option linter.unusedSimpArgs false
set_option maxRecDepth 100000
namespace Go.Proofs.Ytclkjifgipcamaa.Pm
open Go.V Wl
def smP (n : Int) : Pu := ⟨[(6, 8), (6, 8), (6, 8)], n, [⟨9, 10, 3, 1⟩, ⟨6, 6, 0, 0⟩], ⟨3, fun i => [2, 0, 2].getD i 0, 1, fun _ => ⟨1, 0, 0, 3, 3⟩⟩⟩
theorem sm_ok : Ok (smP 14) := by decide +kernel
theorem sm11 : fewN (smP 14) = 2 := by decide +kernel
theorem sm12 : fewP (smP 14) = [0, -1, 0] := by decide +kernel
theorem sm13 : fewE (smP 14) = 0 := by decide +kernel
end Go.Proofs.Ytclkjifgipcamaa.Pm
end
section
set_option linter.unusedVariables false
set_option linter.unusedSimpArgs false
namespace Go.Proofs.Ytclkjifgipcamaa.Pm
open Go.V Wl
/-- A watch, or none, of a set. -/
def okw (p : Pu) (S : Nat) (w : Int) : Prop := -1 ≤ w ∧ w < p.ws.length ∧ (0 ≤ w → S.testBit w.toNat = true)
/-- A list goes on from a plan so far. -/
structure Goes (p : Pu) (S : Nat) (l x : List Int) : Prop where
 at_ : ∀ w ∈ x, okw p S w
 dry : ∀ i, l.length < i → i ≤ l.length + x.length → watV p (l ++ x) false i ≤ p.ca
/-- In how many hours somebody pumps. -/
def pumN : List Int → Int
 | [] => 0
 | w :: x => costW w (pumN x)
theorem cost_mono {w a b : Int} (h : a ≤ b) : costW w a ≤ costW w b := by unfold costW; split <;> omega
theorem cost_inj {w a b : Int} (h : costW w a = costW w b) : a = b := by unfold costW at h; split at h <;> omega
theorem goes_nil (p : Pu) (S : Nat) (l : List Int) : Goes p S l [] := ⟨fun w h => (by cases h), fun i h1 h2 => (by simp at h2; omega)⟩
theorem goes_cons {p : Pu} {S : Nat} {l : List Int} {w : Int} {x : List Int} : Goes p S l (w :: x) ↔ okw p S w ∧ watV p (l ++ [w]) false (l.length + 1) ≤ p.ca ∧ Goes p S (l ++ [w]) x := by
 have e : l ++ w :: x = (l ++ [w]) ++ x := by simp
 have el : (l ++ [w]).length = l.length + 1 := by simp
 constructor
 ·rintro ⟨h1, h2⟩
  refine ⟨h1 w List.mem_cons_self, ?_, ⟨fun v hv => h1 v (List.mem_cons_of_mem _ hv), fun i hi hj => ?_⟩⟩
  ·have := h2 (l.length + 1) (by omega) (by simp)
   rw [e, wat_pre p (l ++ [w]) x false _ (by omega)] at this
   exact this
  ·rw [← e]
   rw [el] at hi hj
   exact h2 i (by omega) (by simp; omega)
 ·rintro ⟨h1, h2, h3⟩
  refine ⟨fun v hv => ?_, fun i hi hj => ?_⟩
  ·rcases List.mem_cons.1 hv with h | h
   ·rw [h]; exact h1
   ·exact h3.at_ v h
  ·rw [e]
   by_cases h : i = l.length + 1
   ·subst h
    rw [wat_pre p (l ++ [w]) x false _ (by omega)]
    exact h2
   ·exact h3.dry i (by omega) (by simp at hj; rw [el]; omega)
theorem step_le {p : Pu} {S : Nat} {f : List Int → Option Int} {l : List Int} {acc : Option Int} {w : Int} {a : Int} (h : acc = some a) : ∃ y, stepB p S f l acc w = some y ∧ y ≤ a := by
 subst h
 unfold stepB
 split
 ·exact ⟨a, rfl, Int.le_refl _⟩
 ·split
  ·exact ⟨a, rfl, Int.le_refl _⟩
  ·simp only []
   split
   ·exact ⟨_, rfl, by omega⟩
   ·exact ⟨a, rfl, Int.le_refl _⟩
theorem step_new {p : Pu} {S : Nat} {f : List Int → Option Int} {l : List Int} {acc : Option Int} {w : Int} {x : Int} (hc : ¬ ((0 ≤ w ∧ S.testBit w.toNat = false) ∨ ¬ watV p (l ++ [w]) false (l.length + 1) ≤ p.ca)) (h : f (l ++ [w]) = some x) : ∃ y, stepB p S f l acc w = some y ∧ y ≤ costW w x := by
 unfold stepB
 rw [if_neg hc, h]
 simp only []
 split
 ·exact ⟨_, rfl, Int.le_refl _⟩
 ·split
  ·exact ⟨_, rfl, Int.le_refl _⟩
  ·exact ⟨_, rfl, by omega⟩
theorem rowB_le {p : Pu} {S : Nat} {f : List Int → Option Int} {l : List Int} {w : Int} {x : Int} (hw : okw p S w) (hd : watV p (l ++ [w]) false (l.length + 1) ≤ p.ca) (hx : f (l ++ [w]) = some x) : ∀ j : Nat, w + 1 < (j : Int) → ∃ y, rowB p S f l j = some y ∧ y ≤ costW w x := by
 intro j
 induction j with
 | zero => intro h; have := hw.1; omega
 | succ j ih =>
   intro h
   by_cases e : w = (j : Int) - 1
   ·rw [rowB, ← e]
    refine step_new (fun hc => ?_) hx
    rcases hc with ⟨h1, h2⟩ | h1
    ·rw [hw.2.2 h1] at h2; cases h2
    ·exact h1 hd
   ·obtain ⟨y, h1, h2⟩ := ih (by omega)
    obtain ⟨z, h3, h4⟩ := step_le (p := p) (S := S) (f := f) (l := l) (w := (j : Int) - 1) h1
    exact ⟨z, h3, by omega⟩
theorem least_le {p : Pu} {S : Nat} : ∀ n l x, x.length = n → Goes p S l x → ∃ m, leastB p S n l = some m ∧ m ≤ pumN x := by
 intro n
 induction n with
 | zero =>
   intro l x hx _
   rw [List.eq_nil_of_length_eq_zero hx]
   exact ⟨0, rfl, Int.le_refl _⟩
 | succ n ih =>
   intro l x hx h
   cases x with
   | nil => cases hx
   | cons w x =>
     obtain ⟨h1, h2, h3⟩ := goes_cons.1 h
     obtain ⟨m, g1, g2⟩ := ih _ x (by simpa using hx) h3
     have hw := h1
     unfold okw at hw
     obtain ⟨y, f1, f2⟩ := rowB_le h1 h2 g1 (p.ws.length + 1) (by omega)
     exact ⟨y, f1, by have := cost_mono (w := w) g2; rw [pumN]; omega⟩
/-- One list comes before another one, or is the same. -/
def lexB : List Int → List Int → Prop
 | [], _ => True
 | _ :: _, [] => False
 | a :: x, b :: y => a < b ∨ a = b ∧ lexB x y
theorem few_first {p : Pu} {S : Nat} (hS : ∀ w, w < p.ws.length → S.testBit w = true) : ∀ n l m, leastB p S n l = some m → ∃ x, fewL p S n l m = l ++ x ∧ x.length = n ∧ Goes p S l x ∧ pumN x = m ∧ ∀ y, y.length = n → Goes p S l y → pumN y = m → lexB x y := by
 intro n
 induction n with
 | zero => intro l m h; simp only [leastB, Option.some.injEq] at h; exact ⟨[], by simp [fewL], rfl, goes_nil _ _ _, h, fun y _ _ _ => trivial⟩
 | succ n ih =>
   intro l m h
   obtain ⟨j, h1, h2, h3, h4⟩ := first_some h
   obtain ⟨m', h5, h6⟩ := ok_some h3
   have hd : watV p (l ++ [(j : Int) - 1]) false (l.length + 1) ≤ p.ca := by
    unfold okB at h3
    rw [h5] at h3
    simp only [Bool.and_eq_true, decide_eq_true_eq] at h3
    exact h3.1
   obtain ⟨x, g1, g2, g3, g4, g5⟩ := ih _ _ h5
   have hw : okw p S ((j : Int) - 1) := ⟨by omega, by omega, fun h => hS _ (by omega)⟩
   refine ⟨((j : Int) - 1) :: x, ?_, by simp [g2], goes_cons.2 ⟨hw, hd, g3⟩, by rw [pumN, g4]; exact h6, fun y hy hg hp => ?_⟩
   ·rw [few_at h2 h3 h4 h5, g1]; simp
   ·cases y with
    | nil => cases hy
    | cons w y =>
      obtain ⟨k1, k2, k3⟩ := goes_cons.1 hg
      obtain ⟨q, q1, q2⟩ := least_le n _ y (by simpa using hy) k3
      have hw := k1
      unfold okw at hw
      obtain ⟨z, z1, z2⟩ := rowB_le k1 k2 q1 (p.ws.length + 1) (by omega)
      have ez : z = m := by
       have : leastB p S (n + 1) l = some z := z1
       rw [h] at this
       exact (Option.some.inj this).symm
      rw [pumN] at hp
      have hq : costW w q = m := by have := cost_mono (w := w) q2; omega
      have hok : okB p S n l m w = true := by
       unfold okB
       rw [q1]
       simp only [Bool.and_eq_true, decide_eq_true_eq]
       exact ⟨k2, hq⟩
      have hge : (j : Int) - 1 ≤ w := by
       apply Classical.byContradiction
       intro hlt
       have e : ((w + 1).toNat : Int) - 1 = w := by omega
       have := h4 (w + 1).toNat (by omega)
       rw [e, hok] at this
       cases this
      by_cases e : (j : Int) - 1 = w
      ·right
       refine ⟨e, g5 y (by simpa using hy) (by rw [e]; exact k3) ?_⟩
       rw [e] at h6
       exact cost_inj (w := w) (by omega)
      ·left; omega
end Go.Proofs.Ytclkjifgipcamaa.Pm
end
section
set_option linter.unusedVariables false
set_option linter.unusedSimpArgs false
namespace Go.Proofs.Ytclkjifgipcamaa.Pm
open Go.V Wl
theorem lost_cases (ca : Int) (L : List Int) : (lostV ca L = -1 ∧ ∀ i, i < L.length → L.getD i 0 ≤ ca) ∨ ∃ i : Nat, lostV ca L = (i : Int) ∧ i < L.length ∧ ca < L.getD i 0 ∧ ∀ j, j < i → L.getD j 0 ≤ ca := by
 unfold lostV
 cases h : (List.range L.length).find? fun i => decide (ca < L.getD i 0) with
 | none =>
   left
   rw [List.find?_eq_none] at h
   exact ⟨rfl, fun i hi => by have := h i (List.mem_range.2 hi); rw [decide_eq_true_eq] at this; omega⟩
 | some i =>
   right
   rw [List.find?_range_eq_some] at h
   exact ⟨i, rfl, List.mem_range.1 h.2.1, of_decide_eq_true h.1, fun j hj => by have := h.2.2 j hj; simp at this; exact this⟩
theorem safe_iff (p : Pu) (l : List Int) : safeB p l = true ↔ ∀ i, i < l.length → watV p l false (i + 1) ≤ p.ca := by
 unfold safeB
 rw [decide_eq_true_eq]
 rcases lost_cases p.ca (aftL p l false l.length) with ⟨h1, h2⟩ | ⟨i, h1, h2, h3, h4⟩
 ·rw [h1]
  rw [aft_len] at h2
  exact ⟨fun _ i hi => by have := h2 i hi; rwa [aft_at p l false hi] at this, fun _ => by decide⟩
 ·rw [aft_len] at h2
  rw [h1]
  rw [aft_at p l false h2] at h3
  exact ⟨fun h => by omega, fun h => by have := h i h2; omega⟩
theorem plan_okw {p : Pu} {l : List Int} : planB p l = true ↔ l.length = p.fl.length ∧ ∀ w ∈ l, -1 ≤ w ∧ w < p.ws.length := by
 rw [planB, Bool.and_eq_true, List.all_eq_true, decide_eq_true_eq]
 exact ⟨fun h => ⟨h.2, fun w hw => (isW_iff p w).1 (h.1 w hw)⟩, fun h => ⟨fun w hw => (isW_iff p w).2 (h.2 w hw), h.1⟩⟩
theorem every_bit {p : Pu} {w : Nat} (h : w < p.ws.length) : (everyN p).testBit w = true := by
 unfold everyN
 rw [Nat.testBit_two_pow_sub_one]
 exact decide_eq_true h
theorem goes_whole {p : Pu} {x : List Int} (h : x.length = p.fl.length) : Goes p (everyN p) [] x ↔ planB p x = true ∧ safeB p x = true := by
 rw [plan_okw, safe_iff]
 constructor
 ·rintro ⟨h1, h2⟩
  refine ⟨⟨h, fun w hw => ⟨(h1 w hw).1, (h1 w hw).2.1⟩⟩, fun i hi => ?_⟩
  have := h2 (i + 1) (by simp) (by simp; omega)
  simpa using this
 ·rintro ⟨⟨_, h1⟩, h2⟩
  refine ⟨fun w hw => ⟨(h1 w hw).1, (h1 w hw).2, fun h0 => every_bit (by have := (h1 w hw).2; omega)⟩, fun i hi hj => ?_⟩
  simp only [List.length_nil, Nat.zero_add] at hi hj
  have := h2 (i - 1) (by omega)
  rw [show i - 1 + 1 = i by omega] at this
  simpa using this
theorem few_zero {p : Pu} : fewE p = 0 ↔ errE p true = 0 ∧ canB p p.fl.length (everyN p) = true := by
 unfold fewE canB
 constructor
 ·intro h
  split at h
  ·rename_i h0
   split at h
   ·rename_i h1; exact ⟨h0, h1⟩
   ·omega
  ·rename_i h0; exact absurd h h0
 ·rintro ⟨h0, h1⟩; rw [if_pos h0, if_pos h1]
theorem few_none {p : Pu} (h0 : errE p true = 0) (h : fewE p ≠ 0) : fewE p = 4 := by
 unfold fewE at h ⊢
 rw [if_pos h0] at h ⊢
 split at h
 ·exact absurd rfl h
 ·rename_i h1; rw [if_neg h1]
/-- The plan that is told. -/
theorem few_spec {p : Pu} (h : fewE p = 0) : (fewP p).length = p.fl.length ∧ Goes p (everyN p) [] (fewP p) ∧ pumN (fewP p) = fewN p ∧ ∀ y, y.length = p.fl.length → Goes p (everyN p) [] y → fewN p ≤ pumN y ∧ (pumN y = fewN p → lexB (fewP p) y) := by
 have hc := (few_zero.1 h).2
 unfold canB at hc
 obtain ⟨m, hm⟩ := Option.isSome_iff_exists.1 hc
 have en : fewN p = m := by rw [fewN, if_pos h, hm]; rfl
 obtain ⟨x, h1, h2, h3, h4, h5⟩ := few_first (fun w hw => every_bit hw) _ _ _ hm
 have ep : fewP p = x := by rw [fewP, if_pos h, en, h1]; rfl
 rw [ep, en]
 refine ⟨h2, h3, h4, fun y hy hg => ⟨?_, h5 y hy hg⟩⟩
 obtain ⟨m', g1, g2⟩ := least_le _ _ y hy hg
 rw [hm] at g1
 cases g1
 exact g2
/-- What is pumped out in an hour, if watches are so strong. -/
def trS (p : Pu) (l : List Int) (st : Nat → Int) (i : Nat) : Int :=
 if l.getD i (-1) < 0 then 0 else max 0 (st (l.getD i (-1)).toNat - (p.wt (l.getD i (-1)).toNat).ti * (wornV p l (l.getD i (-1)).toNat i : Nat))
/-- The water after so many hours. -/
def trV (p : Pu) (l : List Int) (w : Int) (f st : Nat → Int) : Nat → Int
 | 0 => w
 | i + 1 => max 0 (trV p l w f st i + f i - trS p l st i)
def truL (p : Pu) (l : List Int) (w : Int) (f st : Nat → Int) (n : Nat) : List Int := (List.range n).map fun i => trV p l w f st (i + 1)
theorem str_low {p : Pu} {l : List Int} {i : Nat} {st : Nat → Int} (hl : -1 ≤ l.getD i (-1) ∧ l.getD i (-1) < p.ws.length) (h : ∀ w, w < p.ws.length → (p.wt w).lo ≤ st w ∧ st w ≤ (p.wt w).hi) : strV p l i false ≤ trS p l st i ∧ trS p l st i ≤ strV p l i true := by
 unfold trS strV
 split
 ·omega
 ·have := h (l.getD i (-1)).toNat (by omega)
  simp only [freshV, if_true, Bool.false_eq_true, if_false]
  omega
theorem tr_rng {p : Pu} {l : List Int} {w : Int} {f st : Nat → Int} {n : Nat} (hl : ∀ i, i < n → -1 ≤ l.getD i (-1) ∧ l.getD i (-1) < p.ws.length)
  (hw : startV p true ≤ w ∧ w ≤ startV p false) (hf : ∀ i, i < n → flowV p i true ≤ f i ∧ f i ≤ flowV p i false) (hs : ∀ w, w < p.ws.length → (p.wt w).lo ≤ st w ∧ st w ≤ (p.wt w).hi) :
  ∀ i, i ≤ n → watV p l true i ≤ trV p l w f st i ∧ trV p l w f st i ≤ watV p l false i := by
 intro i
 induction i with
 | zero => intro _; exact hw
 | succ i ih =>
   intro hi
   have h1 := ih (by omega)
   have h2 := hf i (by omega)
   have h3 := str_low (hl i (by omega)) hs
   simp only [trV, watV]
   omega
end Go.Proofs.Ytclkjifgipcamaa.Pm
end
section
set_option linter.unusedVariables false
set_option linter.unusedSimpArgs false
namespace Go.Proofs.Ytclkjifgipcamaa.Pm
open Go.V Wl
def firP (p : Pu) (n : Nat) : Pu := { p with fl := p.fl.take n }
def onlW (S : Nat) (i : Nat) (w : Wt) : Wt := if S.testBit i = true then w else { w with lo := 0, hi := 0 }
def onlP (p : Pu) (S : Nat) : Pu := { p with ws := (List.range p.ws.length).map fun i => onlW S i (p.wt i) }
/-- The same list with those watches alone that are in the set. -/
def inS (S : Nat) (w : Int) : Int := if 0 ≤ w ∧ S.testBit w.toNat = true then w else -1
end Go.Proofs.Ytclkjifgipcamaa.Pm
end
section
set_option linter.unusedVariables false
set_option linter.unusedSimpArgs false
namespace Go.Proofs.Ytclkjifgipcamaa
open Go.V Wl
theorem fl_bd {h : Hl} (ok : OkH h) (hp : 0 < (allT h).length) (d l : Int) : 0 ≤ (flV h d l).1 ∧ (flV h d l).2 ≤ 24 := by
 have key : ∀ p, p < (allT h).length → 0 ≤ lsN (wetS h d l) ((allT h).getD p []) 6 ∧ lsN (wetS h d l) ((allT h).getD p []) 6 ≤ 24 := fun p hp => by
  have hm : (allT h).getD p [] ∈ allT h := by rw [List.getD_eq_getElem?_getD, List.getElem?_eq_getElem hp]; exact List.getElem_mem hp
  have tr := (mem_all ok.n1).1 hm
  generalize (allT h).getD p [] = b at *
  have hb : ∀ i, 0 ≤ b.getD i 0 ∧ b.getD i 0 ≤ 4 := fun i => by
   by_cases hi : i < h.sm.length
   ·have h1 := tr.at_ i hi
    have h2 := ok.M hi
    omega
   ·have hl : b.length = h.sm.length := tr.len
    rw [List.getD_eq_getElem?_getD, List.getElem?_eq_none (by omega)]
    exact ⟨Int.le_refl _, by decide⟩
  have := lsum_bd (S := wetS h d l) hb 6
  omega
 obtain ⟨_, ⟨p, hp1, e1⟩, q, hq1, e2⟩ := spnL_spec (fun b => lsN (wetS h d l) b 6) (allT h) hp (allT h).length (Nat.le_refl _)
 have k1 := key p hp1
 have k2 := key q hq1
 unfold flV spnV
 rw [e1, e2]
 exact ⟨k1.1, k2.2⟩
end Go.Proofs.Ytclkjifgipcamaa
namespace Go.Proofs.Ytclkjifgipcamaa.Pm
open Go.V Wl
/-- What comes in in each hour, as it is told and as it truly is. -/
structure FlA (fl : List (Int × Int)) (cm : List Int) : Prop where
 n : fl.length ≤ 4
 len : cm.length = fl.length
 f : ∀ i, i < fl.length → 0 ≤ (fl.getD i (0, 0)).1 ∧ (fl.getD i (0, 0)).1 ≤ cm.getD i 0 ∧ cm.getD i 0 ≤ (fl.getD i (0, 0)).2 ∧ (fl.getD i (0, 0)).2 ≤ 24
theorem FlA.nil : FlA [] [] := ⟨Nat.zero_le _, rfl, fun i hi => absurd hi (Nat.not_lt_zero i)⟩
theorem FlA.add {fl : List (Int × Int)} {cm : List Int} (h : FlA fl cm) (hn : fl.length < 4) {a b c : Int} (h1 : 0 ≤ a) (h2 : a ≤ c) (h3 : c ≤ b) (h4 : b ≤ 24) : FlA (fl ++ [(a, b)]) (cm ++ [c]) := by
 refine ⟨by simp; omega, by simp [h.len], fun i hi => ?_⟩
 rw [getD_snoc', getD_snoc', h.len]
 by_cases e : i = fl.length
 ·rw [if_pos e, if_pos e]; exact ⟨h1, h2, h3, h4⟩
 ·rw [if_neg e, if_neg e]
  simp at hi
  exact h.f i (by omega)
/-- Watches, as they are told and as strong as they truly are. -/
structure WtA (ws : List Wt) (st : List Int) : Prop where
 n : ws.length ≤ 3
 len : st.length = ws.length
 w : ∀ i, i < ws.length → okW (ws.getD i wt0) ∧ (ws.getD i wt0).lo ≤ st.getD i 0 ∧ st.getD i 0 ≤ (ws.getD i wt0).hi
theorem WtA.nil : WtA [] [] := ⟨Nat.zero_le _, rfl, fun i hi => absurd hi (Nat.not_lt_zero i)⟩
theorem WtA.add {ws : List Wt} {st : List Int} (h : WtA ws st) (hn : ws.length < 3) {a b c t r : Int} (h1 : 0 ≤ a ∧ a ≤ c) (h2 : c ≤ b ∧ b ≤ 40) (h3 : 0 ≤ t ∧ t ≤ 20) (h4 : 0 ≤ r ∧ r ≤ 4) : WtA (ws ++ [⟨a, b, t, r⟩]) (st ++ [c]) := by
 refine ⟨by simp; omega, by simp [h.len], fun i hi => ?_⟩
 rw [getD_snoc', getD_snoc', h.len]
 by_cases e : i = ws.length
 ·rw [if_pos e, if_pos e]
  exact ⟨⟨⟨h1.1, show a ≤ b by omega, h2.2⟩, h3, h4⟩, h1.2, h2.1⟩
 ·rw [if_neg e, if_neg e]
  simp at hi
  exact h.w i (by omega)
/-- A pump that was drawn, and its truth. -/
structure AfP (p : Pu) (w : Nat) (cm st : List Int) : Prop where
 ok : Ok p
 w19 : w ≤ 19
 told : w ∈ allA p.ho
 nF : p.fl.length ≤ 4
 cl : cm.length = p.fl.length
 c : ∀ i, i < p.fl.length → 0 ≤ cm.getD i 0 ∧ cm.getD i 0 ≤ 24 ∧ flowV p i true ≤ cm.getD i 0 ∧ cm.getD i 0 ≤ flowV p i false
 sl : st.length = p.ws.length
 s : ∀ i, i < p.ws.length → (0 ≤ st.getD i 0 ∧ st.getD i 0 ≤ 40) ∧ (p.wt i).lo ≤ st.getD i 0 ∧ st.getD i 0 ≤ (p.wt i).hi
theorem afp_of {f : List Int} {l : List Sd} {w : Nat} {fl : List (Int × Int)} {cm : List Int} {ws : List Wt} {st : List Int} {ca : Int} (hd : SdA f w l) (hw : w ≤ 19) (hf : FlA fl cm) (hs : WtA ws st) (hc : 0 ≤ ca ∧ ca ≤ 100) : AfP ⟨fl, ca, ws, hdL f l⟩ w cm st := by
 have nF := hf.n
 have nW := hs.n
 refine ⟨⟨hd.ok, show fl.length ≤ 8 by omega, hc, nW, fun i hi => ?_, fun i hi => (hs.w i hi).1⟩, hw, hd.told (by omega), nF, hf.len, fun i hi => ?_, hs.len, fun i hi => ?_⟩
 ·have := hf.f i hi
  show 0 ≤ (fl.getD i (0, 0)).1 ∧ (fl.getD i (0, 0)).1 ≤ (fl.getD i (0, 0)).2 ∧ (fl.getD i (0, 0)).2 ≤ 40
  omega
 ·have := hf.f i hi
  show 0 ≤ cm.getD i 0 ∧ cm.getD i 0 ≤ 24 ∧ (fl.getD i (0, 0)).1 ≤ cm.getD i 0 ∧ cm.getD i 0 ≤ (fl.getD i (0, 0)).2
  omega
 ·obtain ⟨⟨⟨a1, a2, a3⟩, _⟩, h1, h2⟩ := hs.w i hi
  show (0 ≤ st.getD i 0 ∧ st.getD i 0 ≤ 40) ∧ (ws.getD i wt0).lo ≤ st.getD i 0 ∧ st.getD i 0 ≤ (ws.getD i wt0).hi
  omega
end Go.Proofs.Ytclkjifgipcamaa.Pm
end
section
set_option linter.unusedVariables false
set_option linter.unusedSimpArgs false
namespace Go.Proofs.Ytclkjifgipcamaa.Pm
open Go.V Wl
structure SpI (a0 : Nat) (s : List (Int × Int)) (z : Nat) : Prop where
 ne : 0 < s.length
 fst : (s.getD 0 (0, 0)).1 = a0
 lst : (s.getD (s.length - 1) (0, 0)).2 = z
 all : ∀ r ∈ s, (a0 : Int) ≤ r.1 ∧ r.1 ≤ r.2 ∧ r.2 ≤ z
theorem spi_step {a0 z a : Nat} {s : List (Int × Int)} (h : SpI a0 s z) (ha : z < a) : SpI a0 (addS s a) a := by
 obtain ⟨h1, h2, h3, h4⟩ := h
 have hne : s ≠ [] := fun e => by rw [e] at h1; cases h1
 have el : s.getLast? = some (s.getLast hne) := List.getLast?_eq_some_getLast hne
 have hz := h4 _ (List.getLast_mem hne)
 have e0 : s.getD (s.length - 1) (0, 0) = s.getLast hne := by
  rw [List.getD_eq_getElem?_getD, ← List.getLast?_eq_getElem?, el]; rfl
 rw [e0] at h3
 unfold addS
 rw [el]
 simp only []
 split
 ·refine ⟨by simp, ?_, ?_, fun r hr => ?_⟩
  ·by_cases hl : s.length = 1
   ·obtain ⟨x, rfl⟩ := List.length_eq_one_iff.1 hl
    simpa using h2
   ·rw [List.getD_eq_getElem?_getD, List.getElem?_append_left (by simp; omega), List.getElem?_dropLast, if_pos (by omega), ← List.getD_eq_getElem?_getD]
    exact h2
  ·simp [List.getD_eq_getElem?_getD]
  ·rcases List.mem_append.1 hr with hr | hr
   ·have := h4 r ((List.dropLast_sublist s).subset hr); omega
   ·rw [List.mem_singleton] at hr
    subst hr
    simp only []
    omega
 ·refine ⟨by simp, ?_, ?_, fun r hr => ?_⟩
  ·rw [List.getD_eq_getElem?_getD, List.getElem?_append_left h1, ← List.getD_eq_getElem?_getD]
   exact h2
  ·simp [List.getD_eq_getElem?_getD]
  ·rcases List.mem_append.1 hr with hr | hr
   ·have := h4 r hr; omega
   ·rw [List.mem_singleton] at hr
    subst hr
    have := (h4 _ (List.getLast_mem hne)).1
    simp only []
    omega
theorem spi_fold {a0 : Nat} : ∀ (l : List Nat) (s : List (Int × Int)) (z : Nat), SpI a0 s z → (z :: l).Pairwise (· < ·) → SpI a0 (l.foldl (fun acc (a : Nat) => addS acc a) s) ((z :: l).getLast (by simp)) := by
 intro l
 induction l with
 | nil => intro s z h _; exact h
 | cons a l ih =>
   intro s z h hp
   rw [List.pairwise_cons] at hp
   have := ih (addS s a) a (spi_step h (hp.1 a List.mem_cons_self)) hp.2
   rwa [List.getLast_cons (by simp)]
theorem all_sorted (h : Hd) : (allA h).Pairwise (· < ·) := by
 unfold allA amts amtsN
 exact List.Pairwise.filter _ List.pairwise_lt_range
theorem water_spi {h : Hd} (hA : 0 < (allA h).length) : SpI ((allA h).getD 0 0) (spansL (allA h)) ((allA h).getD ((allA h).length - 1) 0) := by
 have hs := all_sorted h
 generalize allA h = L at hA hs
 cases L with
 | nil => cases hA
 | cons a l =>
   have h0 : SpI a [((a : Int), (a : Int))] a := ⟨by simp, rfl, rfl, fun r hr => by rw [List.mem_singleton] at hr; subst hr; simp⟩
   have := spi_fold l _ _ h0 hs
   have e : (a :: l).getD ((a :: l).length - 1) 0 = (a :: l).getLast (by simp) := by
    rw [List.getD_eq_getElem?_getD, ← List.getLast?_eq_getElem?, List.getLast?_eq_some_getLast (by simp)]; rfl
   rw [e]
   exact this
theorem waterE_eq {h : Hd} (k : HOk h) : waterE h = if (allA h).length = 0 then 10 else 0 := by
 unfold waterE Wl.errE
 rw [if_pos k, if_pos rfl]
 by_cases e : (allA h).length = 0
 ·rw [if_pos e, if_pos ⟨rfl, e⟩]
 ·rw [if_neg e, if_neg fun h => e h.2]
/-- The spans of water that are told, of a hold that is valid and has a truth. -/
theorem water_ok {p : Pu} (k : Ok p) (hA : 0 < (allA p.ho).length) : waterE p.ho = 0 ∧ 0 < (waterV p.ho).length ∧ ((waterV p.ho).getD 0 (0, 0)).1 = startV p true ∧ ((waterV p.ho).getD ((waterV p.ho).length - 1) (0, 0)).2 = startV p false ∧
  (∀ i, i < (waterV p.ho).length → startV p true ≤ ((waterV p.ho).getD i (0, 0)).1 ∧ ((waterV p.ho).getD i (0, 0)).1 ≤ ((waterV p.ho).getD i (0, 0)).2 ∧ ((waterV p.ho).getD i (0, 0)).2 ≤ startV p false) ∧ (waterV p.ho).length ≤ 101 := by
 have he : waterE p.ho = 0 := by rw [waterE_eq k.ho, if_neg (by omega)]
 have ev : waterV p.ho = spansL (allA p.ho) := if_pos he
 obtain ⟨h1, h2, h3, h4⟩ := water_spi hA
 rw [ev]
 refine ⟨he, h1, h2, h3, fun i hi => h4 _ (mem_getD _ i _ hi), ?_⟩
 exact Nat.le_trans (spansL_len _) (amts_len _ _)
end Go.Proofs.Ytclkjifgipcamaa.Pm
end
section
set_option linter.unusedVariables false
set_option linter.unusedSimpArgs false
namespace Go.Proofs.Ytclkjifgipcamaa.Pm
open Go.V Wl
theorem told_start {p : Pu} (k : Ok p) {w : Nat} (h : w ∈ allA p.ho) : startV p true ≤ (w : Int) ∧ (w : Int) ≤ startV p false := by
 obtain ⟨e1, e2, e3, e4, e5, e6⟩ := water_ok k (List.length_pos_of_mem h)
 have ev : waterV p.ho = spansL (allA p.ho) := if_pos e1
 obtain ⟨r, hr, h1, h2⟩ := (cov_fold (allA p.ho) [] (fun r hr => by cases hr)).2.2 w h
 obtain ⟨i, hi, e⟩ := List.getElem_of_mem hr
 have hi' : i < (waterV p.ho).length := by rw [ev]; exact hi
 have e7 := e5 i hi'
 have e8 : (waterV p.ho).getD i (0, 0) = r := by
  rw [ev, List.getD_eq_getElem?_getD]
  have hi2 : i < (spansL (allA p.ho)).length := hi
  rw [List.getElem?_eq_getElem hi2]; exact e
 rw [e8] at e7
 omega
/-- The truth, hour by hour. -/
abbrev afV (p : Pu) (w : Nat) (cm st : List Int) : Nat → Int := trV p (fewP p) w (fun i => cm.getD i 0) (fun i => st.getD i 0)
structure FinP (p : Pu) (w : Nat) (cm st : List Int) : Prop where
 e : playE p (fewP p) = 0
 vl : (playV p (fewP p)).length = (fewP p).length
 ll : (fewP p).length = p.fl.length
 l : ∀ i, i < (fewP p).length → -1 ≤ (fewP p).getD i 0 ∧ (fewP p).getD i 0 < p.ws.length ∧ (fewP p).getD i 0 = (fewP p).getD i (-1)
 v : ∀ i, i < (fewP p).length → (playV p (fewP p)).getD i (0, 0) = (watV p (fewP p) true (i + 1), watV p (fewP p) false (i + 1))
 t : ∀ i, i < (fewP p).length → watV p (fewP p) true (i + 1) ≤ afV p w cm st (i + 1) ∧ afV p w cm st (i + 1) ≤ watV p (fewP p) false (i + 1) ∧ afV p w cm st (i + 1) ≤ p.ca
theorem fin_ok {p : Pu} {w : Nat} {cm st : List Int} (hp : AfP p w cm st) (hE : fewE p = 0) : FinP p w cm st := by
 obtain ⟨h1, h2, h3, h4⟩ := few_spec hE
 obtain ⟨h5, h6⟩ := (goes_whole h1).1 h2
 have h0 := (few_zero.1 hE).1
 have ee : playE p (fewP p) = 0 := by unfold playE; rw [h5]; exact h0
 have ev : playV p (fewP p) = (List.range (fewP p).length).map fun i => (watV p (fewP p) true (i + 1), watV p (fewP p) false (i + 1)) := if_pos ee
 have hr := (planB_iff.1 h5).2
 have hst := told_start hp.ok hp.told
 have ht := tr_rng (p := p) (l := fewP p) (w := w) (f := fun i => cm.getD i 0) (st := fun i => st.getD i 0) (n := p.fl.length) (fun i hi => hr i (by omega)) hst (fun i hi => (hp.c i hi).2.2) (fun i hi => (hp.s i hi).2)
 have hs := (safe_iff p (fewP p)).1 h6
 refine ⟨ee, by rw [ev]; simp, h1, fun i hi => ?_, fun i hi => ?_, fun i hi => ?_⟩
 ·have e : (fewP p).getD i 0 = (fewP p).getD i (-1) := by simp [List.getD_eq_getElem?_getD, hi]
  have := hr i hi
  rw [e]
  exact ⟨this.1, this.2, rfl⟩
 ·rw [ev]; simp [List.getD_eq_getElem?_getD, hi]
 ·have h7 := ht (i + 1) (by omega)
  have h8 := hs i hi
  exact ⟨h7.1, h7.2, Int.le_trans h7.2 h8⟩
theorem af_rng {p : Pu} {w : Nat} {cm st : List Int} (hp : AfP p w cm st) (i : Nat) (hi : i ≤ p.fl.length) : 0 ≤ afV p w cm st i ∧ afV p w cm st i ≤ 19 + 24 * (i : Int) := by
 have hw := hp.w19
 induction i with
 | zero => show 0 ≤ (w : Int) ∧ (w : Int) ≤ _; omega
 | succ i ih =>
   have ih := ih (by omega)
   have hc := hp.c i (by omega)
   have e : afV p w cm st (i + 1) = max 0 (afV p w cm st i + cm.getD i 0 - trS p (fewP p) (fun i => st.getD i 0) i) := rfl
   have h2 : 0 ≤ trS p (fewP p) (fun i => st.getD i 0) i := by unfold trS; split <;> omega
   rw [e]
   omega
/-- How worn watches are while an hour ends, and for how long they rest. -/
def wnV (p : Pu) (l : List Int) (h i j : Nat) : Nat × Nat := if j < i then doneW (p.wt j).re l j (h + 1) else doneW (p.wt j).re l j h
def wnF (p : Pu) (l : List Int) (h i : Nat) : Nat → List AV := fun j => [i64 ((wnV p l h i j).1 : Nat)]
def idF (p : Pu) (l : List Int) (h i : Nat) : Nat → List AV := fun j => [i64 ((wnV p l h i j).2 : Nat)]
theorem wnF_at (p : Pu) (l : List Int) (h i j : Nat) : wnF p l h i j = [i64 ((wnV p l h i j).1 : Nat)] := rfl
theorem idF_at (p : Pu) (l : List Int) (h i j : Nat) : idF p l h i j = [i64 ((wnV p l h i j).2 : Nat)] := rfl
theorem wnV_at (p : Pu) (l : List Int) (h i : Nat) : wnV p l h i i = doneW (p.wt i).re l i h := if_neg (Nat.lt_irrefl i)
theorem wnV_zero (p : Pu) (l : List Int) (h j : Nat) : wnV p l h 0 j = doneW (p.wt j).re l j h := if_neg (Nat.not_lt_zero j)
theorem wnV_end (p : Pu) (l : List Int) (h : Nat) {i j : Nat} (hj : j < i) : wnV p l h i j = wnV p l (h + 1) 0 j := by rw [wnV_zero]; exact if_pos hj
theorem wnV_new (p : Pu) (l : List Int) (h i : Nat) : wnV p l h (i + 1) i = stepW (p.wt i).re (decide (l.getD h (-1) = (i : Nat))) (doneW (p.wt i).re l i h) := by
 unfold wnV; rw [if_pos (Nat.lt_succ_self i)]; rfl
theorem wnV_old (p : Pu) (l : List Int) (h i : Nat) {j : Nat} (hj : j ≠ i) : wnV p l h (i + 1) j = wnV p l h i j := by
 unfold wnV
 have : (j < i + 1) ↔ (j < i) := by omega
 simp only [this]
theorem wn_upd {p : Pu} {l : List Int} {h i n : Nat} (hi : i < n) {f : Nat → List AV} (hf : ∀ q, q < n → q ≠ i → f q = wnF p l h i q) {v : List AV} (hv : v = [i64 ((wnV p l h (i + 1) i).1 : Nat)]) :
  ∀ q, q < n → updF n i f v q = wnF p l h (i + 1) q := fun q hq => by
 rw [updF_at hi hq]
 by_cases e : q = i
 ·subst e; rw [if_pos rfl, hv]; rfl
 ·rw [if_neg e, hf q hq e, wnF_at, wnF_at, wnV_old p l h i e]
theorem id_upd {p : Pu} {l : List Int} {h i n : Nat} (hi : i < n) {f : Nat → List AV} (hf : ∀ q, q < n → q ≠ i → f q = idF p l h i q) {v : List AV} (hv : v = [i64 ((wnV p l h (i + 1) i).2 : Nat)]) :
  ∀ q, q < n → updF n i f v q = idF p l h (i + 1) q := fun q hq => by
 rw [updF_at hi hq]
 by_cases e : q = i
 ·subst e; rw [if_pos rfl, hv]; rfl
 ·rw [if_neg e, hf q hq e, idF_at, idF_at, wnV_old p l h i e]
theorem wn_same {p : Pu} {l : List Int} {h i : Nat} (hv : (wnV p l h (i + 1) i).1 = (wnV p l h i i).1) : ∀ q, wnF p l h i q = wnF p l h (i + 1) q := fun q => by
 by_cases e : q = i
 ·subst e; rw [wnF_at, wnF_at, hv]
 ·rw [wnF_at, wnF_at, wnV_old p l h i e]
theorem wn_end (p : Pu) (l : List Int) (h n : Nat) : ∀ q, q < n → wnF p l h n q = wnF p l (h + 1) 0 q := fun q hq => by rw [wnF_at, wnF_at, wnV_end p l h hq]
theorem id_end (p : Pu) (l : List Int) (h n : Nat) : ∀ q, q < n → idF p l h n q = idF p l (h + 1) 0 q := fun q hq => by rw [idF_at, idF_at, wnV_end p l h hq]
end Go.Proofs.Ytclkjifgipcamaa.Pm
end
section
set_option linter.unusedVariables false
set_option linter.unusedSimpArgs false
set_option maxHeartbeats 4000000
set_option maxRecDepth 100000
namespace Go.Proofs.Ytclkjifgipcamaa
open Go.V
abbrev dwfAV (i3 N : Nat) (b : Nat → Int) : AV := .func (.func 24) [] [.ref i3 0 1 0 0, .rptr 1 1 (fun _ => [.rsl N 1 (byF b)]) 0 0]
theorem dwf_tri {N : Nat} {b : Nat → Int} (kb : OkB N b) (i3 a : Nat) (n : Int) (H : Hp) (hn : 1 ≤ n ∧ n ≤ 1000) (ha : a ≤ 1000) (ho : H i3 = some (.box 1 1 fun _ => [i64 a])) :
  Tri Try.prog (dwfAV i3 N b) [i64 n] H (dwR i3 a n H) := by
 have hN := kb.n
 have hb := kb.b
 refine Tri.drop ?_
 refine tri_v0 (fun _ => false) Try.func24 (by kernel_rfl) rfl (by simp only [List.length_append, List.length_cons, List.length_nil, Try.ntmps24]; decide) ?_
 skip
 simp only [vsAll, binA, binLitA, intA, loadA, loadRow, partA, partOk, lenA, cellA, cellsA, opA, newCells, okCells, storeObj, dstOk, nilSliceOp, argFr, Nat.reduceLT, Nat.reduceEqDiff, ↓reduceIte, eq_self, wtAll, Try.ntmps24, ho]
 refine ⟨by simp only [InR_i64]; ((try clear ho); omega), ?_⟩
 have hset : (H.set i3 (.box 1 1 fun _ => [i64 ((a : Int) + 1)])) i3 = some (.box 1 1 fun _ => [i64 ((a : Int) + 1)]) := Hp.set_same _ _ _
 refine condD (fun hd => ?_) (fun hd => ?_)
 ·simp only [vsAll, binA, binLitA, intA, loadA, loadRow, partA, partOk, opA, dstOk, nilSliceOp, resA, argFr, retA.eq_1, Nat.reduceLT, Nat.reduceEqDiff, ↓reduceIte, reduceCtorEq, eq_self, ne_eq, wtAll, Try.results24]
  have hv : 0 ≤ ((a : Int) + 1).tmod n ∧ ((a : Int) + 1).tmod n < n := by
   rw [Int.tmod_eq_emod_of_nonneg (by ((try clear ho); omega))]
   exact ⟨Int.emod_nonneg _ (by ((try clear ho); omega)), Int.emod_lt_of_pos _ (by ((try clear ho); omega))⟩
  refine ⟨by ((try clear ho); omega), ?_⟩
  exact ⟨_, HSub_rfl, _, hv, rfl, by rw [Int.natCast_add, Int.natCast_one]⟩
 ·have hq : 0 ≤ ((a : Int) + 1).tmod N ∧ ((a : Int) + 1).tmod N < N := by
   rw [Int.tmod_eq_emod_of_nonneg (by ((try clear ho); omega))]
   exact ⟨Int.emod_nonneg _ (by ((try clear ho); omega)), Int.emod_lt_of_pos _ (by ((try clear ho); omega))⟩
  simp only [vsAll]
  refine vs_draw 14 (by decide +kernel) ?_
  simp only [vsAll, binA, binLitA, intA, loadA, loadRow, partA, partOk, indexAddrA, lenA, convA, opA, dstOk, resA, argFr, retA.eq_1, Nat.reduceLT, Nat.reduceEqDiff, ↓reduceIte, reduceCtorEq, eq_self, ne_eq, wtAll, Try.results24, byF_at]
  have hb2 := hb (((a : Int) + 1).tmod N).toNat (by ((try clear ho); omega))
  generalize b (((a : Int) + 1).tmod N).toNat = B at *
  have hv : 0 ≤ (B + 71 * ((a : Int) + 1)).tmod n ∧ (B + 71 * ((a : Int) + 1)).tmod n < n := by
   rw [Int.tmod_eq_emod_of_nonneg (by ((try clear ho); omega))]
   exact ⟨Int.emod_nonneg _ (by ((try clear ho); omega)), Int.emod_lt_of_pos _ (by ((try clear ho); omega))⟩
  simp only [InR_i64]
  exact ⟨by ((try clear ho); omega), hq, by ((try clear ho); omega), by ((try clear ho); omega), by ((try clear ho); omega), by ((try clear ho); omega), by ((try clear ho); omega), _, HSub_rfl, _, hv, rfl, by rw [Int.natCast_add, Int.natCast_one]⟩
theorem dwfs_tri (N : Nat) (b : Nat → Int) (H : Hp) : Tri Try.prog (fnA 5) [.rsl N 1 (byF b)] H fun r H' => ∃ i3, H i3 = none ∧ r = .ret (dwfAV i3 N b) ∧ H' = H.set i3 (.box 1 1 fun _ => [i64 0]) := by
 refine Tri.drop ?_
 refine tri_v0 (mset []) Try.func5 (by kernel_rfl) rfl (by simp only [List.length_append, List.length_cons, List.length_nil, Try.ntmps5]; decide) ?_
 simp only [vsAll, boxA, boxZ, cellA, cellsA, okAll, stAll, opsA, opA, allocA, newCells, okCells, storeObj, dstOk, nilSliceOp, resA, argFr, retA.eq_1, Nat.reduceLT, Nat.reduceEqDiff, ↓reduceIte, eq_self, wtAll, Try.ntmps5, Try.results5]
 intro i3 hh_i3; (try simp only [Hp.set_none, ite_none] at hh_i3)
 exact ⟨_, by rw [Hp.set_set]; exact HSub_rfl, i3, hh_i3, rfl, rfl⟩
theorem spanf_tri (a b : Int) (H : Hp) : PTri Try.prog (fnA 7) [i64 a, i64 b] H (.agg [i64 a, i64 b]) := by
 refine Tri.drop ?_
 refine tri_v0 (mset [4]) Try.func7 (by kernel_rfl) rfl (by simp only [List.length_append, List.length_cons, List.length_nil, Try.ntmps7]; decide) ?_
 simp only [vsAll, loadA, loadRow, partA, partOk, cellA, cellsA, fillA, okParts, partsA, partsOk, opA, allocA, newCells, okCells, storeObj, dstOk, resA, argFr, retA.eq_1, Nat.reduceAdd, Nat.reduceLT, Nat.reduceLeDiff, Nat.reduceEqDiff, ↓reduceIte, reduceCtorEq, eq_self, wtAll, Try.ntmps7, Try.results7]
 intro i4 hh_i4; (try simp only [Hp.set_none, ite_none] at hh_i4)
 exact dropR_pure rfl (by (repeat (first | exact HSub_rfl | refine HSub_put_eq (by simp only [vsAll, binA, binLitA, intA, aggA, aggV, boolA, nilA2, isConst, unA, loadA, loadRow, partA, partOk, fieldAddrA, indexAddrA, indexA, fieldA, extractA, lenA, nilCheckA, boxA, boxZ, cellA, cellsA, fillA, okParts, buildSliceA, buildMutA, makeSliceA, partIdx, elemsA, lensA, ifaceA, convA, mmA, pickA, okAll, stAll, opsA, partsA, partsOk, opA, allocA, boxMutA, newCells, okCells, storeObj, appendA, guardV, taA, nM, mapUpA, rangeA, nextA, entryA, lookA, sliceA, sliceM, sliceS, boundsA, opO, okO, copyA, dstOk, nilA, quietOk, nilSliceOp, deferV, panA, resA, argFr, retA.eq_1, retA.eq_2, Nat.reduceAdd, Nat.reduceSub, Nat.reduceMul, Nat.reduceLT, Nat.reduceLeDiff, Nat.reduceEqDiff, Nat.reduceBEq, Int.reduceAdd, Int.reduceSub, Int.reduceMul, Int.reduceNeg, Int.reduceLE, Int.reduceLT, Int.reduceEq, Int.reduceNe, Int.reduceToNat, ↓reduceIte, reduceCtorEq, implies_true, forall_const, eq_self, ne_eq, wtAll, Try.ntmps7, Try.results7, hh_i4]) ?_ | refine HSub_drop2 (by simp only [eq_self, hh_i4]) ?_ | refine HSub_keep_eq (by simp only [vsAll, binA, binLitA, intA, aggA, aggV, boolA, nilA2, isConst, unA, loadA, loadRow, partA, partOk, fieldAddrA, indexAddrA, indexA, fieldA, extractA, lenA, nilCheckA, boxA, boxZ, cellA, cellsA, fillA, okParts, buildSliceA, buildMutA, makeSliceA, partIdx, elemsA, lensA, ifaceA, convA, mmA, pickA, okAll, stAll, opsA, partsA, partsOk, opA, allocA, boxMutA, newCells, okCells, storeObj, appendA, guardV, taA, nM, mapUpA, rangeA, nextA, entryA, lookA, sliceA, sliceM, sliceS, boundsA, opO, okO, copyA, dstOk, nilA, quietOk, nilSliceOp, deferV, panA, resA, argFr, retA.eq_1, retA.eq_2, Nat.reduceAdd, Nat.reduceSub, Nat.reduceMul, Nat.reduceLT, Nat.reduceLeDiff, Nat.reduceEqDiff, Nat.reduceBEq, Int.reduceAdd, Int.reduceSub, Int.reduceMul, Int.reduceNeg, Int.reduceLE, Int.reduceLT, Int.reduceEq, Int.reduceNe, Int.reduceToNat, ↓reduceIte, reduceCtorEq, implies_true, forall_const, eq_self, ne_eq, wtAll, Try.ntmps7, Try.results7, hh_i4]) ?_)))
end Go.Proofs.Ytclkjifgipcamaa
end
section
set_option linter.unusedVariables false
namespace Go.V
set_option linter.unusedSectionVars false
variable [Inhabited GivT]
/-- What slots hold that point into the box. -/
inductive Rfb (id st st' : Nat) : List (Nat × AV) → List (Nat × AV) → Prop
 | nil : Rfb id st st' [] []
 | same {t : Nat} {v : AV} {l l' : List (Nat × AV)} : Rfb id st st' l l' → Rfb id st st' ((t, v) :: l) ((t, v) :: l')
 | hit {t : Nat} {l l' : List (Nat × AV)} : Rfb id st st' l l' → Rfb id st st' ((t, .ref id 0 st 0 0) :: l) ((t, .ref id 0 st' 0 0) :: l')
theorem Rfb.frz {id st st' : Nat} {l l' : List (Nat × AV)} (h : Rfb id st st' l l') : ∀ t, Fr.of l' t = Fr.of l t ∨ (Fr.of l t = .ref id 0 st 0 0 ∧ Fr.of l' t = .ref id 0 st' 0 0) := by
 intro t
 induction h with
 | nil => exact .inl rfl
 | same _ ih =>
   simp only [Fr.of]
   split
   ·exact .inl rfl
   ·exact ih
 | hit _ ih =>
   simp only [Fr.of]
   split
   ·exact .inr ⟨rfl, rfl⟩
   ·exact ih
theorem Rfb.refl {id st st' : Nat} : ∀ l : List (Nat × AV), Rfb id st st' l l
 | [] => .nil
 | (t, v) :: l => .same (Rfb.refl l)
theorem HSub_eqn {A B : Hp} (h : ∀ q, B q = none ∨ A q = B q) : Go.V.HSub A B := fun q o hq => by
 rcases h q with e | e
 ·rw [e] at hq; cases hq
 ·exact ⟨o, by rw [e]; exact hq, .refl _⟩
theorem HSub_put_le {X Y : Hp} {i : Nat} {o o' : Obj} (h : X i = some o') (hl : Obj.Le o' o) (hr : Go.V.HSub X Y) : Go.V.HSub X (Y.set i o) := fun j x hj => by
 by_cases e : j = i
 ·subst e; rw [Hp.set_same] at hj; cases hj; exact ⟨o', h, hl⟩
 ·rw [Hp.set_ne _ _ e] at hj; exact hr j x hj
end Go.V
end
section
set_option linter.unusedVariables false
namespace Go.V
set_option linter.unusedSectionVars false
variable [Inhabited GivT]
/-- A value of numbers and truths alone. -/
inductive Plain : AV → Prop
 | lit (v : Value) : Plain (.lit v)
 | agg {cs : List AV} (h : ∀ k, k < cs.length → Plain (cs.getD k .any)) : Plain (.agg cs)
 | tuple {cs : List AV} (h : ∀ k, k < cs.length → Plain (cs.getD k .any)) : Plain (.tuple cs)
theorem Plain.rel {S S' : St} {v : AV} (h : Plain v) : ∀ cv, VRel S v cv → VRel S' v cv := by
 induction h with
 | lit v => intro cv hv; cases hv with | lit => exact .lit _
 | agg h ih =>
   intro cv hv
   cases hv with
   | agg hn hv => exact .agg hn fun k hk => ih k (by omega) _ (hv k (by omega))
 | tuple h ih =>
   intro cv hv
   cases hv with
   | tuple hn hv => exact .tuple hn fun k hk => ih k (by omega) _ (hv k (by omega))
/-- All that is known of memory is held fast. -/
def St.hold (S : St) (H : Hp) : St := { S with imm := fun x => S.imm x ∨ ∃ i o, H i = some o ∧ S.loc i o.gen = .blk x }
theorem St.hold_le (S : St) (H : Hp) : Le S (S.hold H) :=
 ⟨rfl, rfl, rfl, Nat.le_refl _, fun _ h => .inl h, fun _ _ => rfl, fun _ _ _ => rfl, Nat.le_refl _, fun _ c _ _ h => ⟨c, h, rfl⟩⟩
theorem HRel.hold {S : St} {H : Hp} (hH : HRel S H) : HRel (S.hold H) fun _ => none :=
 ⟨fun i hi => ⟨rfl, (hH.fresh i hi).2⟩, fun b hb => by
  rcases hb with hb | ⟨i, o, ho, hl⟩
  ·exact hH.immlt b hb
  ·obtain ⟨x, hx⟩ := (hH.obj i o ho).blk_lt hl
   exact (Array.getElem?_eq_some_iff.1 hx).1, fun i o hi => (by cases hi), fun i j o o' b hi => (by cases hi), fun p hp => (hH.giv p hp).mono (S.hold_le H)⟩
inductive BorD (H : Hp) : AV → AV → Prop
 | same (x : AV) : BorD H x x
 | hit {id st n : Nat} {f g : Nat → List AV} (ho : H id = some (.row st n f)) (h : ∀ i, i < n → f i = g i) : BorD H (.sl id st n) (.rsl n st g)
 | agg {cs cs' : List AV} (hl : cs'.length = cs.length) (h : ∀ k, k < cs.length → BorD H (cs.getD k .any) (cs'.getD k .any)) : BorD H (.agg cs) (.agg cs')
theorem BorD.conv {S : St} {H : Hp} (hH : HRel S H) {x y : AV} (hxy : BorD H x y) : ∀ v, VRel S x v → VRel (S.hold H) y v := by
 induction hxy with
 | same x => intro v hv; exact hv.mono (S.hold_le H)
 | @hit id st n f g ho h =>
   intro v hv
   refine AV.Le.rsl h _ _ ?_
   obtain ⟨hg, hcase⟩ := hH.obj id _ ho
   rcases hcase with ⟨rfl, hnil⟩ | ⟨b, c, e, hl, hb, hni, hc⟩
   ·cases hv with
    | sl hl => rw [hnil] at hl; cases hl
    | slnil _ => exact .rsl0
   ·cases hv with
    | sl hl' hb' _ hlen' =>
      rw [hl] at hl'; cases hl'
      exact .rsl (off := 0) (.inr ⟨id, _, ho, hl⟩) hb (by rw [Nat.zero_add]; exact hc.1) hc.2.1 (fun i j hi hj => by rw [Nat.zero_add]; exact (hc.2.2 i j hi hj).mono (S.hold_le H)) hlen'
    | slnil hl' => rw [hl] at hl'; cases hl'
 | agg hl h ih =>
   intro v hv
   cases hv with
   | agg hn hv => exact .agg (hn.trans hl.symm) fun k hk => ih k (by omega) _ (hv k (by omega))
/-- A call that is told of no memory, and gives back numbers alone. -/
theorem tri_borrow {P : Program} {fv : AV} {args args' : List AV} {H : Hp} {v : AV} (hl : args'.length = args.length) (hs : ∀ k, k < args.length → BorD H (args.getD k .any) (args'.getD k .any)) (hp : Plain v)
  (h : PTri P fv args' (fun _ => none) v) : PTri P fv args H v := by
 intro S vf vs hH hvf ha
 obtain ⟨nx, h1, h3⟩ := h (S.hold H) vf vs hH.hold (hvf.mono (S.hold_le H)) ⟨by rw [hl]; exact ha.1, fun k hk => (hs k (by omega)).conv hH _ (ha.2 k (by omega))⟩
 have hout : ∀ e w, Out (S.hold H) (fun r H' => r = .ret v ∧ H' = fun _ => none) e w → Out S (fun r H' => r = .ret v ∧ H' = H) e w := by
  rintro e w ⟨S2, r, H2, hw, hle, hH2, hres, rfl, rfl⟩
  cases e with
  | returned cv =>
    have hle3 : Le S { S with w := S2.w } :=
     ⟨hle.os, hle.tape, hle.output, hle.size, fun _ h => h, fun b h => hle.keep b (.inl h), fun _ _ _ => rfl, Nat.le_refl _, hle.csize⟩
    refine ⟨{ S with w := S2.w }, .ret v, H, hw, hle3, ?_, hp.rel _ hres, rfl, rfl⟩
    refine ⟨hH.fresh, fun b hb => Nat.lt_of_lt_of_le (hH.immlt b hb) hle.size, fun i o hi => ?_, hH.inj, fun p hp => (hH.giv p hp).mono hle3⟩
    exact (hH.obj i o hi).keep hle3 (fun _ => rfl) (fun b hb => hle.keep b (.inr ⟨i, o, hi, hb⟩)) (fun b _ _ h => h)
  | _ => exact hres.elim
 refine ⟨nx, h1, ?_⟩
 cases nx <;> simp only [NextOk] at h3 ⊢
 ·exact Calls.mono h3 hout
 ·exact h3.mono hout
end Go.V
end
section
set_option linter.unusedVariables false
set_option linter.unusedSimpArgs false
set_option maxHeartbeats 4000000
set_option maxRecDepth 100000
namespace Go.Proofs.Ytclkjifgipcamaa
open Go.V Wl
abbrev fwAV (i4 i5 : Nat) : AV := .func (.func 6) [] [.ref i4 0 2 0 0, .ref i5 0 1 0 0]
theorem flow_tri {sm : List Lk} {u : List Int} {x : AV} (hs : SmB sm u) (i4 i5 : Nat) (d l : Int) (H : Hp) (hd : 0 ≤ d ∧ d ≤ 12) (hl : -3 ≤ l ∧ l ≤ 3)
  (o4 : H i4 = some (.box 2 1 fun _ => [lkAV sm, x])) (o5 : H i5 = some (.box 1 1 fun _ => [intsAV u])) :
  PTri Try.prog (fwAV i4 i5) [i64 d, i64 l] H (i64 (flS sm u d l sm.length)) := by
 have hul := hs.len
 refine Tri.drop ?_
 refine tri_v0 (mset [9]) Try.func6 (by kernel_rfl) rfl (by simp only [List.length_append, List.length_cons, List.length_nil, Try.ntmps6]; decide) ?_
 skip
 simp only [vsAll, loadA, loadRow, partA, partOk, fieldAddrA, lenA, opA, dstOk, nilSliceOp, argFr, Nat.reduceLT, Nat.reduceEqDiff, Nat.reduceBEq, ↓reduceIte, eq_self, wtAll, Try.ntmps6, o4]
 refine vs_loop (σ := Nat) (fun i => i ≤ sm.length) (fun i => [(0, i64 d), (1, i64 l), (2, .ref i4 0 2 0 0), (3, .ref i5 0 1 0 0), (7, i64 (flS sm u d l i)), (11, lkAV sm), (12, i64 sm.length), (13, i64 i)])
  (fun i => H) (fun i => sm.length - i) 0 (Nat.zero_le _) ?_ HSub_rfl fun i hi => ?_
 ·simp only [vsAll, argFr, Nat.reduceEqDiff, ↓reduceIte, reduceCtorEq, eq_self, Int.natCast_zero]
  exact .refl _
 ·simp only [vsAll, binA, binLitA, intA, opA, dstOk, Nat.reduceLT, Nat.reduceEqDiff, ↓reduceIte, reduceCtorEq, eq_self]
  refine condD (fun hd3 => ?_) (fun hd3 => ?_)
  ·have hil : i < sm.length := by ((try clear o4 o5); omega)
   have hsi := hs.s i hil
   have hfb := flB_bd hs d l i hi
   have hn4 := hs.n
   have ef : flS sm u d l (i + 1) = flS sm u d l i + (if (sm.getD i lk0).ht ≤ d + (sm.getD i lk0).sd * l then u.getD i 0 else 0) := rfl
   have hmul := sd_mul (sm.getD i lk0).sd l hsi.2.1 (by ((try clear o4 o5); omega))
   simp only [vsAll, binA, binLitA, intA, loadA, loadRow, partA, partOk, fieldAddrA, indexAddrA, cellA, opA, allocA, newCells, okCells, storeObj, dstOk, nilSliceOp, Nat.reduceAdd, Nat.reduceLT, Nat.reduceEqDiff, Nat.reduceBEq, ↓reduceIte, reduceCtorEq, eq_self, wtAll, lkF_at]
   refine ⟨⟨by ((try clear o4 o5); omega), by ((try clear o4 o5); omega)⟩, hil, ?_⟩
   intro i9 hh_i9; (try simp only [Hp.set_none, ite_none] at hh_i9)
   have n4 : ¬ i9 = i4 := fun e => by rw [e, o4] at hh_i9; cases hh_i9
   have n5 : ¬ i9 = i5 := fun e => by rw [e, o5] at hh_i9; cases hh_i9
   have n4' : ¬ i4 = i9 := fun e => n4 e.symm
   have n5' : ¬ i5 = i9 := fun e => n5 e.symm
   skip
   (try simp only [vsAll, binA, binLitA, intA, aggA, aggV, boolA, nilA2, isConst, unA, loadA, loadRow, partA, partOk, fieldAddrA, indexAddrA, indexA, fieldA, extractA, lenA, nilCheckA, boxA, boxZ, cellA, cellsA, fillA, okParts, buildSliceA, buildMutA, makeSliceA, partIdx, elemsA, lensA, ifaceA, convA, mmA, pickA, okAll, stAll, opsA, partsA, partsOk, opA, allocA, boxMutA, newCells, okCells, storeObj, appendA, guardV, taA, nM, mapUpA, rangeA, nextA, entryA, lookA, sliceA, sliceM, sliceS, boundsA, opO, okO, copyA, dstOk, nilA, quietOk, nilSliceOp, deferV, panA, resA, argFr, retA.eq_1, retA.eq_2, Nat.reduceAdd, Nat.reduceSub, Nat.reduceMul, Nat.reduceLT, Nat.reduceLeDiff, Nat.reduceEqDiff, Nat.reduceBEq, Int.reduceAdd, Int.reduceSub, Int.reduceMul, Int.reduceNeg, Int.reduceLE, Int.reduceLT, Int.reduceEq, Int.reduceNe, Int.reduceToNat, ↓reduceIte, reduceCtorEq, implies_true, forall_const, eq_self, ne_eq, wtAll, Try.ntmps6, Try.results6, o4, o5, hh_i9, n4, n5, n4', n5'])
   generalize (sm.getD i lk0).sd * l = sl at *
   refine ⟨by simp only [InR_i64]; ((try clear o4 o5 hh_i9 n4 n5 n4' n5'); omega), by simp only [InR_i64]; ((try clear o4 o5 hh_i9 n4 n5 n4' n5'); omega), condD (fun hw => ?_) (fun hw => ?_)⟩
   ·rw [if_pos hw] at ef
    simp only [vsAll, binA, binLitA, intA, loadA, loadRow, partA, partOk, indexAddrA, opA, dstOk, nilSliceOp, Nat.reduceLT, Nat.reduceEqDiff, Nat.reduceBEq, ↓reduceIte, reduceCtorEq, eq_self, wtAll, o5, n5', intF_at]
    refine ⟨⟨by ((try clear o4 o5 hh_i9 n4 n5 n4' n5'); omega), by ((try clear o4 o5 hh_i9 n4 n5 n4' n5'); omega)⟩, by ((try clear o4 o5 hh_i9 n4 n5 n4' n5'); omega), by simp only [InR_i64]; ((try clear o4 o5 hh_i9 n4 n5 n4' n5'); omega), by simp only [InR_i64]; ((try clear o4 o5 hh_i9 n4 n5 n4' n5'); omega), loop_next (i + 1) hil (by ((try clear o4 o5 hh_i9 n4 n5 n4' n5'); omega)) ?_ ?_⟩
    ·simp only [vsAll, Nat.reduceEqDiff, ↓reduceIte, reduceCtorEq, eq_self, ef, Int.natCast_add, Int.natCast_one]
    ·(refine HSub_eqn fun jj => ?_; refine (Classical.em (jj = i9)).elim (fun E0 => by rw [E0]; first | (left; simp only [eq_self, hh_i9]; done) | (right; simp only [vsAll, binA, binLitA, intA, aggA, aggV, boolA, nilA2, isConst, unA, loadA, loadRow, partA, partOk, fieldAddrA, indexAddrA, indexA, fieldA, extractA, lenA, nilCheckA, boxA, boxZ, cellA, cellsA, fillA, okParts, buildSliceA, buildMutA, makeSliceA, partIdx, elemsA, lensA, ifaceA, convA, mmA, pickA, okAll, stAll, opsA, partsA, partsOk, opA, allocA, boxMutA, newCells, okCells, storeObj, appendA, guardV, taA, nM, mapUpA, rangeA, nextA, entryA, lookA, sliceA, sliceM, sliceS, boundsA, opO, okO, copyA, dstOk, nilA, quietOk, nilSliceOp, deferV, panA, resA, argFr, retA.eq_1, retA.eq_2, Nat.reduceAdd, Nat.reduceSub, Nat.reduceMul, Nat.reduceLT, Nat.reduceLeDiff, Nat.reduceEqDiff, Nat.reduceBEq, Int.reduceAdd, Int.reduceSub, Int.reduceMul, Int.reduceNeg, Int.reduceLE, Int.reduceLT, Int.reduceEq, Int.reduceNe, Int.reduceToNat, ↓reduceIte, reduceCtorEq, implies_true, forall_const, eq_self, ne_eq, wtAll, Try.ntmps6, Try.results6, o4, o5, hh_i9, n4, n5, n4', n5']; done)) (fun E0 => ?_); right; simp only [vsAll, ↓reduceIte, eq_self, E0])
   ·rw [if_neg hw, Int.add_zero] at ef
    simp only [vsAll, binA, binLitA, intA, opA, dstOk, Nat.reduceLT, Nat.reduceEqDiff, ↓reduceIte, reduceCtorEq, eq_self]
    refine ⟨by simp only [InR_i64]; ((try clear o4 o5 hh_i9 n4 n5 n4' n5'); omega), loop_next (i + 1) hil (by ((try clear o4 o5 hh_i9 n4 n5 n4' n5'); omega)) ?_ ?_⟩
    ·simp only [vsAll, Nat.reduceEqDiff, ↓reduceIte, reduceCtorEq, eq_self, ef, Int.natCast_add, Int.natCast_one]
    ·(refine HSub_eqn fun jj => ?_; refine (Classical.em (jj = i9)).elim (fun E0 => by rw [E0]; first | (left; simp only [eq_self, hh_i9]; done) | (right; simp only [vsAll, binA, binLitA, intA, aggA, aggV, boolA, nilA2, isConst, unA, loadA, loadRow, partA, partOk, fieldAddrA, indexAddrA, indexA, fieldA, extractA, lenA, nilCheckA, boxA, boxZ, cellA, cellsA, fillA, okParts, buildSliceA, buildMutA, makeSliceA, partIdx, elemsA, lensA, ifaceA, convA, mmA, pickA, okAll, stAll, opsA, partsA, partsOk, opA, allocA, boxMutA, newCells, okCells, storeObj, appendA, guardV, taA, nM, mapUpA, rangeA, nextA, entryA, lookA, sliceA, sliceM, sliceS, boundsA, opO, okO, copyA, dstOk, nilA, quietOk, nilSliceOp, deferV, panA, resA, argFr, retA.eq_1, retA.eq_2, Nat.reduceAdd, Nat.reduceSub, Nat.reduceMul, Nat.reduceLT, Nat.reduceLeDiff, Nat.reduceEqDiff, Nat.reduceBEq, Int.reduceAdd, Int.reduceSub, Int.reduceMul, Int.reduceNeg, Int.reduceLE, Int.reduceLT, Int.reduceEq, Int.reduceNe, Int.reduceToNat, ↓reduceIte, reduceCtorEq, implies_true, forall_const, eq_self, ne_eq, wtAll, Try.ntmps6, Try.results6, o4, o5, hh_i9, n4, n5, n4', n5']; done)) (fun E0 => ?_); right; simp only [vsAll, ↓reduceIte, eq_self, E0])
  ·have ei : i = sm.length := by ((try clear o4 o5); omega)
   subst ei
   simp only [vsAll, opA, dstOk, nilSliceOp, resA, retA.eq_1, Nat.reduceLT, Nat.reduceEqDiff, Nat.reduceBEq, ↓reduceIte, reduceCtorEq, eq_self, Try.results6]
   exact dropR_pure rfl (by (repeat (first | exact HSub_rfl | refine HSub_put_eq (by simp only [vsAll, binA, binLitA, intA, aggA, aggV, boolA, nilA2, isConst, unA, loadA, loadRow, partA, partOk, fieldAddrA, indexAddrA, indexA, fieldA, extractA, lenA, nilCheckA, boxA, boxZ, cellA, cellsA, fillA, okParts, buildSliceA, buildMutA, makeSliceA, partIdx, elemsA, lensA, ifaceA, convA, mmA, pickA, okAll, stAll, opsA, partsA, partsOk, opA, allocA, boxMutA, newCells, okCells, storeObj, appendA, guardV, taA, nM, mapUpA, rangeA, nextA, entryA, lookA, sliceA, sliceM, sliceS, boundsA, opO, okO, copyA, dstOk, nilA, quietOk, nilSliceOp, deferV, panA, resA, argFr, retA.eq_1, retA.eq_2, Nat.reduceAdd, Nat.reduceSub, Nat.reduceMul, Nat.reduceLT, Nat.reduceLeDiff, Nat.reduceEqDiff, Nat.reduceBEq, Int.reduceAdd, Int.reduceSub, Int.reduceMul, Int.reduceNeg, Int.reduceLE, Int.reduceLT, Int.reduceEq, Int.reduceNe, Int.reduceToNat, ↓reduceIte, reduceCtorEq, implies_true, forall_const, eq_self, ne_eq, wtAll, Try.ntmps6, Try.results6, o4, o5]) ?_ | refine HSub_drop2 (by simp only [vsAll, binA, binLitA, intA, aggA, aggV, boolA, nilA2, isConst, unA, loadA, loadRow, partA, partOk, fieldAddrA, indexAddrA, indexA, fieldA, extractA, lenA, nilCheckA, boxA, boxZ, cellA, cellsA, fillA, okParts, buildSliceA, buildMutA, makeSliceA, partIdx, elemsA, lensA, ifaceA, convA, mmA, pickA, okAll, stAll, opsA, partsA, partsOk, opA, allocA, boxMutA, newCells, okCells, storeObj, appendA, guardV, taA, nM, mapUpA, rangeA, nextA, entryA, lookA, sliceA, sliceM, sliceS, boundsA, opO, okO, copyA, dstOk, nilA, quietOk, nilSliceOp, deferV, panA, resA, argFr, retA.eq_1, retA.eq_2, Nat.reduceAdd, Nat.reduceSub, Nat.reduceMul, Nat.reduceLT, Nat.reduceLeDiff, Nat.reduceEqDiff, Nat.reduceBEq, Int.reduceAdd, Int.reduceSub, Int.reduceMul, Int.reduceNeg, Int.reduceLE, Int.reduceLT, Int.reduceEq, Int.reduceNe, Int.reduceToNat, ↓reduceIte, reduceCtorEq, implies_true, forall_const, eq_self, ne_eq, wtAll, Try.ntmps6, Try.results6, o4, o5]) ?_ | refine HSub_keep_eq (by simp only [vsAll, binA, binLitA, intA, aggA, aggV, boolA, nilA2, isConst, unA, loadA, loadRow, partA, partOk, fieldAddrA, indexAddrA, indexA, fieldA, extractA, lenA, nilCheckA, boxA, boxZ, cellA, cellsA, fillA, okParts, buildSliceA, buildMutA, makeSliceA, partIdx, elemsA, lensA, ifaceA, convA, mmA, pickA, okAll, stAll, opsA, partsA, partsOk, opA, allocA, boxMutA, newCells, okCells, storeObj, appendA, guardV, taA, nM, mapUpA, rangeA, nextA, entryA, lookA, sliceA, sliceM, sliceS, boundsA, opO, okO, copyA, dstOk, nilA, quietOk, nilSliceOp, deferV, panA, resA, argFr, retA.eq_1, retA.eq_2, Nat.reduceAdd, Nat.reduceSub, Nat.reduceMul, Nat.reduceLT, Nat.reduceLeDiff, Nat.reduceEqDiff, Nat.reduceBEq, Int.reduceAdd, Int.reduceSub, Int.reduceMul, Int.reduceNeg, Int.reduceLE, Int.reduceLT, Int.reduceEq, Int.reduceNe, Int.reduceToNat, ↓reduceIte, reduceCtorEq, implies_true, forall_const, eq_self, ne_eq, wtAll, Try.ntmps6, Try.results6, o4, o5]) ?_)))
end Go.Proofs.Ytclkjifgipcamaa
end
section
set_option linter.unusedVariables false
set_option linter.unusedSimpArgs false
set_option maxHeartbeats 4000000
set_option maxRecDepth 100000
namespace Go.Proofs.Ytclkjifgipcamaa
open Go.V Wl Pm
theorem ret_leA {P : Program} {fv : AV} {args : List AV} {H : Hp} {v v' : AV} (h : PTri P fv args H v) (hle : AV.Le v v') : PTri P fv args H v' := by
 intro S vf vs hH hvf ha
 obtain ⟨nx, h1, h2⟩ := h S vf vs hH hvf ha
 have ho : ∀ e w, Out S (fun r H' => r = .ret v ∧ H' = H) e w → Out S (fun r H' => r = .ret v' ∧ H' = H) e w := by
  rintro e w ⟨S', r, H', hw, hl, hH', hrr, rfl, rfl⟩
  refine ⟨S', .ret v', H', hw, hl, hH', ?_, rfl, rfl⟩
  cases e with
  | returned cv => exact hle S' cv hrr
  | panicked ch => exact hrr.elim
  | outgrown => exact hrr.elim
 refine ⟨nx, h1, ?_⟩
 cases nx <;> simp only [NextOk] at h2 ⊢
 ·exact Calls.mono h2 ho
 ·exact h2.mono ho
theorem sampleA_tri (H : Hp) : PTri Try.prog (fnA 50) [] H (smP 14).av := by
 refine ret_leA (v := .agg [.rsl 3 2 (fun i => [[i64 6, i64 8], [i64 6, i64 8], [i64 6, i64 8]].getD i []), i64 14, .rsl 2 4 (fun i => [[i64 9, i64 10, i64 3, i64 1], [i64 6, i64 6, i64 0, i64 0]].getD i []), .rsl 3 1 (fun i => [[i64 2], [i64 0], [i64 2]].getD i []), .rsl 1 5 (fun i => [[i64 1, i64 0, i64 0, i64 3, i64 3]].getD i [])]) ?_ ?_
 ·refine Tri.drop ?_
  refine tri_v0 (mset [0]) Try.func50 (by kernel_rfl) rfl (by simp only [List.length_append, List.length_nil, Try.ntmps50]; decide) ?_
  simp only [vsAll, okAll, stAll, opsA, opA, allocA, dstOk, Nat.reduceAdd, Nat.reduceLT, eq_self, wtAll, Try.ntmps50]
  intro i2 hh_i2; (try simp only [Hp.set_none, ite_none] at hh_i2)
  refine callK_pure (spanf_tri 6 8 _) ?_
  simp only [vsAll, okAll, stAll, opsA, opA, dstOk, Nat.reduceLT]
  refine callK_pure (spanf_tri 6 8 _) ?_
  simp only [vsAll, okAll, stAll, opsA, opA, dstOk, Nat.reduceLT]
  refine callK_pure (spanf_tri 6 8 _) ?_
  simp only [vsAll, cellsA, okParts, buildSliceA, partIdx, elemsA, lensA, okAll, stAll, opsA, partsA, partsOk, opA, dstOk, Nat.reduceAdd, Nat.reduceMul, Nat.reduceLT, Nat.reduceLeDiff, Nat.reduceEqDiff, Nat.reduceBEq, ↓reduceIte, eq_self, wtAll]
  refine callK_pure (spanf_tri 9 10 _) ?_
  simp only [vsAll, cellA, cellsA, fillA, okParts, okAll, stAll, opsA, partsA, partsOk, opA, dstOk, Nat.reduceAdd, Nat.reduceLT, Nat.reduceLeDiff, ↓reduceIte, eq_self, wtAll]
  refine callK_pure (spanf_tri 6 6 _) ?_
  simp only [vsAll, cellA, cellsA, fillA, okParts, buildSliceA, partIdx, elemsA, lensA, okAll, stAll, opsA, partsA, partsOk, opA, dstOk, Nat.reduceAdd, Nat.reduceMul, Nat.reduceLT, Nat.reduceLeDiff, Nat.reduceEqDiff, Nat.reduceBEq, ↓reduceIte, eq_self, wtAll]
  refine callK_pure (spanf_tri 3 3 _) ?_
  simp only [vsAll, loadA, loadRow, partA, partOk, cellA, cellsA, fillA, okParts, buildSliceA, partIdx, elemsA, lensA, partsA, partsOk, opA, newCells, okCells, storeObj, dstOk, resA, retA.eq_1, Nat.reduceAdd, Nat.reduceMul, Nat.reduceLT, Nat.reduceLeDiff, Nat.reduceEqDiff, Nat.reduceBEq, ↓reduceIte, reduceCtorEq, eq_self, wtAll, Try.results50]
  exact dropR_pure rfl (by (repeat (first | exact HSub_rfl | refine HSub_put_eq (by simp only [vsAll, binA, binLitA, intA, aggA, aggV, boolA, nilA2, isConst, unA, loadA, loadRow, partA, partOk, fieldAddrA, indexAddrA, indexA, fieldA, extractA, lenA, nilCheckA, boxA, boxZ, cellA, cellsA, fillA, okParts, buildSliceA, buildMutA, makeSliceA, partIdx, elemsA, lensA, ifaceA, convA, mmA, pickA, okAll, stAll, opsA, partsA, partsOk, opA, allocA, boxMutA, newCells, okCells, storeObj, appendA, guardV, taA, nM, mapUpA, rangeA, nextA, entryA, lookA, sliceA, sliceM, sliceS, boundsA, opO, okO, copyA, dstOk, nilA, quietOk, nilSliceOp, deferV, panA, resA, argFr, retA.eq_1, retA.eq_2, Nat.reduceAdd, Nat.reduceSub, Nat.reduceMul, Nat.reduceLT, Nat.reduceLeDiff, Nat.reduceEqDiff, Nat.reduceBEq, Int.reduceAdd, Int.reduceSub, Int.reduceMul, Int.reduceNeg, Int.reduceLE, Int.reduceLT, Int.reduceEq, Int.reduceNe, Int.reduceToNat, ↓reduceIte, reduceCtorEq, implies_true, forall_const, eq_self, ne_eq, wtAll, Try.ntmps50, Try.results50, hh_i2]) ?_ | refine HSub_drop2 (by simp only [eq_self, hh_i2]) ?_ | refine HSub_keep_eq (by simp only [vsAll, binA, binLitA, intA, aggA, aggV, boolA, nilA2, isConst, unA, loadA, loadRow, partA, partOk, fieldAddrA, indexAddrA, indexA, fieldA, extractA, lenA, nilCheckA, boxA, boxZ, cellA, cellsA, fillA, okParts, buildSliceA, buildMutA, makeSliceA, partIdx, elemsA, lensA, ifaceA, convA, mmA, pickA, okAll, stAll, opsA, partsA, partsOk, opA, allocA, boxMutA, newCells, okCells, storeObj, appendA, guardV, taA, nM, mapUpA, rangeA, nextA, entryA, lookA, sliceA, sliceM, sliceS, boundsA, opO, okO, copyA, dstOk, nilA, quietOk, nilSliceOp, deferV, panA, resA, argFr, retA.eq_1, retA.eq_2, Nat.reduceAdd, Nat.reduceSub, Nat.reduceMul, Nat.reduceLT, Nat.reduceLeDiff, Nat.reduceEqDiff, Nat.reduceBEq, Int.reduceAdd, Int.reduceSub, Int.reduceMul, Int.reduceNeg, Int.reduceLE, Int.reduceLT, Int.reduceEq, Int.reduceNe, Int.reduceToNat, ↓reduceIte, reduceCtorEq, implies_true, forall_const, eq_self, ne_eq, wtAll, Try.ntmps50, Try.results50, hh_i2]) ?_)))
 ·refine AV.Le.aggD rfl fun j hj => ?_
  match j, hj with
  | 0, _ =>
    refine AV.Le.rsl fun i hi => ?_
    match i, hi with
    | 0, _ => rfl
    | 1, _ => rfl
    | 2, _ => rfl
  | 1, _ => exact AV.Le.refl _
  | 2, _ =>
    refine AV.Le.rsl fun i hi => ?_
    match i, hi with
    | 0, _ => rfl
    | 1, _ => rfl
  | 3, _ =>
    refine AV.Le.rsl fun i hi => ?_
    match i, hi with
    | 0, _ => rfl
    | 1, _ => rfl
    | 2, _ => rfl
  | 4, _ =>
    refine AV.Le.rsl fun i hi => ?_
    match i, hi with
    | 0, _ => rfl
theorem smw1 : waterV (smP 14).ho = [(5, 7)] := by decide +kernel
theorem smw2 : waterE (smP 14).ho = 0 := by decide +kernel
theorem smw3 : floV (smP 14) [0, 1, 0] = 2 := by decide +kernel
theorem smw4 : playE (smP 14) [0, 1, 0] = 0 := by decide +kernel
theorem eq_sp34 : eqT Try.prog 34 2 := eqT_of (by kernel_rfl) (by kernel_rfl) (by kernel_rfl) (by kernel_rfl) (by kernel_rfl)
theorem intL3 (a b c : Int) : AV.Le (.rsl 3 1 (fun i => [[i64 a], [i64 b], [i64 c]].getD i [])) (intsAV [a, b, c]) := AV.Le.rsl fun i hi => by
 match i, hi with
 | 0, _ => rfl
 | 1, _ => rfl
 | 2, _ => rfl
theorem fints_tri (a b : List Int) (H : Hp) (ha : a.length < 2 ^ 60) (hb : b.length < 2 ^ 60) : PTri Try.prog (fnA 52) [intsAV a, intsAV b] H (boo (decide (a = b))) := by
 refine tri_v0 (fun _ => false) Try.func52 (by kernel_rfl) rfl (by simp only [List.length_append, List.length_cons, List.length_nil, Try.ntmps52]; decide) ?_
 simp only [vsAll, okAll, stAll, opsA, opA, dstOk, nilSliceOp, argFr, Nat.reduceLT, Nat.reduceEqDiff, ↓reduceIte, reduceCtorEq, eq_self, Try.ntmps52]
 refine callK_pure (Wl.ints_tri a b _ ha hb) ?_
 simp only [vsAll, opA, dstOk, nilSliceOp, resA, retA.eq_1, Nat.reduceLT, ↓reduceIte, eq_self, Try.results52]
theorem awakeA_tri (H : Hp) : PTri Try.prog (fnA 12) [] H (boo true) := by
 have kn := sm_ok.near
 refine Tri.drop ?_
 refine tri_v0 (fun _ => false) Try.func12 (by kernel_rfl) rfl (by simp only [List.length_append, List.length_nil, Try.ntmps12]; decide) ?_
 simp only [vsAll, okAll, stAll, opsA, opA, dstOk, nilSliceOp, Nat.reduceLT, Int.reduceNeg, eq_self, Try.ntmps12]
 refine callK_pure (sampleA_tri _) ?_
 simp only [vsAll, partA, fieldA, okAll, stAll, opsA, opA, dstOk, Nat.reduceAdd, Nat.reduceLT, Int.reduceNeg, ↓reduceIte, eq_self, wtAll]
 refine callK_pure (wwater_tri (smP 14).ho _ kn.ho) ?_
 rw [smw1, smw2]
 simp only [vsAll, extractA, okAll, stAll, opsA, opA, dstOk, nilSliceOp, Nat.reduceAdd, Nat.reduceLT, Nat.reduceEqDiff, Int.reduceNeg, ↓reduceIte, eq_self]
 refine callK_pure (sampleA_tri _) ?_
 simp only [vsAll, cellA, cellsA, okParts, buildSliceA, partIdx, elemsA, lensA, okAll, stAll, opsA, partsA, partsOk, opA, dstOk, Nat.reduceAdd, Nat.reduceMul, Nat.reduceLT, Nat.reduceLeDiff, Nat.reduceEqDiff, Int.reduceNeg, ↓reduceIte, eq_self, wtAll]
 refine callK_pure (Tri.args (args' := [(smP 14).av, intsAV [0, 1, 0]]) (flo_tri (smP 14) [0, 1, 0] _ kn (by decide)) rfl fun j hj => ?_) ?_
 ·match j, hj with
  | 0, _ => exact AV.Le.refl _
  | 1, _ => exact intL3 0 1 0
 rw [smw3, smw4]
 simp only [vsAll, extractA, okAll, stAll, opsA, opA, dstOk, nilSliceOp, Nat.reduceAdd, Nat.reduceLT, Nat.reduceEqDiff, Int.reduceNeg, ↓reduceIte, eq_self]
 refine callK_pure (sampleA_tri _) ?_
 simp only [vsAll, okAll, stAll, opsA, opA, dstOk, Nat.reduceLT, Int.reduceNeg, ↓reduceIte, eq_self]
 refine callK_pure (few_tri (smP 14) _ kn) ?_
 rw [sm11, sm12, sm13]
 simp only [vsAll, extractA, opA, dstOk, nilSliceOp, Nat.reduceAdd, Nat.reduceLT, Nat.reduceEqDiff, Int.reduceNeg, ↓reduceIte, eq_self]
 refine vs_draw2 [0, 0, 0, 0, 0, 0, 0, 0, 0, 0, 0, 0, 0, 0, 0, 0, 0, 0, 0, 0, 0, 0, 0, 0, 0, 0, 0, 0, 0, 0, 0, 0, 0, 0, 0, 0] [] [0, 1, 2, 3, 4, 5, 6, 7, 8, 9, 10, 11, 12, 13, 14, 15, 16, 17, 18, 19, 20, 21, 22, 23, 24, 25, 26, 27, 28, 29, 30, 31, 32, 33, 34, 35] (by decide +kernel) ?_
 simp only [vsAll, binA, binLitA, intA, loadA, loadRow, partA, partOk, indexAddrA, lenA, opA, guardV, dstOk, Nat.reduceLT, Nat.reduceEqDiff, Int.reduceNeg, Int.reduceLE, Int.reduceLT, Int.reduceToNat, ↓reduceIte, eq_self, wtAll, spanF_at, Int.natCast_one]
 refine qgcall _ (fun hg => ⟨trivial, by simp only [vsAll, okAll, opsA, opA], spanf_tri 5 7 _⟩) ?_
 simp only [vsAll, binA, binLitA, intA, aggA, cellA, cellsA, okParts, buildSliceA, partIdx, elemsA, lensA, pickA, partsA, partsOk, opA, guardV, dstOk, Nat.reduceAdd, Nat.reduceMul, Nat.reduceLT, Nat.reduceLeDiff, Nat.reduceEqDiff, Int.reduceNeg, ↓reduceIte, implies_true, forall_const, eq_self, wtAll]
 refine ⟨eq_sp34, qgcall _ (fun hg => ⟨trivial, by simp only [vsAll, okAll, opsA, opA, Nat.reduceEqDiff, Int.reduceNeg, ↓reduceIte, eq_self], Tri.args (args' := [intsAV [0, -1, 0], intsAV [0, -1, 0]]) (fints_tri [0, -1, 0] [0, -1, 0] _ (by decide) (by decide)) rfl fun j hj => ?_⟩) ?_⟩
 ·match j, hj with
  | 0, _ => exact AV.Le.refl _
  | 1, _ => exact intL3 0 (-1) 0
 simp only [vsAll, binA, binLitA, intA, pickA, opA, guardV, dstOk, resA, retA.eq_1, Nat.reduceLT, Nat.reduceEqDiff, Int.reduceNeg, ↓reduceIte, implies_true, eq_self, Try.results12]
 exact dropR_pure rfl (by (repeat (first | exact HSub_rfl | refine HSub_put_eq (by simp only [vsAll, binA, binLitA, intA, aggA, aggV, boolA, nilA2, isConst, unA, loadA, loadRow, partA, partOk, fieldAddrA, indexAddrA, indexA, fieldA, extractA, lenA, nilCheckA, boxA, boxZ, cellA, cellsA, fillA, okParts, buildSliceA, buildMutA, makeSliceA, partIdx, elemsA, lensA, ifaceA, convA, mmA, pickA, okAll, stAll, opsA, partsA, partsOk, opA, allocA, boxMutA, newCells, okCells, storeObj, appendA, guardV, taA, nM, mapUpA, rangeA, nextA, entryA, lookA, sliceA, sliceM, sliceS, boundsA, opO, okO, copyA, dstOk, nilA, quietOk, nilSliceOp, deferV, panA, resA, argFr, retA.eq_1, retA.eq_2, Nat.reduceAdd, Nat.reduceSub, Nat.reduceMul, Nat.reduceLT, Nat.reduceLeDiff, Nat.reduceEqDiff, Nat.reduceBEq, Int.reduceAdd, Int.reduceSub, Int.reduceMul, Int.reduceNeg, Int.reduceLE, Int.reduceLT, Int.reduceEq, Int.reduceNe, Int.reduceToNat, ↓reduceIte, reduceCtorEq, implies_true, forall_const, eq_self, ne_eq, wtAll, Try.ntmps12, Try.results12]) ?_ | refine HSub_drop2 (by simp only [vsAll, binA, binLitA, intA, aggA, aggV, boolA, nilA2, isConst, unA, loadA, loadRow, partA, partOk, fieldAddrA, indexAddrA, indexA, fieldA, extractA, lenA, nilCheckA, boxA, boxZ, cellA, cellsA, fillA, okParts, buildSliceA, buildMutA, makeSliceA, partIdx, elemsA, lensA, ifaceA, convA, mmA, pickA, okAll, stAll, opsA, partsA, partsOk, opA, allocA, boxMutA, newCells, okCells, storeObj, appendA, guardV, taA, nM, mapUpA, rangeA, nextA, entryA, lookA, sliceA, sliceM, sliceS, boundsA, opO, okO, copyA, dstOk, nilA, quietOk, nilSliceOp, deferV, panA, resA, argFr, retA.eq_1, retA.eq_2, Nat.reduceAdd, Nat.reduceSub, Nat.reduceMul, Nat.reduceLT, Nat.reduceLeDiff, Nat.reduceEqDiff, Nat.reduceBEq, Int.reduceAdd, Int.reduceSub, Int.reduceMul, Int.reduceNeg, Int.reduceLE, Int.reduceLT, Int.reduceEq, Int.reduceNe, Int.reduceToNat, ↓reduceIte, reduceCtorEq, implies_true, forall_const, eq_self, ne_eq, wtAll, Try.ntmps12, Try.results12]) ?_ | refine HSub_keep_eq (by simp only [vsAll, binA, binLitA, intA, aggA, aggV, boolA, nilA2, isConst, unA, loadA, loadRow, partA, partOk, fieldAddrA, indexAddrA, indexA, fieldA, extractA, lenA, nilCheckA, boxA, boxZ, cellA, cellsA, fillA, okParts, buildSliceA, buildMutA, makeSliceA, partIdx, elemsA, lensA, ifaceA, convA, mmA, pickA, okAll, stAll, opsA, partsA, partsOk, opA, allocA, boxMutA, newCells, okCells, storeObj, appendA, guardV, taA, nM, mapUpA, rangeA, nextA, entryA, lookA, sliceA, sliceM, sliceS, boundsA, opO, okO, copyA, dstOk, nilA, quietOk, nilSliceOp, deferV, panA, resA, argFr, retA.eq_1, retA.eq_2, Nat.reduceAdd, Nat.reduceSub, Nat.reduceMul, Nat.reduceLT, Nat.reduceLeDiff, Nat.reduceEqDiff, Nat.reduceBEq, Int.reduceAdd, Int.reduceSub, Int.reduceMul, Int.reduceNeg, Int.reduceLE, Int.reduceLT, Int.reduceEq, Int.reduceNe, Int.reduceToNat, ↓reduceIte, reduceCtorEq, implies_true, forall_const, eq_self, ne_eq, wtAll, Try.ntmps12, Try.results12]) ?_)))
end Go.Proofs.Ytclkjifgipcamaa
end
