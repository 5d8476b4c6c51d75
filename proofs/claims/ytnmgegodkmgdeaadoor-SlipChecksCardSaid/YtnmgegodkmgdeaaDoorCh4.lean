/- Helper lemmas of this claim, part 4. -/
import Derived.Lib.TrailingZeros
import Derived.Test.YtnmgegodkmgdeaaDoorCh3
section
set_option linter.unusedVariables false
set_option linter.unusedSimpArgs false
set_option maxHeartbeats 4000000
set_option maxRecDepth 100000
namespace Go.Proofs.YtnmgegodkmgdeaaDoor
open Go.V
theorem open_call {s : Sl} {u v : Bool} {H : Hp} {K : AV → Hp → Prop} {Kp : AV → Hp → Prop} (kn : Near s) (h1 : ¬ errE s v = 0 → Kp (refS (errE s v)) H) (h2 : Ok s → v = true → K (opP s u) H) :
    CallK Tryd.prog (fnA 45) [s.av, boo u, boo v] H K Kp := by
  refine ⟨_, open_tri s u v H kn, fun r H' hr => ?_⟩
  obtain ⟨rfl, rfl⟩ := hr
  by_cases h : errE s v = 0
  · rw [if_pos h]
    exact h2 (errE_zero h).1 (errE_zero h).2
  · rw [if_neg h]
    exact h1 h
theorem tdN_b {s : Sl} (k : Ok s) (u : Bool) (q : Nat) : tdN s u q s.hs.length < 2 ^ 16 :=
  Nat.lt_of_lt_of_le (tdN_lt s u q _) (Nat.pow_le_pow_right (by decide) k.nH)
theorem tdA_b {s : Sl} (k : Ok s) (u : Bool) (q : Nat) : tdA s u q < 2 ^ 16 := by
  unfold tdA
  split
  · exact tdN_b k u q
  · decide
theorem wtides_tri (s : Sl) (n : Int) (u : Bool) (H : Hp) (kn : Near s) : PTri Tryd.prog (fnA 15) [s.av, i64 n, boo u] H (.tuple [i64 (tideV s u n : Nat), i64 (tideE s n)]) := by
  refine Tri.drop ?_
  refine tri_a (m := fun _ => false) ans43 Tryd.func15 (by kernel_rfl) rfl (by simp only [List.length_append, List.length_cons, List.length_nil, Tryd.ntmps15]; decide) ?_
  simp only [vsAll, boxA, boxZ, okAll, stAll, opsA, opA, allocA, dstOk, nilSliceOp, deferV, argFr, Nat.reduceAdd, Nat.reduceLT, ↓reduceIte, eq_self, wtAll, Tryd.ntmps15]
  intro i7 hh_i7; (try simp only [Hp.set_none, ite_none] at hh_i7)
  refine vs_draw2 [0, 0, 0, 0, 1, 3, 4] [([0, 1, 2, 3], [0], 4), ([], [], 5)] [6] (by decide +kernel) ?_
  simp only [vsAll, loadA, loadRow, partA, partOk, okAll, stAll, opsA, opA, dstOk, argFr, Nat.reduceLT, Nat.reduceEqDiff, ↓reduceIte, eq_self, wtAll]
  refine callK_pure (isShip_tri s n _ kn) ?_
  simp only [vsAll, loadA, loadRow, partA, partOk, okAll, stAll, opsA, opA, dstOk, Nat.reduceLT, Nat.reduceEqDiff, ↓reduceIte, eq_self, wtAll]
  refine open_call kn (fun he => ?_) (fun k hv => ?_)
  · have e : ¬ tideE s n = 0 := he
    have ev : tideV s u n = 0 := if_neg e
    simp only [vsAll]
    refine ⟨errE s (shipB s n), i7, _, rfl, rfl, by simp only [vsAll, ↓reduceIte, eq_self]; try rfl, ?_⟩
    simp only [vsAll, loadA, loadRow, partA, partOk, resA, retA.eq_2, Nat.reduceLT, Nat.reduceEqDiff, ↓reduceIte, eq_self, wtAll, Tryd.results15]
    refine dropR_pure ?_ (by (repeat (first | exact HSub_rfl | refine HSub_put_eq (by simp only [vsAll, binA, binLitA, intA, aggA, aggV, boolA, nilA2, isConst, unA, loadA, loadRow, partA, partOk, fieldAddrA, indexAddrA, indexA, fieldA, extractA, lenA, nilCheckA, boxA, boxZ, cellA, cellsA, fillA, okParts, buildSliceA, buildMutA, makeSliceA, partIdx, elemsA, lensA, ifaceA, convA, mmA, pickA, okAll, stAll, opsA, partsA, partsOk, opA, allocA, boxMutA, newCells, okCells, storeObj, appendA, guardV, taA, nM, mapUpA, lookA, sliceA, sliceS, boundsA, opO, okO, copyA, dstOk, nilA, quietOk, nilSliceOp, deferV, panA, resA, argFr, retA.eq_1, retA.eq_2, Nat.reduceAdd, Nat.reduceSub, Nat.reduceMul, Nat.reduceLT, Nat.reduceLeDiff, Nat.reduceEqDiff, Nat.reduceBEq, Int.reduceAdd, Int.reduceSub, Int.reduceMul, Int.reduceNeg, Int.reduceLE, Int.reduceLT, Int.reduceEq, Int.reduceNe, Int.reduceToNat, ↓reduceIte, reduceCtorEq, implies_true, forall_const, eq_self, ne_eq, wtAll, Tryd.ntmps15, Tryd.results15, hh_i7]) ?_ | refine HSub_drop2 (by simp only [eq_self, hh_i7]) ?_ | refine HSub_keep_eq (by simp only [vsAll, binA, binLitA, intA, aggA, aggV, boolA, nilA2, isConst, unA, loadA, loadRow, partA, partOk, fieldAddrA, indexAddrA, indexA, fieldA, extractA, lenA, nilCheckA, boxA, boxZ, cellA, cellsA, fillA, okParts, buildSliceA, buildMutA, makeSliceA, partIdx, elemsA, lensA, ifaceA, convA, mmA, pickA, okAll, stAll, opsA, partsA, partsOk, opA, allocA, boxMutA, newCells, okCells, storeObj, appendA, guardV, taA, nM, mapUpA, lookA, sliceA, sliceS, boundsA, opO, okO, copyA, dstOk, nilA, quietOk, nilSliceOp, deferV, panA, resA, argFr, retA.eq_1, retA.eq_2, Nat.reduceAdd, Nat.reduceSub, Nat.reduceMul, Nat.reduceLT, Nat.reduceLeDiff, Nat.reduceEqDiff, Nat.reduceBEq, Int.reduceAdd, Int.reduceSub, Int.reduceMul, Int.reduceNeg, Int.reduceLE, Int.reduceLT, Int.reduceEq, Int.reduceNe, Int.reduceToNat, ↓reduceIte, reduceCtorEq, implies_true, forall_const, eq_self, ne_eq, wtAll, Tryd.ntmps15, Tryd.results15, hh_i7]) ?_)))
    simp only [ev, Int.natCast_zero]
    rfl
  · have e : tideE s n = 0 := by unfold tideE; rw [hv]; exact errE_ok k
    rw [shipB_iff] at hv
    have nS := k.nS
    obtain ⟨q, rfl⟩ : ∃ q : Nat, n = (q : Int) := ⟨n.toNat, by ((try clear hh_i7); omega)⟩
    have hb := tdN_b k u q
    have ev : tideV s u (q : Int) = tdN s u q s.hs.length := by rw [tideV, if_pos e, Int.toNat_natCast]
    have et : tdA s u q = tdN s u q s.hs.length := if_pos (by ((try clear hh_i7); omega))
    simp only [vsAll, loadA, loadRow, partA, partOk, fieldAddrA, indexAddrA, nilCheckA, cellA, cellsA, convA, opA, newCells, okCells, storeObj, dstOk, nilSliceOp, argFr, Nat.reduceLT, Nat.reduceEqDiff, ↓reduceIte, eq_self, wtAll]
    rw [bth_get s u _ q (by ((try clear hh_i7); omega)), et]
    simp only [AV.ok, AV.st]
    refine ⟨⟨by ((try clear hh_i7); omega), by ((try clear hh_i7); omega)⟩, by ((try clear hh_i7); omega), ⟨trivial, by simp only [InR_i64]; ((try clear hh_i7); omega)⟩, ?_⟩
    refine Ent.ret ⟨i7, _, rfl, by simp only [vsAll, ↓reduceIte, eq_self]; try rfl, ?_⟩
    simp only [vsAll, loadA, loadRow, partA, partOk, resA, retA.eq_2, Nat.reduceLT, Nat.reduceEqDiff, ↓reduceIte, eq_self, wtAll, Tryd.results15]
    refine dropR_pure ?_ (by (repeat (first | exact HSub_rfl | refine HSub_put_eq (by simp only [vsAll, binA, binLitA, intA, aggA, aggV, boolA, nilA2, isConst, unA, loadA, loadRow, partA, partOk, fieldAddrA, indexAddrA, indexA, fieldA, extractA, lenA, nilCheckA, boxA, boxZ, cellA, cellsA, fillA, okParts, buildSliceA, buildMutA, makeSliceA, partIdx, elemsA, lensA, ifaceA, convA, mmA, pickA, okAll, stAll, opsA, partsA, partsOk, opA, allocA, boxMutA, newCells, okCells, storeObj, appendA, guardV, taA, nM, mapUpA, lookA, sliceA, sliceS, boundsA, opO, okO, copyA, dstOk, nilA, quietOk, nilSliceOp, deferV, panA, resA, argFr, retA.eq_1, retA.eq_2, Nat.reduceAdd, Nat.reduceSub, Nat.reduceMul, Nat.reduceLT, Nat.reduceLeDiff, Nat.reduceEqDiff, Nat.reduceBEq, Int.reduceAdd, Int.reduceSub, Int.reduceMul, Int.reduceNeg, Int.reduceLE, Int.reduceLT, Int.reduceEq, Int.reduceNe, Int.reduceToNat, ↓reduceIte, reduceCtorEq, implies_true, forall_const, eq_self, ne_eq, wtAll, Tryd.ntmps15, Tryd.results15, hh_i7]) ?_ | refine HSub_drop2 (by simp only [eq_self, hh_i7]) ?_ | refine HSub_keep_eq (by simp only [vsAll, binA, binLitA, intA, aggA, aggV, boolA, nilA2, isConst, unA, loadA, loadRow, partA, partOk, fieldAddrA, indexAddrA, indexA, fieldA, extractA, lenA, nilCheckA, boxA, boxZ, cellA, cellsA, fillA, okParts, buildSliceA, buildMutA, makeSliceA, partIdx, elemsA, lensA, ifaceA, convA, mmA, pickA, okAll, stAll, opsA, partsA, partsOk, opA, allocA, boxMutA, newCells, okCells, storeObj, appendA, guardV, taA, nM, mapUpA, lookA, sliceA, sliceS, boundsA, opO, okO, copyA, dstOk, nilA, quietOk, nilSliceOp, deferV, panA, resA, argFr, retA.eq_1, retA.eq_2, Nat.reduceAdd, Nat.reduceSub, Nat.reduceMul, Nat.reduceLT, Nat.reduceLeDiff, Nat.reduceEqDiff, Nat.reduceBEq, Int.reduceAdd, Int.reduceSub, Int.reduceMul, Int.reduceNeg, Int.reduceLE, Int.reduceLT, Int.reduceEq, Int.reduceNe, Int.reduceToNat, ↓reduceIte, reduceCtorEq, implies_true, forall_const, eq_self, ne_eq, wtAll, Tryd.ntmps15, Tryd.results15, hh_i7]) ?_)))
    simp only [eq_self, ev, e]
def badB (t : Int) : Bool := !(decide (0 ≤ t) && decide (t ≤ 16))
theorem bad_tri (t : Int) (H : Hp) : PTri Tryd.prog (fnA 52) [i64 t] H (boo (badB t)) := by
  refine tri_v0 (fun _ => false) Tryd.func52 (by kernel_rfl) rfl (by simp only [List.length_append, List.length_cons, List.length_nil, Tryd.ntmps52]; decide) ?_
  simp only [vsAll, okAll, stAll, opsA, opA, dstOk, nilSliceOp, argFr, Nat.reduceLT, ↓reduceIte, reduceCtorEq, eq_self, Tryd.ntmps52]
  refine callK_pure (within_tri _ _ _ _) ?_
  simp only [vsAll, unA, opA, dstOk, nilSliceOp, resA, retA.eq_1, Nat.reduceLT, ↓reduceIte, eq_self, Tryd.results52]
  rfl
theorem index_tri (l : List Int) (H : Hp) (hl : l.length ≤ 1000) : Tri Tryd.prog (fnA 81) [intsAV l, fnA 52] H fun r H' => H' = H ∧ ∃ z : Int, r = .ret (i64 z) ∧ -1 ≤ z ∧ (0 ≤ z ↔ l.any badB = true) := by
  refine tri_v0 (fun _ => false) Tryd.func81 (by kernel_rfl) rfl (by simp only [List.length_append, List.length_cons, List.length_nil, Tryd.ntmps81]; decide) ?_
  simp only [vsAll, lenA, opA, dstOk, nilSliceOp, argFr, Nat.reduceLT, Int.reduceNeg, ↓reduceIte, reduceCtorEq, eq_self, wtAll, Tryd.ntmps81]
  refine vs_loop (σ := Nat) (fun i => i ≤ l.length ∧ (l.take i).any badB = false) (fun i => [(0, intsAV l), (1, fnA 52), (7, i64 l.length), (8, i64 i)]) (fun _ => H) (fun i => l.length - i) 0 ⟨Nat.zero_le _, rfl⟩ ?_ (HSub.refl _) fun i hi => ?_
  · simp only [vsAll, argFr, Nat.reduceEqDiff, ↓reduceIte, reduceCtorEq, eq_self, Int.natCast_zero]
  · obtain ⟨hi, hall⟩ := hi
    simp only [vsAll, binA, binLitA, intA, opA, dstOk, Nat.reduceLT, Nat.reduceEqDiff, Int.reduceNeg, ↓reduceIte, reduceCtorEq, eq_self]
    refine condD (fun hd => ?_) (fun hd => ?_)
    · have hil : i < l.length := by omega
      have hs := take_snoc l i 0 hil
      simp only [vsAll, loadA, loadRow, partA, partOk, indexAddrA, okAll, stAll, opsA, opA, dstOk, nilSliceOp, Nat.reduceLT, Nat.reduceEqDiff, Int.reduceNeg, ↓reduceIte, reduceCtorEq, eq_self, wtAll, intF_at]
      refine ⟨by omega, by omega, callK_pure (bad_tri _ _) ?_⟩
      simp only [vsAll, opA, Int.reduceNeg, ↓reduceIte, eq_self]
      refine condV (fun hc => ?_) (fun hc => ?_)
      · have : l.any badB = true := List.any_eq_true.2 ⟨_, mem_getD l i 0 hil, hc⟩
        simp only [vsAll, opA, dstOk, nilSliceOp, resA, retA.eq_1, Nat.reduceLT, Nat.reduceEqDiff, Int.reduceNeg, ↓reduceIte, eq_self, Tryd.results81]
        exact ⟨_, rfl, by omega, fun _ => this, fun _ => by omega⟩
      · simp only [vsAll, binA, binLitA, intA, opA, dstOk, Nat.reduceLT, Nat.reduceEqDiff, Int.reduceNeg, ↓reduceIte, reduceCtorEq, eq_self]
        refine ⟨by simp only [InR_i64]; omega, loop_next (i + 1) ⟨by omega, ?_⟩ (by omega) ?_ (HSub.refl _)⟩
        · rw [hs, List.any_append, hall, Bool.false_or]; simpa using hc
        · simp only [vsAll, Nat.reduceEqDiff, ↓reduceIte, reduceCtorEq, eq_self, Int.natCast_add, Int.natCast_one]
    · have ei : i = l.length := by omega
      rw [ei, List.take_length] at hall
      simp only [vsAll, opA, dstOk, nilSliceOp, resA, retA.eq_1, Nat.reduceLT, Int.reduceNeg, ↓reduceIte, eq_self, Tryd.results81]
      exact ⟨_, rfl, by omega, fun h => by omega, fun h => by rw [hall] at h; cases h⟩
theorem contains_tri (l : List Int) (H : Hp) (hl : l.length ≤ 1000) : PTri Tryd.prog (fnA 54) [intsAV l, fnA 52] H (boo (l.any badB)) := by
  refine tri_v0 (fun _ => false) Tryd.func54 (by kernel_rfl) rfl (by simp only [List.length_append, List.length_cons, List.length_nil, Tryd.ntmps54]; decide) ?_
  simp only [vsAll, okAll, stAll, opsA, opA, dstOk, nilSliceOp, argFr, Nat.reduceLT, Nat.reduceEqDiff, ↓reduceIte, reduceCtorEq, eq_self, Tryd.ntmps54]
  refine callK (index_tri l _ hl) ?_
  rintro r H' ⟨rfl, z, rfl, h1, h2⟩
  have e : l.any badB = decide (z ≥ 0) := by
    rw [Bool.eq_iff_iff, decide_eq_true_eq]
    exact h2.symm
  simp only [vsAll, binA, binLitA, intA, opA, dstOk, nilSliceOp, resA, retA.eq_1, Nat.reduceLT, ↓reduceIte, eq_self, Tryd.results54, e]
theorem wcheck_tri (s : Sl) (l : List Int) (u : Bool) (H : Hp) (kn : Near s) (hl : l.length ≤ 41) : PTri Tryd.prog (fnA 17) [s.av, intsAV l, boo u] H (.tuple [i64 (checkW s u l : Nat), i64 (checkR s u l), i64 (checkE s u l)]) := by
  have n1 := kn.n
  refine Tri.drop ?_
  refine tri_a (m := fun _ => false) ans51 Tryd.func17 (by kernel_rfl) rfl (by simp only [List.length_append, List.length_cons, List.length_nil, Tryd.ntmps17]; decide) ?_
  simp only [vsAll, boxA, boxZ, okAll, stAll, opsA, opA, allocA, dstOk, nilSliceOp, deferV, argFr, Nat.reduceAdd, Nat.reduceLT, ↓reduceIte, eq_self, wtAll, Tryd.ntmps17]
  intro i8 hh_i8; (try simp only [Hp.set_none, ite_none] at hh_i8)
  refine vs_draw2 [0, 0, 0, 0, 0, 0, 0, 0, 0, 0, 0, 0, 0, 0, 1, 2] [([0, 1, 2, 3, 4, 5, 6, 7, 8, 9, 10, 11, 12, 13], [], 14)] [15] (by decide +kernel) ?_
  simp only [vsAll, binA, binLitA, intA, loadA, loadRow, partA, partOk, fieldAddrA, lenA, opA, guardV, dstOk, argFr, Nat.reduceLT, Nat.reduceEqDiff, ↓reduceIte, implies_true, eq_self, wtAll]
  refine qgcall _ (fun g => ⟨by simp only [vsAll, opA], by simp only [vsAll, okAll, opsA, opA, Nat.reduceEqDiff, ↓reduceIte, eq_self, g], contains_tri l _ (by ((try clear hh_i8); omega))⟩) ?_
  have ep : (decide ((l.length : Int) = (s.sh.length : Int)) && !(l.any badB)) = planB s l := by
    have e1 : (!(l.any badB)) = l.all fun t => decide (0 ≤ t) && decide (t ≤ 16) := by
      rw [Bool.eq_iff_iff]
      simp [badB]
    rw [e1, planB, Bool.and_comm]
    have : decide ((l.length : Int) = (s.sh.length : Int)) = decide (l.length = s.sh.length) := decide_eq_decide.2 (by ((try clear hh_i8); omega))
    rw [this]
  simp only [vsAll, unA, pickA, okAll, stAll, opsA, opA, guardV, dstOk, Nat.reduceLT, Nat.reduceEqDiff, ↓reduceIte, implies_true, eq_self]
  rw [ep]
  refine open_call kn (fun he => ?_) (fun k hv => ?_)
  · have eE : checkE s u l = errE s (planB s l) := if_neg he
    have eW : checkW s u l = 0 := by rw [checkW, if_neg (by rw [eE]; exact he)]
    have eR : checkR s u l = 0 := by rw [checkR, if_neg (by rw [eE]; exact he)]
    simp only [vsAll]
    refine ⟨errE s (planB s l), i8, _, rfl, rfl, by simp only [vsAll, ↓reduceIte, eq_self]; try rfl, ?_⟩
    simp only [vsAll, loadA, loadRow, partA, partOk, resA, retA.eq_2, Nat.reduceLT, Nat.reduceEqDiff, ↓reduceIte, eq_self, wtAll, Tryd.results17]
    refine dropR_pure ?_ (by (repeat (first | exact HSub_rfl | refine HSub_put_eq (by simp only [vsAll, binA, binLitA, intA, aggA, aggV, boolA, nilA2, isConst, unA, loadA, loadRow, partA, partOk, fieldAddrA, indexAddrA, indexA, fieldA, extractA, lenA, nilCheckA, boxA, boxZ, cellA, cellsA, fillA, okParts, buildSliceA, buildMutA, makeSliceA, partIdx, elemsA, lensA, ifaceA, convA, mmA, pickA, okAll, stAll, opsA, partsA, partsOk, opA, allocA, boxMutA, newCells, okCells, storeObj, appendA, guardV, taA, nM, mapUpA, lookA, sliceA, sliceS, boundsA, opO, okO, copyA, dstOk, nilA, quietOk, nilSliceOp, deferV, panA, resA, argFr, retA.eq_1, retA.eq_2, Nat.reduceAdd, Nat.reduceSub, Nat.reduceMul, Nat.reduceLT, Nat.reduceLeDiff, Nat.reduceEqDiff, Nat.reduceBEq, Int.reduceAdd, Int.reduceSub, Int.reduceMul, Int.reduceNeg, Int.reduceLE, Int.reduceLT, Int.reduceEq, Int.reduceNe, Int.reduceToNat, ↓reduceIte, reduceCtorEq, implies_true, forall_const, eq_self, ne_eq, wtAll, Tryd.ntmps17, Tryd.results17, hh_i8]) ?_ | refine HSub_drop2 (by simp only [eq_self, hh_i8]) ?_ | refine HSub_keep_eq (by simp only [vsAll, binA, binLitA, intA, aggA, aggV, boolA, nilA2, isConst, unA, loadA, loadRow, partA, partOk, fieldAddrA, indexAddrA, indexA, fieldA, extractA, lenA, nilCheckA, boxA, boxZ, cellA, cellsA, fillA, okParts, buildSliceA, buildMutA, makeSliceA, partIdx, elemsA, lensA, ifaceA, convA, mmA, pickA, okAll, stAll, opsA, partsA, partsOk, opA, allocA, boxMutA, newCells, okCells, storeObj, appendA, guardV, taA, nM, mapUpA, lookA, sliceA, sliceS, boundsA, opO, okO, copyA, dstOk, nilA, quietOk, nilSliceOp, deferV, panA, resA, argFr, retA.eq_1, retA.eq_2, Nat.reduceAdd, Nat.reduceSub, Nat.reduceMul, Nat.reduceLT, Nat.reduceLeDiff, Nat.reduceEqDiff, Nat.reduceBEq, Int.reduceAdd, Int.reduceSub, Int.reduceMul, Int.reduceNeg, Int.reduceLE, Int.reduceLT, Int.reduceEq, Int.reduceNe, Int.reduceToNat, ↓reduceIte, reduceCtorEq, implies_true, forall_const, eq_self, ne_eq, wtAll, Tryd.ntmps17, Tryd.results17, hh_i8]) ?_)))
    simp only [eq_self, eW, eR, eE, Int.natCast_zero]
  · have he : errE s (planB s l) = 0 := by rw [hv]; exact errE_ok k
    clear ep
    rw [planB, Bool.and_eq_true, decide_eq_true_eq, List.all_eq_true] at hv
    have hz : ∀ z ∈ l, 0 ≤ z ∧ z ≤ 16 := fun z hz => by simpa using hv.1 z hz
    have nS := k.nS
    simp only [vsAll, lenA, opA, dstOk, argFr, Nat.reduceLT, Nat.reduceEqDiff, ↓reduceIte, eq_self, wtAll]
    refine vs_loop (σ := Nat) (fun i => i ≤ l.length ∧ ∀ j, j < i → brT s u j (l.getD j 0) l = 0) (fun i => [(1, intsAV l), (8, .ref i8 0 1 0 0), (10, opP s u), (30, intsAV l), (31, i64 l.length), (32, i64 i)]) (fun _ => H.set i8 (.box 1 1 fun _ => [i64 0])) (fun i => l.length - i) 0 ⟨Nat.zero_le _, fun j hj => absurd hj (by ((try clear hh_i8); omega))⟩ ?_ ?_ fun i hi => ?_
    · simp only [vsAll, argFr, Nat.reduceEqDiff, ↓reduceIte, eq_self, Int.natCast_zero]
    · (repeat (first | exact HSub_rfl | refine HSub_put_eq (by simp only [vsAll, binA, binLitA, intA, aggA, aggV, boolA, nilA2, isConst, unA, loadA, loadRow, partA, partOk, fieldAddrA, indexAddrA, indexA, fieldA, extractA, lenA, nilCheckA, boxA, boxZ, cellA, cellsA, fillA, okParts, buildSliceA, buildMutA, makeSliceA, partIdx, elemsA, lensA, ifaceA, convA, mmA, pickA, okAll, stAll, opsA, partsA, partsOk, opA, allocA, boxMutA, newCells, okCells, storeObj, appendA, guardV, taA, nM, mapUpA, lookA, sliceA, sliceS, boundsA, opO, okO, copyA, dstOk, nilA, quietOk, nilSliceOp, deferV, panA, resA, argFr, retA.eq_1, retA.eq_2, Nat.reduceAdd, Nat.reduceSub, Nat.reduceMul, Nat.reduceLT, Nat.reduceLeDiff, Nat.reduceEqDiff, Nat.reduceBEq, Int.reduceAdd, Int.reduceSub, Int.reduceMul, Int.reduceNeg, Int.reduceLE, Int.reduceLT, Int.reduceEq, Int.reduceNe, Int.reduceToNat, ↓reduceIte, reduceCtorEq, implies_true, forall_const, eq_self, ne_eq, wtAll, Tryd.ntmps17, Tryd.results17, hh_i8]) ?_ | refine HSub_drop2 (by simp only [vsAll, binA, binLitA, intA, aggA, aggV, boolA, nilA2, isConst, unA, loadA, loadRow, partA, partOk, fieldAddrA, indexAddrA, indexA, fieldA, extractA, lenA, nilCheckA, boxA, boxZ, cellA, cellsA, fillA, okParts, buildSliceA, buildMutA, makeSliceA, partIdx, elemsA, lensA, ifaceA, convA, mmA, pickA, okAll, stAll, opsA, partsA, partsOk, opA, allocA, boxMutA, newCells, okCells, storeObj, appendA, guardV, taA, nM, mapUpA, lookA, sliceA, sliceS, boundsA, opO, okO, copyA, dstOk, nilA, quietOk, nilSliceOp, deferV, panA, resA, argFr, retA.eq_1, retA.eq_2, Nat.reduceAdd, Nat.reduceSub, Nat.reduceMul, Nat.reduceLT, Nat.reduceLeDiff, Nat.reduceEqDiff, Nat.reduceBEq, Int.reduceAdd, Int.reduceSub, Int.reduceMul, Int.reduceNeg, Int.reduceLE, Int.reduceLT, Int.reduceEq, Int.reduceNe, Int.reduceToNat, ↓reduceIte, reduceCtorEq, implies_true, forall_const, eq_self, ne_eq, wtAll, Tryd.ntmps17, Tryd.results17, hh_i8]) ?_ | refine HSub_keep_eq (by simp only [vsAll, binA, binLitA, intA, aggA, aggV, boolA, nilA2, isConst, unA, loadA, loadRow, partA, partOk, fieldAddrA, indexAddrA, indexA, fieldA, extractA, lenA, nilCheckA, boxA, boxZ, cellA, cellsA, fillA, okParts, buildSliceA, buildMutA, makeSliceA, partIdx, elemsA, lensA, ifaceA, convA, mmA, pickA, okAll, stAll, opsA, partsA, partsOk, opA, allocA, boxMutA, newCells, okCells, storeObj, appendA, guardV, taA, nM, mapUpA, lookA, sliceA, sliceS, boundsA, opO, okO, copyA, dstOk, nilA, quietOk, nilSliceOp, deferV, panA, resA, argFr, retA.eq_1, retA.eq_2, Nat.reduceAdd, Nat.reduceSub, Nat.reduceMul, Nat.reduceLT, Nat.reduceLeDiff, Nat.reduceEqDiff, Nat.reduceBEq, Int.reduceAdd, Int.reduceSub, Int.reduceMul, Int.reduceNeg, Int.reduceLE, Int.reduceLT, Int.reduceEq, Int.reduceNe, Int.reduceToNat, ↓reduceIte, reduceCtorEq, implies_true, forall_const, eq_self, ne_eq, wtAll, Tryd.ntmps17, Tryd.results17, hh_i8]) ?_))
    · obtain ⟨hi, hall⟩ := hi
      simp only [vsAll, binA, binLitA, intA, opA, dstOk, Nat.reduceLT, Nat.reduceEqDiff, ↓reduceIte, eq_self]
      refine condD (fun hd => ?_) (fun hd => ?_)
      · have hil : i < l.length := by ((try clear hh_i8); omega)
        have hlt : (l.take i).length = i := by rw [List.length_take]; ((try clear hh_i8); omega)
        have hbr : brT s u i (l.getD i 0) (l.take i) = brT s u i (l.getD i 0) l := brT_congr s u i _ _ _ fun j hj => getD_take l i j (by ((try clear hh_i8); omega))
        have hzi := hz _ (mem_getD l i 0 hil)
        have hb := fun H => byAmong_tri s u i (l.getD i 0) (l.take i) (bthL (tdA s u)) H k (by ((try clear hh_i8); omega)) (by ((try clear hh_i8); omega)) hlt (fun z hz2 => by have := hz z (List.mem_of_mem_take hz2); ((try clear hh_i8); omega))
        rw [hbr] at hb
        simp only [vsAll, loadA, loadRow, partA, partOk, indexAddrA, fillA, okParts, ifaceA, okAll, stAll, opsA, partsA, partsOk, opA, sliceA, sliceS, boundsA, opO, okO, dstOk, nilSliceOp, Nat.reduceLT, Nat.reduceEqDiff, ↓reduceIte, eq_self, wtAll, intF_at]
        refine ⟨⟨by ((try clear hh_i8); omega), by ((try clear hh_i8); omega)⟩, hil, ⟨by ((try clear hh_i8); omega), by ((try clear hh_i8); omega)⟩, ?_⟩
        refine callK_pure ((hb _).args rfl fun k hk => ?_) ?_
        · match k, hk with
          | 0, _ => exact AV.Le.refl _
          | 1, _ => exact AV.Le.refl _
          | 2, _ => exact AV.Le.refl _
          | 3, _ => exact AV.Le.refl _
          | 4, _ =>
            refine AV.Le.rsl' (by rw [hlt]; ((try clear hh_i8); omega)) fun q hq => ?_
            simp only [intF]
            rw [getD_take l i q (by ((try clear hh_i8); omega))]
        simp only [vsAll, binA, binLitA, intA, opA, dstOk, nilSliceOp, Nat.reduceLT, ↓reduceIte, eq_self]
        refine condV (fun hb2 => ?_) (fun hb2 => ?_)
        · have hne : ¬ brT s u i (l.getD i 0) l = 0 := by simpa using hb2
          have ho := ckO_some hil hne hall
          have eE : checkE s u l = 0 := by rw [checkE, if_pos he, ho]; rfl
          have eW : checkW s u l = i := by rw [checkW, if_pos eE, ho]; rfl
          have eR : checkR s u l = brT s u i (l.getD i 0) l := by rw [checkR, if_pos eE, eW]
          simp only [vsAll, cellA, cellsA, opA, newCells, okCells, storeObj, dstOk, nilSliceOp, Nat.reduceLT, Nat.reduceEqDiff, ↓reduceIte, eq_self, wtAll]
          refine Ent.ret ⟨i8, _, rfl, by simp only [vsAll, ↓reduceIte, eq_self]; try rfl, ?_⟩
          simp only [vsAll, loadA, loadRow, partA, partOk, resA, retA.eq_2, Nat.reduceLT, Nat.reduceEqDiff, ↓reduceIte, eq_self, wtAll, Tryd.results17]
          refine dropR_pure ?_ (by (repeat (first | exact HSub_rfl | refine HSub_put_eq (by simp only [vsAll, binA, binLitA, intA, aggA, aggV, boolA, nilA2, isConst, unA, loadA, loadRow, partA, partOk, fieldAddrA, indexAddrA, indexA, fieldA, extractA, lenA, nilCheckA, boxA, boxZ, cellA, cellsA, fillA, okParts, buildSliceA, buildMutA, makeSliceA, partIdx, elemsA, lensA, ifaceA, convA, mmA, pickA, okAll, stAll, opsA, partsA, partsOk, opA, allocA, boxMutA, newCells, okCells, storeObj, appendA, guardV, taA, nM, mapUpA, lookA, sliceA, sliceS, boundsA, opO, okO, copyA, dstOk, nilA, quietOk, nilSliceOp, deferV, panA, resA, argFr, retA.eq_1, retA.eq_2, Nat.reduceAdd, Nat.reduceSub, Nat.reduceMul, Nat.reduceLT, Nat.reduceLeDiff, Nat.reduceEqDiff, Nat.reduceBEq, Int.reduceAdd, Int.reduceSub, Int.reduceMul, Int.reduceNeg, Int.reduceLE, Int.reduceLT, Int.reduceEq, Int.reduceNe, Int.reduceToNat, ↓reduceIte, reduceCtorEq, implies_true, forall_const, eq_self, ne_eq, wtAll, Tryd.ntmps17, Tryd.results17, hh_i8]) ?_ | refine HSub_drop2 (by simp only [eq_self, hh_i8]) ?_ | refine HSub_keep_eq (by simp only [vsAll, binA, binLitA, intA, aggA, aggV, boolA, nilA2, isConst, unA, loadA, loadRow, partA, partOk, fieldAddrA, indexAddrA, indexA, fieldA, extractA, lenA, nilCheckA, boxA, boxZ, cellA, cellsA, fillA, okParts, buildSliceA, buildMutA, makeSliceA, partIdx, elemsA, lensA, ifaceA, convA, mmA, pickA, okAll, stAll, opsA, partsA, partsOk, opA, allocA, boxMutA, newCells, okCells, storeObj, appendA, guardV, taA, nM, mapUpA, lookA, sliceA, sliceS, boundsA, opO, okO, copyA, dstOk, nilA, quietOk, nilSliceOp, deferV, panA, resA, argFr, retA.eq_1, retA.eq_2, Nat.reduceAdd, Nat.reduceSub, Nat.reduceMul, Nat.reduceLT, Nat.reduceLeDiff, Nat.reduceEqDiff, Nat.reduceBEq, Int.reduceAdd, Int.reduceSub, Int.reduceMul, Int.reduceNeg, Int.reduceLE, Int.reduceLT, Int.reduceEq, Int.reduceNe, Int.reduceToNat, ↓reduceIte, reduceCtorEq, implies_true, forall_const, eq_self, ne_eq, wtAll, Tryd.ntmps17, Tryd.results17, hh_i8]) ?_)))
          simp only [eq_self, eE, eW, eR]
        · have hz0 : brT s u i (l.getD i 0) l = 0 := by simpa using hb2
          simp only [vsAll, binA, binLitA, intA, opA, dstOk, Nat.reduceLT, Nat.reduceEqDiff, ↓reduceIte, eq_self]
          refine ⟨by simp only [InR_i64]; ((try clear hh_i8); omega), loop_next (i + 1) ⟨by ((try clear hh_i8); omega), fun j hj => ?_⟩ (by ((try clear hh_i8); omega)) ?_ HSub_rfl⟩
          · by_cases e : j = i
            · rw [e]; exact hz0
            · exact hall j (by ((try clear hh_i8); omega))
          · simp only [vsAll, Nat.reduceEqDiff, ↓reduceIte, eq_self, Int.natCast_add, Int.natCast_one]
      · have ei : i = l.length := by ((try clear hh_i8); omega)
        have ho : ckO s u l = none := ckO_none fun j hj => hall j (by ((try clear hh_i8); omega))
        have eE : checkE s u l = 4 := by rw [checkE, if_pos he, ho]; rfl
        have eW : checkW s u l = 0 := by rw [checkW, if_neg (by rw [eE]; decide)]
        have eR : checkR s u l = 0 := by rw [checkR, if_neg (by rw [eE]; decide)]
        simp only [vsAll, cellA, cellsA, opA, newCells, okCells, storeObj, dstOk, nilSliceOp, Nat.reduceLT, Nat.reduceEqDiff, ↓reduceIte, eq_self, wtAll]
        refine Ent.ret ⟨i8, _, rfl, by simp only [vsAll, ↓reduceIte, eq_self]; try rfl, ?_⟩
        simp only [vsAll, loadA, loadRow, partA, partOk, resA, retA.eq_2, Nat.reduceLT, Nat.reduceEqDiff, ↓reduceIte, eq_self, wtAll, Tryd.results17]
        refine dropR_pure ?_ (by (repeat (first | exact HSub_rfl | refine HSub_put_eq (by simp only [vsAll, binA, binLitA, intA, aggA, aggV, boolA, nilA2, isConst, unA, loadA, loadRow, partA, partOk, fieldAddrA, indexAddrA, indexA, fieldA, extractA, lenA, nilCheckA, boxA, boxZ, cellA, cellsA, fillA, okParts, buildSliceA, buildMutA, makeSliceA, partIdx, elemsA, lensA, ifaceA, convA, mmA, pickA, okAll, stAll, opsA, partsA, partsOk, opA, allocA, boxMutA, newCells, okCells, storeObj, appendA, guardV, taA, nM, mapUpA, lookA, sliceA, sliceS, boundsA, opO, okO, copyA, dstOk, nilA, quietOk, nilSliceOp, deferV, panA, resA, argFr, retA.eq_1, retA.eq_2, Nat.reduceAdd, Nat.reduceSub, Nat.reduceMul, Nat.reduceLT, Nat.reduceLeDiff, Nat.reduceEqDiff, Nat.reduceBEq, Int.reduceAdd, Int.reduceSub, Int.reduceMul, Int.reduceNeg, Int.reduceLE, Int.reduceLT, Int.reduceEq, Int.reduceNe, Int.reduceToNat, ↓reduceIte, reduceCtorEq, implies_true, forall_const, eq_self, ne_eq, wtAll, Tryd.ntmps17, Tryd.results17, hh_i8]) ?_ | refine HSub_drop2 (by simp only [eq_self, hh_i8]) ?_ | refine HSub_keep_eq (by simp only [vsAll, binA, binLitA, intA, aggA, aggV, boolA, nilA2, isConst, unA, loadA, loadRow, partA, partOk, fieldAddrA, indexAddrA, indexA, fieldA, extractA, lenA, nilCheckA, boxA, boxZ, cellA, cellsA, fillA, okParts, buildSliceA, buildMutA, makeSliceA, partIdx, elemsA, lensA, ifaceA, convA, mmA, pickA, okAll, stAll, opsA, partsA, partsOk, opA, allocA, boxMutA, newCells, okCells, storeObj, appendA, guardV, taA, nM, mapUpA, lookA, sliceA, sliceS, boundsA, opO, okO, copyA, dstOk, nilA, quietOk, nilSliceOp, deferV, panA, resA, argFr, retA.eq_1, retA.eq_2, Nat.reduceAdd, Nat.reduceSub, Nat.reduceMul, Nat.reduceLT, Nat.reduceLeDiff, Nat.reduceEqDiff, Nat.reduceBEq, Int.reduceAdd, Int.reduceSub, Int.reduceMul, Int.reduceNeg, Int.reduceLE, Int.reduceLT, Int.reduceEq, Int.reduceNe, Int.reduceToNat, ↓reduceIte, reduceCtorEq, implies_true, forall_const, eq_self, ne_eq, wtAll, Tryd.ntmps17, Tryd.results17, hh_i8]) ?_)))
        simp only [eq_self, eW, eR, eE, Int.natCast_zero]
end Go.Proofs.YtnmgegodkmgdeaaDoor
end
section
set_option linter.unusedVariables false
set_option linter.unusedSimpArgs false
namespace Go.Proofs.YtnmgegodkmgdeaaDoor
open Go.V
/-- The numbers of a set. -/
def bitsL (n : Nat) : List Nat := (List.range 64).filter fun j => n.testBit j
theorem mem_bits {n j : Nat} (h : n < 2 ^ 64) : j ∈ bitsL n ↔ n.testBit j = true := by
  simp only [bitsL, List.mem_filter, List.mem_range]
  refine ⟨fun h => h.2, fun hj => ⟨?_, hj⟩⟩
  have := Nat.ge_two_pow_of_testBit hj
  apply Nat.lt_of_not_le
  intro hle
  have : 2 ^ 64 ≤ 2 ^ j := Nat.pow_le_pow_right (by decide) hle
  omega
theorem bitsL_zero : bitsL 0 = [] := by simp [bitsL]
theorem filter_head {l : List Nat} {c : Nat} {p : Nat → Bool} (hs : l.Pairwise (· < ·)) (hc : c ∈ l) (hp : p c = true) (hlo : ∀ j, j < c → p j = false) : l.filter p = c :: l.filter fun j => p j && !decide (j = c) := by
  induction l with
  | nil => cases hc
  | cons a l ih =>
    rw [List.pairwise_cons] at hs
    rcases List.mem_cons.1 hc with rfl | hm
    · have e : l.filter p = l.filter fun j => p j && !decide (j = c) := List.filter_congr fun j hj => by
        have : ¬ j = c := by have := hs.1 j hj; omega
        simp [this]
      simp [hp, e]
    · have hlt := hs.1 c hm
      have hpa := hlo a hlt
      rw [List.filter_cons, hpa, if_neg (by decide), ih hs.2 hm, List.filter_cons, hpa, Bool.false_and, if_neg (by decide)]
theorem low_odd (k m j : Nat) : ((2 ^ k * (2 * m + 1)) &&& (2 ^ k * (2 * m + 1) - 1)).testBit j = ((2 ^ k * (2 * m + 1)).testBit j && !decide (j = k)) := by
  have hp : 0 < 2 ^ k := Nat.pow_pos (by decide)
  have e1 : 2 ^ k * (2 * m + 1) - 1 = (2 ^ k - 1) + 2 ^ k * (2 * m) := by
    rw [Nat.mul_add, Nat.mul_one]; omega
  rw [Nat.testBit_and]
  by_cases h : j < k
  · rw [Nat.mul_comm (2 ^ k), Nat.testBit_mul_two_pow]
    simp [Nat.not_le.2 h]
  · obtain ⟨i, rfl⟩ : ∃ i, j = k + i := ⟨j - k, by omega⟩
    have e2 : (2 ^ k * (2 * m + 1) - 1).testBit (k + i) = (2 * m).testBit i := by
      rw [e1, Nat.add_comm, Nat.testBit_two_pow_mul_add _ (by omega), if_neg (by omega)]
      congr 1; omega
    have e3 : (2 ^ k * (2 * m + 1)).testBit (k + i) = (2 * m + 1).testBit i := by
      rw [Nat.mul_comm, Nat.testBit_mul_two_pow]
      simp
    rw [e2, e3]
    cases i with
    | zero => simp [Nat.testBit_zero]
    | succ i =>
      rw [Nat.testBit_succ, Nat.testBit_succ]
      have d1 : (2 * m + 1) / 2 = m := by omega
      have d2 : 2 * m / 2 = m := by omega
      rw [d1, d2]
      have : ¬ k + (i + 1) = k := by omega
      simp [this]
theorem bitsL_step (x : Nat) (h0 : x ≠ 0) (hx : x < 2 ^ 64) : bitsL x = Lib.ctz 64 x :: bitsL (x &&& (x - 1)) ∧ Lib.ctz 64 x < 64 ∧ x.testBit (Lib.ctz 64 x) = true := by
  obtain ⟨m, hm, hk⟩ := Lib.ctzFrom_spec 64 x (by omega) hx
  have ec : Lib.ctz 64 x = Lib.ctzFrom 64 x := if_neg h0
  rw [ec]
  generalize Lib.ctzFrom 64 x = k at hm hk
  have hb : x.testBit k = true := by
    rw [hm, Nat.mul_comm, Nat.testBit_mul_two_pow]
    simp [Nat.testBit_zero]
  have hlo : ∀ j, j < k → x.testBit j = false := fun j hj => by
    rw [hm, Nat.mul_comm, Nat.testBit_mul_two_pow]
    simp [Nat.not_le.2 hj]
  refine ⟨?_, hk, hb⟩
  unfold bitsL
  rw [filter_head (c := k) List.pairwise_lt_range (List.mem_range.2 hk) hb hlo]
  congr 1
  refine List.filter_congr fun j _ => ?_
  rw [hm, low_odd]
theorem and_lt' (x : Nat) (h0 : x ≠ 0) : x &&& (x - 1) < x := by
  have : x &&& (x - 1) ≤ x - 1 := Nat.and_le_right
  omega
theorem bitsL_sorted (x : Nat) : (bitsL x).Pairwise (· < ·) := List.pairwise_lt_range.sublist List.filter_sublist
end Go.Proofs.YtnmgegodkmgdeaaDoor
end
section
set_option linter.unusedVariables false
set_option linter.unusedSimpArgs false
set_option maxHeartbeats 4000000
set_option maxRecDepth 100000
namespace Go.Proofs.YtnmgegodkmgdeaaDoor
open Go.V
theorem tz_tri (x : Nat) (H : Hp) (hx0 : x ≠ 0) (hx : x < 18446744073709551616) : PTri Tryd.prog (fnA 89) [u64 (x : Nat)] H (i64 (Lib.ctz 64 x : Nat)) := by
  refine tri_v0 (fun _ => false) Tryd.func89 (by kernel_rfl) rfl (by simp only [List.length_append, List.length_cons, List.length_nil, Tryd.ntmps89]; decide) ?_
  simp only [vsAll, okAll, stAll, opsA, opA, dstOk, nilSliceOp, argFr, Nat.reduceLT, ↓reduceIte, reduceCtorEq, eq_self, Tryd.ntmps89]
  refine callK_pure (tz64_tri x _ hx0 hx) ?_
  simp only [vsAll, opA, dstOk, nilSliceOp, resA, retA.eq_1, Nat.reduceLT, ↓reduceIte, eq_self, Tryd.results89]
abbrev allF (x : Nat) : AV := .func (.func 88) [] [.rptr 1 1 (fun _ => [u64 (x : Nat)]) 0 0]
theorem all_tri (x : Nat) (H : Hp) : PTri Tryd.prog (fnA 69) [u64 (x : Nat)] H (allF x) := by
  refine tri_v0 (fun _ => false) Tryd.func69 (by kernel_rfl) rfl (by simp only [List.length_append, List.length_cons, List.length_nil, Tryd.ntmps69]; decide) ?_
  simp only [vsAll, boxA, boxZ, cellA, okAll, stAll, opsA, opA, dstOk, nilSliceOp, resA, argFr, retA.eq_1, Nat.reduceLT, Nat.reduceEqDiff, ↓reduceIte, eq_self, wtAll, Tryd.ntmps69, Tryd.results69]
def bitsA (x : Nat) : List (List AV) := (bitsL x).map fun j : Nat => [i64 (j : Nat)]
theorem bitsA_zero : bitsA 0 = [] := by rw [bitsA, bitsL_zero]; rfl
theorem bitsA_step (x : Nat) (h0 : x ≠ 0) (hx : x < 2 ^ 64) : bitsA x = [i64 (Lib.ctz 64 x : Nat)] :: bitsA (x &&& (x - 1)) := by
  rw [bitsA, (bitsL_step x h0 hx).1]; rfl
theorem all1_tri (x : Nat) (hx : x < 18446744073709551616) (yf : Fn) (H : Hp) (Pre K : Hp → Prop)
    (hit : Iter Tryd.prog (.func yf [] []) Pre (bitsA x) H K) :
    Tri Tryd.prog (allF x) [.func yf [] []] H fun r H' => (∃ v, r = .ret v) ∧ K H' := by
  refine tri_v0 (fun _ => false) Tryd.func88 (by kernel_rfl) rfl (by simp only [List.length_append, List.length_cons, List.length_nil, Tryd.ntmps88]; decide) ?_
  simp only [vsAll, loadA, loadRow, partA, partOk, opA, dstOk, nilSliceOp, argFr, Nat.reduceLT, ↓reduceIte, eq_self, wtAll, Tryd.ntmps88]
  refine vs_loop (σ := Nat × Hp) (fun y => y.1 < 18446744073709551616 ∧ Iter Tryd.prog (.func yf [] []) Pre (bitsA y.1) y.2 K)
    (fun y => [(0, .func yf [] []), (1, .rptr 1 1 (fun _ => [u64 (x : Nat)]) 0 0), (3, u64 (y.1 : Nat))]) (fun y => y.2) (fun y => y.1) (x, H) ⟨hx, hit⟩ ?_ (HSub.refl _) fun y hy => ?_
  · simp only [vsAll, argFr, Nat.reduceEqDiff, ↓reduceIte, reduceCtorEq, eq_self]
  · obtain ⟨z, H'⟩ := y
    obtain ⟨hz, hy⟩ := hy
    simp only [] at hz hy
    simp only [vsAll, binA, binLitA, intA, opA, dstOk, Nat.reduceLT, Nat.reduceEqDiff, ↓reduceIte, reduceCtorEq, eq_self]
    refine condV (fun hc => ?_) (fun hc => ?_)
    · have h0 : z ≠ 0 := by
        intro e; subst e; simp at hc
      have hl := (bitsL_step z h0 hz).2.1
      rw [bitsA_step z h0 hz] at hy
      simp only [vsAll, okAll, stAll, opsA, opA, dstOk, Nat.reduceLT, Nat.reduceEqDiff, ↓reduceIte, reduceCtorEq, eq_self]
      refine callK_pure (tz_tri z _ h0 hz) ?_
      simp only [vsAll, okAll, stAll, opsA, opA, dstOk, Nat.reduceLT, Nat.reduceEqDiff, ↓reduceIte, eq_self]
      refine callK hy.2 ?_
      rintro r H'' (⟨rfl, hr⟩ | ⟨rfl, hr⟩)
      · have e1 : ((z : Int) - 1).toNat = z - 1 := by omega
        have hlt := and_lt' z h0
        simp only [vsAll, binA, binLitA, intA, unA, opA, dstOk, nilSliceOp, Nat.reduceLT, Nat.reduceEqDiff, ↓reduceIte, reduceCtorEq, eq_self, e1]
        refine ⟨by simp only [InR_u64]; omega, ⟨by omega, by omega, by simp only [InR_u64]; omega, by simp only [InR_u64]; omega⟩, loop_next (z &&& (z - 1), H'') ⟨by simp only []; omega, hr⟩ hlt ?_ (HSub.refl _)⟩
        simp only [vsAll, Nat.reduceEqDiff, ↓reduceIte, reduceCtorEq, eq_self]
      · simp only [vsAll, unA, opA, dstOk, resA, retA.eq_2, Nat.reduceLT, ↓reduceIte, eq_self, Tryd.results88]
        exact ⟨⟨_, rfl⟩, hr⟩
    · have h0 : z = 0 := by simpa using hc
      subst h0
      rw [bitsA_zero] at hy
      simp only [vsAll, resA, retA.eq_2, ↓reduceIte, eq_self, Tryd.results88]
      exact ⟨⟨_, rfl⟩, hy⟩
end Go.Proofs.YtnmgegodkmgdeaaDoor
end
section
set_option linter.unusedVariables false
set_option linter.unusedSimpArgs false
namespace Go.Proofs.YtnmgegodkmgdeaaDoor
open Go.V
theorem bitsL_len {m : Nat} (h : m < 2 ^ 16) : (bitsL m).length ≤ 16 := by
  have e : bitsL m = (List.range 16).filter fun j => m.testBit j := by
    unfold bitsL
    rw [show (64 : Nat) = 16 + 48 from rfl, List.range_add, List.filter_append]
    have : ((List.range 48).map (16 + ·)).filter (fun j => m.testBit j) = [] := by
      rw [List.filter_eq_nil_iff]
      intro j hj
      obtain ⟨i, _, rfl⟩ := List.mem_map.1 hj
      have : m < 2 ^ (16 + i) := Nat.lt_of_lt_of_le h (Nat.pow_le_pow_right (by decide) (by omega))
      simp [Nat.testBit_lt_two_pow this]
    rw [this, List.append_nil]
  rw [e]
  have := List.length_filter_le (fun j => m.testBit j) (List.range 16)
  simpa using this
theorem bitsL_lt {m j : Nat} (h : m < 2 ^ 16) (hj : j ∈ bitsL m) : j < 16 := by
  have hb := (mem_bits (by omega)).1 hj
  have := Nat.ge_two_pow_of_testBit hb
  apply Nat.lt_of_not_le
  intro hle
  have : 2 ^ 16 ≤ 2 ^ j := Nat.pow_le_pow_right (by decide) hle
  omega
/-- What find looks at: ships, their tides, and what is counted. -/
structure Fi where
  N : Nat
  may : Nat → Nat
  fr : Nat → Int
  td : Nat → Int
  e0 : Int
  step : Int → Int → Int
  join : Int → Int → Int
def Fi.con (x : Fi) (f : Nat → Int → Option Int) (had : Nat) (free : Int) (i t : Nat) : Option Int :=
  if (t : Int) < free then none else (f (had ||| 2 ^ i) (t + x.td i)).map (x.step (t - x.fr i))
def Fi.rowF (x : Fi) (f : Nat → Int → Option Int) (had : Nat) (free : Int) (i : Nat) (acc : Option Int) (l : List Nat) : Option Int :=
  l.foldl (fun z t => comb x.join z (x.con f had free i t)) acc
def Fi.shpF (x : Fi) (f : Nat → Int → Option Int) (had : Nat) (free : Int) (l : List Nat) : Option Int :=
  l.foldl (fun z i => if had.testBit i = true then z else x.rowF f had free i z (bitsL (x.may i))) none
/-- Found of all orders of as many ships. -/
def Fi.fd (x : Fi) : Nat → Nat → Int → Option Int
  | 0, _, _ => some x.e0
  | n + 1, had, free => x.shpF (Fi.fd x n) had free (List.range x.N)
/-- How many ships have not had the slip. -/
def cnt (N had : Nat) : Nat := ((List.range N).filter fun i => !had.testBit i).length
theorem cnt_zero {N had : Nat} (h : had < 2 ^ N) : cnt N had = 0 ↔ had = 2 ^ N - 1 := by
  unfold cnt
  rw [List.length_eq_zero_iff, List.filter_eq_nil_iff]
  simp only [List.mem_range, Bool.not_eq_true', Bool.not_eq_false]
  constructor
  · intro h1
    apply Nat.eq_of_testBit_eq
    intro j
    rw [Nat.testBit_two_pow_sub_one]
    by_cases hj : j < N
    · rw [h1 j hj]; simp [hj]
    · have : had < 2 ^ j := Nat.lt_of_lt_of_le h (Nat.pow_le_pow_right (by decide) (by omega))
      rw [Nat.testBit_lt_two_pow this]; simp [hj]
  · rintro rfl j hj
    rw [Nat.testBit_two_pow_sub_one]; simp [hj]
theorem filter_drop {l : List Nat} {i : Nat} {p : Nat → Bool} (hs : l.Nodup) (hi : i ∈ l) (hp : p i = true) : (l.filter p).length = (l.filter fun j => p j && !decide (j = i)).length + 1 := by
  induction l with
  | nil => cases hi
  | cons a l ih =>
    rw [List.nodup_cons] at hs
    rcases List.mem_cons.1 hi with rfl | hm
    · have e : l.filter p = l.filter fun j => p j && !decide (j = i) := List.filter_congr fun j hj => by
        have : ¬ j = i := fun e => hs.1 (e ▸ hj)
        simp [this]
      simp [hp, e]
    · have hne : ¬ a = i := fun e => hs.1 (e ▸ hm)
      have := ih hs.2 hm
      simp only [List.filter_cons]
      cases hpa : p a
      · simp [this]
      · simp [hne, this]
theorem or_test (had i j : Nat) : (had ||| 2 ^ i).testBit j = (had.testBit j || decide (j = i)) := by
  rw [Nat.testBit_or, Nat.testBit_two_pow]
  have : decide (i = j) = decide (j = i) := decide_eq_decide.2 ⟨Eq.symm, Eq.symm⟩
  rw [this]
theorem cnt_or {N had i : Nat} (hi : i < N) (h : had.testBit i = false) : cnt N had = cnt N (had ||| 2 ^ i) + 1 := by
  unfold cnt
  rw [filter_drop (i := i) List.nodup_range (List.mem_range.2 hi) (by simp [h])]
  congr 2
  refine List.filter_congr fun j _ => ?_
  rw [or_test, Bool.not_or]
theorem or_full {N had i : Nat} (hi : i < N) (h : had < 2 ^ N) : had ||| 2 ^ i < 2 ^ N := Nat.or_lt_two_pow h (Nat.pow_lt_pow_right (by decide) hi)
theorem cnt_le (N had : Nat) : cnt N had ≤ N := by
  have := List.length_filter_le (fun i => !had.testBit i) (List.range N)
  rw [List.length_range] at this
  exact this

structure Fi.Vd (x : Fi) (V : Nat → Nat → Int → Prop) : Prop where
  up : ∀ n j k a, j ≤ k → V n j a → V n k a
  hE : V 0 1 x.e0
  hM : ∀ (n k : Nat) (w r : Int), -16 ≤ w → w ≤ 16 → V n k r → V (n + 1) k (x.step w r)
  hJ : ∀ n j k a b, V n j a → V n k b → V n (j + k) (x.join a b)
structure Fi.Bd (x : Fi) : Prop where
  n : x.N ≤ 5
  may : ∀ i, x.may i < 2 ^ 16
  fr : ∀ i, 0 ≤ x.fr i ∧ x.fr i ≤ 16
def VO (V : Nat → Nat → Int → Prop) (n k : Nat) (o : Option Int) : Prop := ∀ r, o = some r → V n k r
theorem VO.none {V : Nat → Nat → Int → Prop} {n k : Nat} : VO V n k none := fun r h => by cases h
section
variable {x : Fi} {V : Nat → Nat → Int → Prop}
theorem VO.up (h : x.Vd V) {n j k : Nat} {o : Option Int} (hjk : j ≤ k) (ho : VO V n j o) : VO V n k o := fun r hr => h.up _ _ _ _ hjk (ho r hr)
theorem VO.comb (h : x.Vd V) {n j k : Nat} {a b : Option Int} (ha : VO V n j a) (hb : VO V n k b) : VO V n (j + k) (comb x.join a b) := by
  intro r hr
  cases a with
  | none => exact h.up _ _ _ _ (by omega) (hb r hr)
  | some a =>
    cases b with
    | none => exact h.up _ _ _ _ (by omega) (ha r hr)
    | some b =>
      simp only [Go.V.comb, Option.some.injEq] at hr
      subst hr
      exact h.hJ _ _ _ _ _ (ha _ rfl) (hb _ rfl)
theorem con_V (h : x.Vd V) (hb : x.Bd) {f : Nat → Int → Option Int} {n w : Nat} (hf : ∀ a b, VO V n w (f a b)) (had : Nat) (free : Int) (i : Nat) {t : Nat} (ht : t < 16) : VO V (n + 1) w (x.con f had free i t) := by
  intro r hr
  unfold Fi.con at hr
  split at hr
  · cases hr
  · cases hq : f (had ||| 2 ^ i) (t + x.td i) with
    | none => rw [hq] at hr; cases hr
    | some q =>
      rw [hq] at hr
      simp only [Option.map_some, Option.some.injEq] at hr
      subst hr
      have := hb.fr i
      exact h.hM _ _ _ _ (by omega) (by omega) (hf _ _ q hq)
theorem row_V (h : x.Vd V) (hb : x.Bd) {f : Nat → Int → Option Int} {n w : Nat} (hf : ∀ a b, VO V n w (f a b)) (had : Nat) (free : Int) (i : Nat) : ∀ (l : List Nat) (acc : Option Int) (k : Nat), (∀ t ∈ l, t < 16) → VO V (n + 1) k acc → VO V (n + 1) (k + l.length * w) (x.rowF f had free i acc l) := by
  intro l
  induction l with
  | nil => intro acc k _ ha; simpa [Fi.rowF] using ha
  | cons t l ih =>
    intro acc k hl ha
    have := ih _ (k + w) (fun q hq => hl q (by simp [hq])) (VO.comb h ha (con_V h hb hf had free i (hl t (by simp))))
    refine VO.up h ?_ this
    rw [List.length_cons, Nat.succ_mul]
    omega
theorem row_take (x : Fi) (f : Nat → Int → Option Int) (had : Nat) (free : Int) (i : Nat) (acc : Option Int) (l : List Nat) (j : Nat) (hj : j < l.length) :
    x.rowF f had free i acc (l.take (j + 1)) = comb x.join (x.rowF f had free i acc (l.take j)) (x.con f had free i (l.getD j 0)) := by
  have e : l.take (j + 1) = l.take j ++ [l.getD j 0] := by
    rw [List.take_add_one, List.getD_eq_getElem?_getD, List.getElem?_eq_getElem hj]; rfl
  rw [e]
  simp only [Fi.rowF, List.foldl_append, List.foldl_cons, List.foldl_nil]
theorem shp_succ (x : Fi) (f : Nat → Int → Option Int) (had : Nat) (free : Int) (i : Nat) :
    x.shpF f had free (List.range (i + 1)) = if had.testBit i = true then x.shpF f had free (List.range i) else x.rowF f had free i (x.shpF f had free (List.range i)) (bitsL (x.may i)) := by
  rw [List.range_succ]
  simp only [Fi.shpF, List.foldl_append, List.foldl_cons, List.foldl_nil]
theorem shp_V (h : x.Vd V) (hb : x.Bd) {f : Nat → Int → Option Int} {n w : Nat} (hf : ∀ a b, VO V n w (f a b)) (had : Nat) (free : Int) : ∀ i, VO V (n + 1) (i * (16 * w)) (x.shpF f had free (List.range i)) := by
  intro i
  induction i with
  | zero => exact VO.none
  | succ i ih =>
    rw [shp_succ]
    split
    · exact VO.up h (Nat.mul_le_mul_right _ (Nat.le_succ i)) ih
    · refine VO.up h ?_ (row_V h hb hf had free i (bitsL (x.may i)) _ _ (fun t ht => bitsL_lt (hb.may i) ht) ih)
      have := Nat.mul_le_mul_right w (bitsL_len (hb.may i))
      rw [Nat.succ_mul i]
      exact Nat.add_le_add_left this _
theorem fd_V (h : x.Vd V) (hb : x.Bd) : ∀ n had free, VO V n (80 ^ n) (x.fd n had free) := by
  intro n
  induction n with
  | zero => intro had free r hr; cases hr; exact h.hE
  | succ n ih =>
    intro had free
    have := shp_V h hb ih had free x.N
    refine VO.up h ?_ this
    have h5 := Nat.mul_le_mul_right (16 * 80 ^ n) hb.n
    rw [Nat.pow_succ]
    omega
end
end Go.Proofs.YtnmgegodkmgdeaaDoor
end
section
set_option linter.unusedVariables false
set_option linter.unusedSimpArgs false
set_option maxHeartbeats 4000000
set_option maxRecDepth 100000
namespace Go.Proofs.YtnmgegodkmgdeaaDoor
open Go.V
theorem mapZ119 : mapZ Tryd.prog 119 = some (.agg #[.int .i64 0, .bool false]) := by kernel_rfl
theorem und119 : Program.underlying Tryd.prog 119 = some (.map 94 122) := by kernel_rfl
theorem key94 : Maps.Keyed Tryd.prog 94 := Maps.Keyed.of_law (deep_law_laid (by kernel_rfl) (m := 10) (by decide) (by decide +kernel) (by kernel_rfl) (by kernel_rfl))
/-- A state, as a key. -/
abbrev stV (a b : Int) : Value := .agg #[.int .i64 a, .int .i64 b]
theorem stK (a b : Int) (ha : -1000 ≤ a ∧ a ≤ 1000) (hb : -1000 ≤ b ∧ b ≤ 1000) : ∃ l, keyOf Tryd.prog 94 (stV a b) = some l := by
  have := keyOf_intsJ (P := Tryd.prog) (k := 94) (d := 5) (n := 2) (by kernel_rfl) (by decide +kernel) (by kernel_rfl) (by kernel_rfl) (l := [a, b]) rfl (by kernel_rfl) (by
    intro x hx
    have : x = a ∨ x = b := by simpa using hx
    exact wf_i64 (by simp only [InR_i64]; rcases this with rfl | rfl <;> omega))
  exact this
abbrev knV (o : Option Int) : Value := .agg #[.int .i64 (o.getD 0), .bool o.isSome]
abbrev knA (o : Option Int) : AV := .tuple [i64 (o.getD 0), boo o.isSome]
/-- What find looks at, for a slip. -/
def fiS (s : Sl) (may : Nat → Nat) (e0 : Int) (step join : Int → Int → Int) : Fi := ⟨s.sh.length, may, fun i => (s.sh.getD i sh0).fr, fun i => (s.sh.getD i sh0).td, e0, step, join⟩
/-- What is kept of what was found. -/
def memT (x : Fi) : Value → Value → Prop := fun k v => ∃ (had : Nat) (free : Int), had < 2 ^ x.N ∧ (-100 ≤ free ∧ free ≤ 100) ∧ k = stV had free ∧ v = knV (x.fd (cnt x.N had) had free)
/-- What is counted, and what its functions do. -/
structure Gol (x : Fi) (fs fj : Fn) (cs cj : List AV) where
  V : Nat → Nat → Int → Prop
  vd : x.Vd V
  tM : ∀ (n k : Nat) (w r : Int) (H : Hp), n < 6 → k ≤ 2 ^ 40 → -16 ≤ w → w ≤ 16 → V n k r → PTri Tryd.prog (.func fs [] cs) [i64 w, i64 r] H (i64 (x.step w r))
  tJ : ∀ (n j k : Nat) (a b : Int) (H : Hp), n ≤ 6 → j + k ≤ 2 ^ 40 → V n j a → V n k b → PTri Tryd.prog (.func fj [] cj) [i64 a, i64 b] H (i64 (x.join a b))
abbrev onF (s : Sl) (u : Bool) (m : Nat → Nat) (e0 : Int) (fs fj : Fn) (cs cj : List AV) (i3 i5 : Nat) : AV :=
  .func (.func 82) [] [.rptr 1 1 (fun _ => [opP s u]) 0 0, .rptr 1 3 (fun _ => [i64 e0, .func fs [] cs, .func fj [] cj]) 0 0, .ref i3 0 1 0 0, .rptr 5 1 (bthF m) 0 0, .ref i5 0 1 0 0]
theorem memT_key {x : Fi} {k v : Value} (hb : x.N ≤ 5) (h : memT x k v) : ∃ l, keyOf Tryd.prog 94 k = some l := by
  obtain ⟨had, free, h1, h2, rfl, _⟩ := h
  have : 2 ^ x.N ≤ 2 ^ 5 := Nat.pow_le_pow_right (by decide) hb
  exact stK had free (by omega) (by omega)
theorem bits_get {m i : Nat} {v : List AV} (h : (bitsA m)[i]? = some v) : i < (bitsL m).length ∧ v = [i64 ((bitsL m).getD i 0 : Nat)] := by
  rw [bitsA, List.getElem?_map] at h
  cases hq : (bitsL m)[i]? with
  | none => rw [hq] at h; cases h
  | some p =>
    rw [hq] at h
    simp only [Option.map_some, Option.some.injEq] at h
    subst h
    refine ⟨(List.getElem?_eq_some_iff.1 hq).1, ?_⟩
    rw [List.getD_eq_getElem?_getD, hq]; rfl
theorem bits_one {m : Nat} : ∀ v ∈ bitsA m, v.length = (#[62] : Array Nat).size := by
  intro v hv
  obtain ⟨p, _, rfl⟩ := List.mem_map.1 hv
  rfl
theorem fiS_bd {s : Sl} (k : Ok s) {m : Nat → Nat} (hm : ∀ i, m i < 2 ^ 16) (e0 : Int) (step join : Int → Int → Int) : (fiS s m e0 step join).Bd :=
  ⟨k.nS, hm, fun i => by
    by_cases h : i < s.sh.length
    · exact (k.s i h).1
    · have : s.sh.getD i sh0 = sh0 := by rw [List.getD_eq_getElem?_getD, List.getElem?_eq_none (by omega)]; rfl
      show 0 ≤ (s.sh.getD i sh0).fr ∧ (s.sh.getD i sh0).fr ≤ 16
      rw [this]; decide⟩
theorem on_tri {s : Sl} {u : Bool} {m : Nat → Nat} {e0 : Int} {step join : Int → Int → Int} {fs fj : Fn} {cs cj : List AV} {i3 i5 im : Nat} (k : Ok s) (hm : ∀ i, m i < 2 ^ 16) (T : Gol (fiS s m e0 step join) fs fj cs cj) :
    ∀ (n had : Nat) (free : Int) (H : Hp), cnt s.sh.length had = n → had < 2 ^ s.sh.length → (-100 ≤ free ∧ free ≤ 100) → H i3 = some (.box 1 1 fun _ => [.map im]) → H i5 = some (.box 1 1 fun _ => [onF s u m e0 fs fj cs cj i3 i5]) → H im = some (.memo (memT (fiS s m e0 step join))) →
      PTri Tryd.prog (onF s u m e0 fs fj cs cj i3 i5) [.agg [i64 had, i64 free]] H (knA ((fiS s m e0 step join).fd n had free)) := by
  have nS := k.nS
  have bd := fiS_bd k hm e0 step join
  intro n
  have hp : 2 ^ s.sh.length ≤ 2 ^ 5 := Nat.pow_le_pow_right (by decide) nS
  have hp0 : 0 < 2 ^ s.sh.length := Nat.pow_pos (by decide)
  have ep : (1 : Int) * 2 ^ s.sh.length = ((2 ^ s.sh.length : Nat) : Int) := by rw [Int.one_mul]; simp
  have hcz : ∀ had, had < 2 ^ s.sh.length → (cnt s.sh.length had = 0 ↔ had = 2 ^ s.sh.length - 1) := fun had h => cnt_zero h
  have hor : ∀ had i, i < s.sh.length → had < 2 ^ s.sh.length → had ||| 2 ^ i < 2 ^ s.sh.length := fun had i hi h => or_full hi h
  have hmk : ∀ q v, memT (fiS s m e0 step join) q v → ∃ l, keyOf Tryd.prog 94 q = some l := fun q v h => memT_key nS h
  have hmi : ∀ (had : Nat) (free : Int), had < 2 ^ s.sh.length → (-100 ≤ free ∧ free ≤ 100) → memT (fiS s m e0 step join) (stV had free) (knV ((fiS s m e0 step join).fd (cnt s.sh.length had) had free)) := fun had free h1 h2 => ⟨had, free, h1, h2, rfl, rfl⟩
  have hme : ∀ q v, memT (fiS s m e0 step join) q v → ∃ (had : Nat) (free : Int), q = stV had free ∧ v = knV ((fiS s m e0 step join).fd (cnt s.sh.length had) had free) := fun q v ⟨a, b, _, _, h1, h2⟩ => ⟨a, b, h1, h2⟩
  generalize 2 ^ s.sh.length = P at hp hp0 ep hcz hor hmi
  induction n with
  | zero =>
    intro had free H hc hh hfr h3 h5 hmm
    have eh := (hcz had hh).1 hc
    refine Tri.drop ?_
    refine tri_m (m := fun _ => false) Tryd.func82 (by kernel_rfl) rfl (by simp only [List.length_append, List.length_cons, List.length_nil, Tryd.ntmps82]; decide) ?_
    simp only [vsAll, boxA, boxZ, opA, dstOk, nilSliceOp, argFr, Nat.reduceAdd, Nat.reduceLT, eq_self, wtAll, Tryd.ntmps82]
    refine vs_draw2 [0, 0, 0, 0, 0, 0, 0, 0, 0, 0, 0] [] [0, 1, 2, 3, 4, 5, 6, 7, 8, 9, 10] (by decide +kernel) ?_
    simp only [vsAll, binA, binLitA, intA, loadA, loadRow, partA, partOk, fieldAddrA, lenA, nilCheckA, opA, dstOk, argFr, Nat.reduceLT, Nat.reduceEqDiff, ↓reduceIte, eq_self, wtAll, ep]
    refine ⟨⟨by omega, by omega, by simp only [InR_i64]; omega⟩, by simp only [InR_i64]; omega, condV (fun hc2 => ?_) (fun hc2 => ?_)⟩
    · simp only [vsAll, loadA, loadRow, partA, partOk, fieldAddrA, opA, dstOk, nilSliceOp, resA, argFr, retA.eq_2, Nat.reduceLT, Nat.reduceEqDiff, ↓reduceIte, eq_self, wtAll, Tryd.results82]
      exact dropR_pure rfl (HSub.refl _)
    · rw [decide_eq_false_iff_not] at hc2
      omega
  | succ n ih =>
    intro had free H hc hh hfr h3 h5 hmm
    have hne : ¬ had = P - 1 := fun e => by have := (hcz had hh).2 e; omega
    refine Tri.unpack hmm fun es ck hes hpw => ?_
    have hkey : ∃ l, keyOf Tryd.prog 94 (stV had free) = some l := stK had free (by omega) (by omega)
    obtain ⟨o, hfo, hst, hcase⟩ := found_of und119 key94 hkey (fun e he => hmk _ _ (hes e he)) hpw
    have hback : Go.V.HSub (H.set im (.raw (.map es ck))) H := HSub_set' hmm (memo_le hes hpw)
    have n3 : ¬ i3 = im := fun q => by rw [q, hmm] at h3; cases h3
    have n5 : ¬ i5 = im := fun q => by rw [q, hmm] at h5; cases h5
    have n3' : ¬ im = i3 := fun q => n3 q.symm
    have n5' : ¬ im = i5 := fun q => n5 q.symm
    have n35 : ¬ i3 = i5 := fun q => by
      rw [q, h5] at h3
      simp only [Option.some.injEq, Obj.box.injEq, true_and] at h3
      have := congrFun h3 0
      simp at this
    have n53 : ¬ i5 = i3 := fun q => n35 q.symm
    refine Tri.drop ?_
    refine tri_m (m := fun _ => false) Tryd.func82 (by kernel_rfl) rfl (by simp only [List.length_append, List.length_cons, List.length_nil, Tryd.ntmps82]; decide) ?_
    skip
    simp only [vsAll, boxA, boxZ, opA, dstOk, nilSliceOp, argFr, Nat.reduceAdd, Nat.reduceLT, eq_self, wtAll, Tryd.ntmps82]
    refine vs_draw2 [0, 0, 0, 0, 0, 0, 0, 0, 0, 0, 0] [] [0, 1, 2, 3, 4, 5, 6, 7, 8, 9, 10] (by decide +kernel) ?_
    simp only [vsAll, binA, binLitA, intA, loadA, loadRow, partA, partOk, fieldAddrA, lenA, nilCheckA, opA, dstOk, argFr, Nat.reduceLT, Nat.reduceEqDiff, ↓reduceIte, eq_self, wtAll, ep]
    refine ⟨⟨by ((try clear h3); (try clear h5); (try clear hmm); (try clear n3); (try clear n5); (try clear n3'); (try clear n5'); (try clear n35); (try clear n53); omega), by ((try clear h3); (try clear h5); (try clear hmm); (try clear n3); (try clear n5); (try clear n3'); (try clear n5'); (try clear n35); (try clear n53); omega), by simp only [InR_i64]; ((try clear h3); (try clear h5); (try clear hmm); (try clear n3); (try clear n5); (try clear n3'); (try clear n5'); (try clear n35); (try clear n53); omega)⟩, by simp only [InR_i64]; ((try clear h3); (try clear h5); (try clear hmm); (try clear n3); (try clear n5); (try clear n3'); (try clear n5'); (try clear n35); (try clear n53); omega), condV (fun hc2 => ?_) (fun hc2 => ?_)⟩
    · rw [decide_eq_true_eq] at hc2
      ((try clear h3); (try clear h5); (try clear hmm); (try clear n3); (try clear n5); (try clear n3'); (try clear n5'); (try clear n35); (try clear n53); omega)
    · simp only [vsAll, loadA, loadRow, partA, partOk, extractA, cellsA, opA, allocA, newCells, storeObj, lookA, dstOk, nilSliceOp, argFr, Nat.reduceAdd, Nat.reduceMul, Nat.reduceLT, Nat.reduceEqDiff, ↓reduceIte, eq_self, wtAll, h3, n3, mapZ119]
      refine ⟨o, hfo _, ?_⟩
      rcases hcase with ⟨rfl, hno⟩ | ⟨j, en, rfl, hj, hkn⟩
      · simp only [vsAll, loadA, loadRow, partA, partOk, fieldAddrA, lenA, nilCheckA, cellA, opA, allocA, okCells, dstOk, argFr, Nat.reduceAdd, Nat.reduceLT, Nat.reduceEqDiff, ↓reduceIte, eq_self, wtAll]
        intro i9 hh_i9; (try simp only [ite_none] at hh_i9)
        intro i11 hh_i11; (try simp only [ite_none] at hh_i11)
        rw [Hp.set_set]
        have a1 := ne_some hh_i9.2 h3
        have a2 := ne_some hh_i9.2 h5
        have a3 := ne_some hh_i9.2 hmm
        have a4 := ne_some hh_i11.2.2.2 h3
        have a5 := ne_some hh_i11.2.2.2 h5
        have a6 := ne_some hh_i11.2.2.2 hmm
        skip
        generalize hx : fiS s m e0 step join = x at *
        generalize hf : x.fd n = f at *
        have hV : ∀ a b, VO T.V n (80 ^ n) (f a b) := fun a b => by rw [← hf]; exact fd_V T.vd bd n a b
        have hn5 : n + 1 ≤ 5 := by have := cnt_le s.sh.length had; ((try clear h3); (try clear h5); (try clear hmm); (try clear n3); (try clear n5); (try clear n3'); (try clear n5'); (try clear n35); (try clear n53); (try clear hh_i9); (try clear hh_i11); (try clear a1); (try clear a2); (try clear a3); (try clear a4); (try clear a5); (try clear a6); omega)
        have hW : 80 ^ n ≤ 80 ^ 4 := Nat.pow_le_pow_right (by decide) (by ((try clear h3); (try clear h5); (try clear hmm); (try clear n3); (try clear n5); (try clear n3'); (try clear n5'); (try clear n35); (try clear n53); (try clear hh_i9); (try clear hh_i11); (try clear a1); (try clear a2); (try clear a3); (try clear a4); (try clear a5); (try clear a6); omega))
        generalize hpv : (fun i => x.shpF f had free (List.range i)) = pv
        have hfd : x.fd (n + 1) had free = pv s.sh.length := by rw [← hpv, Fi.fd, hf, ← hx]; rfl
        have hpv0 : pv 0 = none := by rw [← hpv]; rfl
        refine vs_loopD (σ := Nat × Hp × List Nat) (fun y => y.1 ≤ s.sh.length ∧ Mk H y.2.2 y.2.1 ∧ y.2.1 i11 = none ∧ y.2.1 i3 = some (.box 1 1 fun _ => [.map im]) ∧ y.2.1 i5 = some (.box 1 1 fun _ => [onF s u m e0 fs fj cs cj i3 i5]) ∧ y.2.1 im = some (.memo (memT x)))
          (fun y => [(1, .rptr 1 1 (fun _ => [opP s u]) 0 0), (2, .rptr 1 3 (fun _ => [i64 e0, .func fs [] cs, .func fj [] cj]) 0 0), (3, .ref i3 0 1 0 0), (4, .rptr 5 1 (bthF m) 0 0), (5, .ref i5 0 1 0 0), (6, .rptr 1 2 (fun _ => [i64 had, i64 free]) 0 0), (11, .ref i11 0 2 0 0), (45, shAV s.sh), (46, i64 s.sh.length), (47, i64 y.1)])
          (fun y => y.2.2.map AD.mark ++ []) (fun y => y.2.1.set i11 (.box 2 1 fun _ => [i64 ((pv y.1).getD 0), boo (pv y.1).isSome])) (fun y => s.sh.length - y.1) (0, H, []) ⟨Nat.zero_le _, Mk.nil H, hh_i11.2.2.2, h3, h5, hmm⟩ ?_ rfl ?_ fun y hy => ?_
        · simp only [vsAll, argFr, Nat.reduceEqDiff, ↓reduceIte, eq_self, Int.natCast_zero]
        · simp only [hpv0]
          exact HSub.set (HSub.drop hback (by rw [Hp.set_ne _ _ hh_i9.1.1]; exact hh_i9.2)) (.refl _)
        · obtain ⟨i, G, lm⟩ := y
          obtain ⟨hi, hG, g11, g3, g5, gm⟩ := hy
          simp only [] at hi hG g11 g3 g5 gm
          skip
          simp only [vsAll, binA, binLitA, intA, opA, dstOk, Nat.reduceLT, Nat.reduceEqDiff, ↓reduceIte, eq_self]
          refine condD (fun hd => ?_) (fun hd => ?_)
          · have his : i < s.sh.length := by ((try clear h3); (try clear h5); (try clear hmm); (try clear n3); (try clear n5); (try clear n3'); (try clear n5'); (try clear n35); (try clear n53); (try clear hh_i9); (try clear hh_i11); (try clear a1); (try clear a2); (try clear a3); (try clear a4); (try clear a5); (try clear a6); (try clear g11); (try clear g3); (try clear g5); (try clear gm); omega)
            have hks := k.s i his
            unfold okS at hks
            simp only [vsAll, binA, binLitA, intA, loadA, loadRow, partA, partOk, fieldAddrA, indexAddrA, cellA, cellsA, opA, allocA, newCells, okCells, storeObj, dstOk, Nat.reduceAdd, Nat.reduceLT, Nat.reduceEqDiff, Int.reduceLE, Int.reduceToNat, ↓reduceIte, eq_self, wtAll, shF_at]
            refine ⟨⟨by ((try clear h3); (try clear h5); (try clear hmm); (try clear n3); (try clear n5); (try clear n3'); (try clear n5'); (try clear n35); (try clear n53); (try clear hh_i9); (try clear hh_i11); (try clear a1); (try clear a2); (try clear a3); (try clear a4); (try clear a5); (try clear a6); (try clear g11); (try clear g3); (try clear g5); (try clear gm); omega), by ((try clear h3); (try clear h5); (try clear hmm); (try clear n3); (try clear n5); (try clear n3'); (try clear n5'); (try clear n35); (try clear n53); (try clear hh_i9); (try clear hh_i11); (try clear a1); (try clear a2); (try clear a3); (try clear a4); (try clear a5); (try clear a6); (try clear g11); (try clear g3); (try clear g5); (try clear gm); omega)⟩, his, ?_⟩
            intro i12 hh_i12; (try simp only [ite_none] at hh_i12)
            intro i13 hh_i13; (try simp only [ite_none] at hh_i13)
            have b1 := ne_some hh_i12.2 g3
            have b2 := ne_some hh_i12.2 g5
            have b3 := ne_some hh_i12.2 gm
            have b4 := ne_some hh_i13.2.2 g3
            have b5 := ne_some hh_i13.2.2 g5
            have b6 := ne_some hh_i13.2.2 gm
            skip
            have hdv := shr_ok had i P hh (by ((try clear h3); (try clear h5); (try clear hmm); (try clear n3); (try clear n5); (try clear n3'); (try clear n5'); (try clear n35); (try clear n53); (try clear hh_i9); (try clear hh_i11); (try clear a1); (try clear a2); (try clear a3); (try clear a4); (try clear a5); (try clear a6); (try clear g11); (try clear g3); (try clear g5); (try clear gm); (try clear hh_i12); (try clear hh_i13); (try clear b1); (try clear b2); (try clear b3); (try clear b4); (try clear b5); (try clear b6); omega))
            simp only [vsAll, Nat.reduceLT, ↓reduceIte, eq_self, hh_i13]
            have hbit : decide (((((had : Int) / 2 ^ i).toNat &&& 1 : Nat) : Int) = 1) = had.testBit i := bit_eq had i
            rw [hbit]
            have hpn : pv (i + 1) = if had.testBit i = true then pv i else x.rowF f had free i (pv i) (bitsL (x.may i)) := by rw [← hpv]; exact shp_succ x f had free i
            refine ⟨⟨by ((try clear h3); (try clear h5); (try clear hmm); (try clear n3); (try clear n5); (try clear n3'); (try clear n5'); (try clear n35); (try clear n53); (try clear hh_i9); (try clear hh_i11); (try clear a1); (try clear a2); (try clear a3); (try clear a4); (try clear a5); (try clear a6); (try clear g11); (try clear g3); (try clear g5); (try clear gm); (try clear hh_i12); (try clear hh_i13); (try clear b1); (try clear b2); (try clear b3); (try clear b4); (try clear b5); (try clear b6); omega), by ((try clear h3); (try clear h5); (try clear hmm); (try clear n3); (try clear n5); (try clear n3'); (try clear n5'); (try clear n35); (try clear n53); (try clear hh_i9); (try clear hh_i11); (try clear a1); (try clear a2); (try clear a3); (try clear a4); (try clear a5); (try clear a6); (try clear g11); (try clear g3); (try clear g5); (try clear gm); (try clear hh_i12); (try clear hh_i13); (try clear b1); (try clear b2); (try clear b3); (try clear b4); (try clear b5); (try clear b6); omega), rfl⟩, ⟨by ((try clear h3); (try clear h5); (try clear hmm); (try clear n3); (try clear n5); (try clear n3'); (try clear n5'); (try clear n35); (try clear n53); (try clear hh_i9); (try clear hh_i11); (try clear a1); (try clear a2); (try clear a3); (try clear a4); (try clear a5); (try clear a6); (try clear g11); (try clear g3); (try clear g5); (try clear gm); (try clear hh_i12); (try clear hh_i13); (try clear b1); (try clear b2); (try clear b3); (try clear b4); (try clear b5); (try clear b6); omega), by simp only [InR_i64]; ((try clear h3); (try clear h5); (try clear hmm); (try clear n3); (try clear n5); (try clear n3'); (try clear n5'); (try clear n35); (try clear n53); (try clear hh_i9); (try clear hh_i11); (try clear a1); (try clear a2); (try clear a3); (try clear a4); (try clear a5); (try clear a6); (try clear g11); (try clear g3); (try clear g5); (try clear gm); (try clear hh_i12); (try clear hh_i13); (try clear b1); (try clear b2); (try clear b3); (try clear b4); (try clear b5); (try clear b6); omega), by simp only [InR_i64]; ((try clear h3); (try clear h5); (try clear hmm); (try clear n3); (try clear n5); (try clear n3'); (try clear n5'); (try clear n35); (try clear n53); (try clear hh_i9); (try clear hh_i11); (try clear a1); (try clear a2); (try clear a3); (try clear a4); (try clear a5); (try clear a6); (try clear g11); (try clear g3); (try clear g5); (try clear gm); (try clear hh_i12); (try clear hh_i13); (try clear b1); (try clear b2); (try clear b3); (try clear b4); (try clear b5); (try clear b6); omega)⟩, condV (fun hb => ?_) (fun hb => ?_)⟩
            · rw [if_pos hb] at hpn
              simp only [vsAll, binA, binLitA, intA, opA, dstOk, Nat.reduceLT, Nat.reduceEqDiff, ↓reduceIte, eq_self]
              refine ⟨by simp only [InR_i64]; ((try clear h3); (try clear h5); (try clear hmm); (try clear n3); (try clear n5); (try clear n3'); (try clear n5'); (try clear n35); (try clear n53); (try clear hh_i9); (try clear hh_i11); (try clear a1); (try clear a2); (try clear a3); (try clear a4); (try clear a5); (try clear a6); (try clear g11); (try clear g3); (try clear g5); (try clear gm); (try clear hh_i12); (try clear hh_i13); (try clear b1); (try clear b2); (try clear b3); (try clear b4); (try clear b5); (try clear b6); omega), loopD_next (i + 1, G, lm) ⟨by simp only []; ((try clear h3); (try clear h5); (try clear hmm); (try clear n3); (try clear n5); (try clear n3'); (try clear n5'); (try clear n35); (try clear n53); (try clear hh_i9); (try clear hh_i11); (try clear a1); (try clear a2); (try clear a3); (try clear a4); (try clear a5); (try clear a6); (try clear g11); (try clear g3); (try clear g5); (try clear gm); (try clear hh_i12); (try clear hh_i13); (try clear b1); (try clear b2); (try clear b3); (try clear b4); (try clear b5); (try clear b6); omega), hG, g11, g3, g5, gm⟩ (by simp only []; ((try clear h3); (try clear h5); (try clear hmm); (try clear n3); (try clear n5); (try clear n3'); (try clear n5'); (try clear n35); (try clear n53); (try clear hh_i9); (try clear hh_i11); (try clear a1); (try clear a2); (try clear a3); (try clear a4); (try clear a5); (try clear a6); (try clear g11); (try clear g3); (try clear g5); (try clear gm); (try clear hh_i12); (try clear hh_i13); (try clear b1); (try clear b2); (try clear b3); (try clear b4); (try clear b5); (try clear b6); omega)) ?_ rfl ?_⟩
              · simp only [vsAll, Nat.reduceEqDiff, ↓reduceIte, eq_self, Int.natCast_add, Int.natCast_one]
              · simp only [hpn]; (repeat (first | exact HSub_rfl | refine HSub_put_eq (by simp only [vsAll, ↓reduceIte, eq_self, hh_i12, hh_i13]) ?_ | refine HSub_drop2 (by simp only [eq_self, g11, hh_i12, hh_i13]) ?_ | refine HSub_keep_eq (by simp only [vsAll, binA, binLitA, intA, aggA, aggV, boolA, nilA2, isConst, unA, loadA, loadRow, partA, partOk, fieldAddrA, indexAddrA, indexA, fieldA, extractA, lenA, nilCheckA, boxA, boxZ, cellA, cellsA, fillA, okParts, buildSliceA, buildMutA, makeSliceA, partIdx, elemsA, lensA, ifaceA, convA, mmA, pickA, okAll, stAll, opsA, partsA, partsOk, opA, allocA, boxMutA, newCells, okCells, storeObj, appendA, guardV, taA, nM, mapUpA, lookA, sliceA, sliceS, boundsA, opO, okO, copyA, dstOk, nilA, quietOk, nilSliceOp, deferV, panA, resA, argFr, retA.eq_1, retA.eq_2, Nat.reduceAdd, Nat.reduceSub, Nat.reduceMul, Nat.reduceLT, Nat.reduceLeDiff, Nat.reduceEqDiff, Nat.reduceBEq, Int.reduceAdd, Int.reduceSub, Int.reduceMul, Int.reduceNeg, Int.reduceLE, Int.reduceLT, Int.reduceEq, Int.reduceNe, Int.reduceToNat, ↓reduceIte, reduceCtorEq, implies_true, forall_const, eq_self, ne_eq, wtAll, Tryd.ntmps82, Tryd.results82, h3, h5, hmm, n3, n5, n3', n5', n35, n53, hh_i9, hh_i11, a1, a2, a3, a4, a5, a6, g11, g3, g5, gm, hh_i12, hh_i13, b1, b2, b3, b4, b5, b6]) ?_))
            · have hbf := hb
              rw [if_neg (by rw [hb]; decide)] at hpn
              have hmay : x.may i = m i := by rw [← hx]; rfl
              have hfrE : x.fr i = (s.sh.getD i sh0).fr := by rw [← hx]; rfl
              have htdE : x.td i = (s.sh.getD i sh0).td := by rw [← hx]; rfl
              rw [hmay] at hpn
              have hmb := hm i
              simp only [vsAll, loadA, loadRow, partA, partOk, indexAddrA, okAll, stAll, opsA, opA, dstOk, Nat.reduceLT, Nat.reduceEqDiff, ↓reduceIte, eq_self, wtAll, hh_i13, bthF_at m i (by ((try clear h3); (try clear h5); (try clear hmm); (try clear n3); (try clear n5); (try clear n3'); (try clear n5'); (try clear n35); (try clear n53); (try clear hh_i9); (try clear hh_i11); (try clear a1); (try clear a2); (try clear a3); (try clear a4); (try clear a5); (try clear a6); (try clear g11); (try clear g3); (try clear g5); (try clear gm); (try clear hh_i12); (try clear hh_i13); (try clear b1); (try clear b2); (try clear b3); (try clear b4); (try clear b5); (try clear b6); omega))]
              refine ⟨⟨by ((try clear h3); (try clear h5); (try clear hmm); (try clear n3); (try clear n5); (try clear n3'); (try clear n5'); (try clear n35); (try clear n53); (try clear hh_i9); (try clear hh_i11); (try clear a1); (try clear a2); (try clear a3); (try clear a4); (try clear a5); (try clear a6); (try clear g11); (try clear g3); (try clear g5); (try clear gm); (try clear hh_i12); (try clear hh_i13); (try clear b1); (try clear b2); (try clear b3); (try clear b4); (try clear b5); (try clear b6); omega), by ((try clear h3); (try clear h5); (try clear hmm); (try clear n3); (try clear n5); (try clear n3'); (try clear n5'); (try clear n35); (try clear n53); (try clear hh_i9); (try clear hh_i11); (try clear a1); (try clear a2); (try clear a3); (try clear a4); (try clear a5); (try clear a6); (try clear g11); (try clear g3); (try clear g5); (try clear gm); (try clear hh_i12); (try clear hh_i13); (try clear b1); (try clear b2); (try clear b3); (try clear b4); (try clear b5); (try clear b6); omega)⟩, by ((try clear h3); (try clear h5); (try clear hmm); (try clear n3); (try clear n5); (try clear n3'); (try clear n5'); (try clear n35); (try clear n53); (try clear hh_i9); (try clear hh_i11); (try clear a1); (try clear a2); (try clear a3); (try clear a4); (try clear a5); (try clear a6); (try clear g11); (try clear g3); (try clear g5); (try clear gm); (try clear hh_i12); (try clear hh_i13); (try clear b1); (try clear b2); (try clear b3); (try clear b4); (try clear b5); (try clear b6); omega), callK_pure (all_tri (m i) _) ?_⟩
              simp only [vsAll]
              generalize hqv : (fun j => x.rowF f had free i (pv i) ((bitsL (m i)).take j)) = qv
              have hq0 : qv 0 = pv i := by rw [← hqv]; rfl
              have hqe : qv (bitsL (m i)).length = pv (i + 1) := by rw [hpn, ← hqv]; simp only [List.take_length]
              refine vs_rangeS (σ := Unit) (bitsA (m i)) (fun _ _ => True)
                (fun j _ => ((G.set i12 (.box 1 1 fun _ => [i64 i])).set i13 (.box 3 1 fun _ => (s.sh.getD i sh0).cs)).set i11 (.box 2 1 fun _ => [i64 ((qv j).getD 0), boo (qv j).isSome])) () (fun _ => True) Tryd.func88 (by kernel_rfl) rfl (by simp only [vsAll, opA, ↓reduceIte, eq_self]) (by simp only [vsAll, opA, ↓reduceIte, eq_self]) (by decide) bits_one
                (fun yf H K hi => all1_tri (m i) (by ((try clear h3); (try clear h5); (try clear hmm); (try clear n3); (try clear n5); (try clear n3'); (try clear n5'); (try clear n35); (try clear n53); (try clear hh_i9); (try clear hh_i11); (try clear a1); (try clear a2); (try clear a3); (try clear a4); (try clear a5); (try clear a6); (try clear g11); (try clear g3); (try clear g5); (try clear gm); (try clear hh_i12); (try clear hh_i13); (try clear b1); (try clear b2); (try clear b3); (try clear b4); (try clear b5); (try clear b6); omega)) yf H _ K hi) trivial ?_ ?_ ?_ ?_ ?_
              · rw [hq0]
                (repeat (first | exact HSub_rfl | refine HSub_put_eq (by simp only [vsAll, ↓reduceIte, eq_self, hh_i12, hh_i13]) ?_ | refine HSub_drop2 (by simp only [eq_self, g11, hh_i12, hh_i13]) ?_ | refine HSub_keep_eq (by simp only [vsAll, binA, binLitA, intA, aggA, aggV, boolA, nilA2, isConst, unA, loadA, loadRow, partA, partOk, fieldAddrA, indexAddrA, indexA, fieldA, extractA, lenA, nilCheckA, boxA, boxZ, cellA, cellsA, fillA, okParts, buildSliceA, buildMutA, makeSliceA, partIdx, elemsA, lensA, ifaceA, convA, mmA, pickA, okAll, stAll, opsA, partsA, partsOk, opA, allocA, boxMutA, newCells, okCells, storeObj, appendA, guardV, taA, nM, mapUpA, lookA, sliceA, sliceS, boundsA, opO, okO, copyA, dstOk, nilA, quietOk, nilSliceOp, deferV, panA, resA, argFr, retA.eq_1, retA.eq_2, Nat.reduceAdd, Nat.reduceSub, Nat.reduceMul, Nat.reduceLT, Nat.reduceLeDiff, Nat.reduceEqDiff, Nat.reduceBEq, Int.reduceAdd, Int.reduceSub, Int.reduceMul, Int.reduceNeg, Int.reduceLE, Int.reduceLT, Int.reduceEq, Int.reduceNe, Int.reduceToNat, ↓reduceIte, reduceCtorEq, implies_true, forall_const, eq_self, ne_eq, wtAll, Tryd.ntmps82, Tryd.results82, h3, h5, hmm, n3, n5, n3', n5', n35, n53, hh_i9, hh_i11, a1, a2, a3, a4, a5, a6, g11, g3, g5, gm, hh_i12, hh_i13, b1, b2, b3, b4, b5, b6]) ?_))
              · intro j _ _ q hq; simp only [Hp.set_none] at hq ⊢; exact hq
              · intros; trivial
              · rintro j v ⟨⟩ hv _ lid did l lo h1 h2 h3'
                simp only [Hp.set_none] at h1 h2
                have h4 : ¬ did = lid := fun e => h3' e.symm
                have d1 := ne_some h1.2.2.2 g3
                have d2 := ne_some h1.2.2.2 g5
                have d3 := ne_some h1.2.2.2 gm
                have d4 := ne_some h2.2.2.2 g3
                have d5 := ne_some h2.2.2.2 g5
                have d6 := ne_some h2.2.2.2 gm
                skip
                obtain ⟨hj, rfl⟩ := bits_get hv
                have ht16 : (bitsL (m i)).getD j 0 < 16 := bitsL_lt hmb (mem_getD _ j 0 hj)
                have hqn : qv (j + 1) = comb x.join (qv j) (x.con f had free i ((bitsL (m i)).getD j 0)) := by rw [← hqv]; exact row_take x f had free i (pv i) _ j hj
                have hlen := bitsL_len hmb
                generalize hgt : (bitsL (m i)).getD j 0 = t at ht16 hqn ⊢
                unfold Fi.con at hqn
                simp only [vsAll, binA, binLitA, intA, loadA, loadRow, partA, partOk, fieldAddrA, opA, dstOk, quietOk, nilSliceOp, Nat.reduceLT, Nat.reduceEqDiff, ↓reduceIte, eq_self, wtAll]
                refine condV (fun hc => ?_) (fun hc => ?_)
                · rw [decide_eq_true_eq] at hc
                  rw [if_pos hc, comb_none] at hqn
                  simp only [vsAll, ↓reduceIte, eq_self]
                  refine ⟨⟨_, _, rfl⟩, _, ⟨(), rfl⟩, ?_⟩
                  rw [hqn]
                  (repeat (first | exact HSub_rfl | refine HSub_put_eq (by simp only [vsAll, ↓reduceIte, eq_self, hh_i12, hh_i13, h1, h2, h4]) ?_ | refine HSub_drop2 (by simp only [eq_self, g11, hh_i12, hh_i13, h1, h2]) ?_ | refine HSub_keep_eq (by simp only [vsAll, binA, binLitA, intA, aggA, aggV, boolA, nilA2, isConst, unA, loadA, loadRow, partA, partOk, fieldAddrA, indexAddrA, indexA, fieldA, extractA, lenA, nilCheckA, boxA, boxZ, cellA, cellsA, fillA, okParts, buildSliceA, buildMutA, makeSliceA, partIdx, elemsA, lensA, ifaceA, convA, mmA, pickA, okAll, stAll, opsA, partsA, partsOk, opA, allocA, boxMutA, newCells, okCells, storeObj, appendA, guardV, taA, nM, mapUpA, lookA, sliceA, sliceS, boundsA, opO, okO, copyA, dstOk, nilA, quietOk, nilSliceOp, deferV, panA, resA, argFr, retA.eq_1, retA.eq_2, Nat.reduceAdd, Nat.reduceSub, Nat.reduceMul, Nat.reduceLT, Nat.reduceLeDiff, Nat.reduceEqDiff, Nat.reduceBEq, Int.reduceAdd, Int.reduceSub, Int.reduceMul, Int.reduceNeg, Int.reduceLE, Int.reduceLT, Int.reduceEq, Int.reduceNe, Int.reduceToNat, ↓reduceIte, reduceCtorEq, implies_true, forall_const, eq_self, ne_eq, wtAll, Tryd.ntmps82, Tryd.results82, h3, h5, hmm, n3, n5, n3', n5', n35, n53, hh_i9, hh_i11, a1, a2, a3, a4, a5, a6, g11, g3, g5, gm, hh_i12, hh_i13, b1, b2, b3, b4, b5, b6, h1, h2, h3', h4, d1, d2, d3, d4, d5, d6]) ?_))
                · rw [decide_eq_false_iff_not] at hc
                  rw [if_neg hc, hfrE, htdE] at hqn
                  simp only [vsAll]
                  refine vs_draw2R [0, 0, 0, 0, 0, 0, 0, 0, 0, 0, 0, 1, 2, 2, 3, 2, 4] [([0, 1, 2, 3, 4, 5, 6, 7, 8, 9, 10], [], 11), ([12, 13, 15], [], 14)] [16] (by repeat' constructor) (by decide +kernel) ?_
                  have hpw : (1 : Int) * 2 ^ i = ((2 ^ i : Nat) : Int) := by rw [Int.one_mul]; simp
                  have hpi : 2 ^ i ≤ 2 ^ 4 := Nat.pow_le_pow_right (by decide) (by ((try clear h3); (try clear h5); (try clear hmm); (try clear n3); (try clear n5); (try clear n3'); (try clear n5'); (try clear n35); (try clear n53); (try clear hh_i9); (try clear hh_i11); (try clear a1); (try clear a2); (try clear a3); (try clear a4); (try clear a5); (try clear a6); (try clear g11); (try clear g3); (try clear g5); (try clear gm); (try clear hh_i12); (try clear hh_i13); (try clear b1); (try clear b2); (try clear b3); (try clear b4); (try clear b5); (try clear b6); (try clear h1); (try clear h2); (try clear h3'); (try clear h4); (try clear d1); (try clear d2); (try clear d3); (try clear d4); (try clear d5); (try clear d6); omega))
                  have hcn : cnt s.sh.length (had ||| 2 ^ i) = n := by have := cnt_or his hbf; ((try clear h3); (try clear h5); (try clear hmm); (try clear n3); (try clear n5); (try clear n3'); (try clear n5'); (try clear n35); (try clear n53); (try clear hh_i9); (try clear hh_i11); (try clear a1); (try clear a2); (try clear a3); (try clear a4); (try clear a5); (try clear a6); (try clear g11); (try clear g3); (try clear g5); (try clear gm); (try clear hh_i12); (try clear hh_i13); (try clear b1); (try clear b2); (try clear b3); (try clear b4); (try clear b5); (try clear b6); (try clear h1); (try clear h2); (try clear h3'); (try clear h4); (try clear d1); (try clear d2); (try clear d3); (try clear d4); (try clear d5); (try clear d6); omega)
                  have hol := hor had i his hh
                  have hV2 := hV (had ||| 2 ^ i) (t + (s.sh.getD i sh0).td)
                  have hfs := bd.fr i
                  rw [hfrE] at hfs
                  have hVj : VO T.V (n + 1) (96 * 80 ^ n) (qv j) := by
                    have := row_V T.vd bd hV had free i ((bitsL (m i)).take j) (pv i) _ (fun q hq => bitsL_lt hmb (List.mem_of_mem_take hq)) (by rw [← hpv]; exact shp_V T.vd bd hV had free i)
                    rw [← hqv]
                    refine VO.up T.vd ?_ this
                    have e1 := Nat.mul_le_mul_right (16 * 80 ^ n) (show i ≤ 5 by ((try clear h3); (try clear h5); (try clear hmm); (try clear n3); (try clear n5); (try clear n3'); (try clear n5'); (try clear n35); (try clear n53); (try clear hh_i9); (try clear hh_i11); (try clear a1); (try clear a2); (try clear a3); (try clear a4); (try clear a5); (try clear a6); (try clear g11); (try clear g3); (try clear g5); (try clear gm); (try clear hh_i12); (try clear hh_i13); (try clear b1); (try clear b2); (try clear b3); (try clear b4); (try clear b5); (try clear b6); (try clear h1); (try clear h2); (try clear h3'); (try clear h4); (try clear d1); (try clear d2); (try clear d3); (try clear d4); (try clear d5); (try clear d6); omega))
                    have e2 := Nat.mul_le_mul_right (80 ^ n) (show ((bitsL (m i)).take j).length ≤ 16 by rw [List.length_take]; ((try clear h3); (try clear h5); (try clear hmm); (try clear n3); (try clear n5); (try clear n3'); (try clear n5'); (try clear n35); (try clear n53); (try clear hh_i9); (try clear hh_i11); (try clear a1); (try clear a2); (try clear a3); (try clear a4); (try clear a5); (try clear a6); (try clear g11); (try clear g3); (try clear g5); (try clear gm); (try clear hh_i12); (try clear hh_i13); (try clear b1); (try clear b2); (try clear b3); (try clear b4); (try clear b5); (try clear b6); (try clear h1); (try clear h2); (try clear h3'); (try clear h4); (try clear d1); (try clear d2); (try clear d3); (try clear d4); (try clear d5); (try clear d6); omega))
                    refine Nat.le_trans (Nat.add_le_add e1 e2) ?_
                    ((try clear h3); (try clear h5); (try clear hmm); (try clear n3); (try clear n5); (try clear n3'); (try clear n5'); (try clear n35); (try clear n53); (try clear hh_i9); (try clear hh_i11); (try clear a1); (try clear a2); (try clear a3); (try clear a4); (try clear a5); (try clear a6); (try clear g11); (try clear g3); (try clear g5); (try clear gm); (try clear hh_i12); (try clear hh_i13); (try clear b1); (try clear b2); (try clear b3); (try clear b4); (try clear b5); (try clear b6); (try clear h1); (try clear h2); (try clear h3'); (try clear h4); (try clear d1); (try clear d2); (try clear d3); (try clear d4); (try clear d5); (try clear d6); omega)
                  generalize hpp : 2 ^ i = p2 at hpw hpi hcn hol hV2 hqn
                  simp only [vsAll, binA, binLitA, intA, loadA, loadRow, partA, partOk, fieldAddrA, cellA, cellsA, fillA, okParts, okAll, stAll, opsA, partsA, partsOk, opA, dstOk, Nat.reduceAdd, Nat.reduceLT, Nat.reduceLeDiff, Nat.reduceEqDiff, ↓reduceIte, eq_self, wtAll, a5, g5, hh_i12, hh_i13, b2, b5, h1, h2, d2, d5, hpw]
                  refine ⟨⟨by ((try clear h3); (try clear h5); (try clear hmm); (try clear n3); (try clear n5); (try clear n3'); (try clear n5'); (try clear n35); (try clear n53); (try clear hh_i9); (try clear hh_i11); (try clear a1); (try clear a2); (try clear a3); (try clear a4); (try clear a5); (try clear a6); (try clear g11); (try clear g3); (try clear g5); (try clear gm); (try clear hh_i12); (try clear hh_i13); (try clear b1); (try clear b2); (try clear b3); (try clear b4); (try clear b5); (try clear b6); (try clear h1); (try clear h2); (try clear h3'); (try clear h4); (try clear d1); (try clear d2); (try clear d3); (try clear d4); (try clear d5); (try clear d6); omega), by ((try clear h3); (try clear h5); (try clear hmm); (try clear n3); (try clear n5); (try clear n3'); (try clear n5'); (try clear n35); (try clear n53); (try clear hh_i9); (try clear hh_i11); (try clear a1); (try clear a2); (try clear a3); (try clear a4); (try clear a5); (try clear a6); (try clear g11); (try clear g3); (try clear g5); (try clear gm); (try clear hh_i12); (try clear hh_i13); (try clear b1); (try clear b2); (try clear b3); (try clear b4); (try clear b5); (try clear b6); (try clear h1); (try clear h2); (try clear h3'); (try clear h4); (try clear d1); (try clear d2); (try clear d3); (try clear d4); (try clear d5); (try clear d6); omega), by simp only [InR_i64]; ((try clear h3); (try clear h5); (try clear hmm); (try clear n3); (try clear n5); (try clear n3'); (try clear n5'); (try clear n35); (try clear n53); (try clear hh_i9); (try clear hh_i11); (try clear a1); (try clear a2); (try clear a3); (try clear a4); (try clear a5); (try clear a6); (try clear g11); (try clear g3); (try clear g5); (try clear gm); (try clear hh_i12); (try clear hh_i13); (try clear b1); (try clear b2); (try clear b3); (try clear b4); (try clear b5); (try clear b6); (try clear h1); (try clear h2); (try clear h3'); (try clear h4); (try clear d1); (try clear d2); (try clear d3); (try clear d4); (try clear d5); (try clear d6); omega)⟩, ⟨by ((try clear h3); (try clear h5); (try clear hmm); (try clear n3); (try clear n5); (try clear n3'); (try clear n5'); (try clear n35); (try clear n53); (try clear hh_i9); (try clear hh_i11); (try clear a1); (try clear a2); (try clear a3); (try clear a4); (try clear a5); (try clear a6); (try clear g11); (try clear g3); (try clear g5); (try clear gm); (try clear hh_i12); (try clear hh_i13); (try clear b1); (try clear b2); (try clear b3); (try clear b4); (try clear b5); (try clear b6); (try clear h1); (try clear h2); (try clear h3'); (try clear h4); (try clear d1); (try clear d2); (try clear d3); (try clear d4); (try clear d5); (try clear d6); omega), by ((try clear h3); (try clear h5); (try clear hmm); (try clear n3); (try clear n5); (try clear n3'); (try clear n5'); (try clear n35); (try clear n53); (try clear hh_i9); (try clear hh_i11); (try clear a1); (try clear a2); (try clear a3); (try clear a4); (try clear a5); (try clear a6); (try clear g11); (try clear g3); (try clear g5); (try clear gm); (try clear hh_i12); (try clear hh_i13); (try clear b1); (try clear b2); (try clear b3); (try clear b4); (try clear b5); (try clear b6); (try clear h1); (try clear h2); (try clear h3'); (try clear h4); (try clear d1); (try clear d2); (try clear d3); (try clear d4); (try clear d5); (try clear d6); omega), by simp only [InR_i64]; ((try clear h3); (try clear h5); (try clear hmm); (try clear n3); (try clear n5); (try clear n3'); (try clear n5'); (try clear n35); (try clear n53); (try clear hh_i9); (try clear hh_i11); (try clear a1); (try clear a2); (try clear a3); (try clear a4); (try clear a5); (try clear a6); (try clear g11); (try clear g3); (try clear g5); (try clear gm); (try clear hh_i12); (try clear hh_i13); (try clear b1); (try clear b2); (try clear b3); (try clear b4); (try clear b5); (try clear b6); (try clear h1); (try clear h2); (try clear h3'); (try clear h4); (try clear d1); (try clear d2); (try clear d3); (try clear d4); (try clear d5); (try clear d6); omega), by simp only [InR_i64]; ((try clear h3); (try clear h5); (try clear hmm); (try clear n3); (try clear n5); (try clear n3'); (try clear n5'); (try clear n35); (try clear n53); (try clear hh_i9); (try clear hh_i11); (try clear a1); (try clear a2); (try clear a3); (try clear a4); (try clear a5); (try clear a6); (try clear g11); (try clear g3); (try clear g5); (try clear gm); (try clear hh_i12); (try clear hh_i13); (try clear b1); (try clear b2); (try clear b3); (try clear b4); (try clear b5); (try clear b6); (try clear h1); (try clear h2); (try clear h3'); (try clear h4); (try clear d1); (try clear d2); (try clear d3); (try clear d4); (try clear d5); (try clear d6); omega)⟩, by simp only [InR_i64]; ((try clear h3); (try clear h5); (try clear hmm); (try clear n3); (try clear n5); (try clear n3'); (try clear n5'); (try clear n35); (try clear n53); (try clear hh_i9); (try clear hh_i11); (try clear a1); (try clear a2); (try clear a3); (try clear a4); (try clear a5); (try clear a6); (try clear g11); (try clear g3); (try clear g5); (try clear gm); (try clear hh_i12); (try clear hh_i13); (try clear b1); (try clear b2); (try clear b3); (try clear b4); (try clear b5); (try clear b6); (try clear h1); (try clear h2); (try clear h3'); (try clear h4); (try clear d1); (try clear d2); (try clear d3); (try clear d4); (try clear d5); (try clear d6); omega), ?_⟩
                  refine callK_pure (ih (had ||| p2) (t + (s.sh.getD i sh0).td) _ hcn hol (by ((try clear h3); (try clear h5); (try clear hmm); (try clear n3); (try clear n5); (try clear n3'); (try clear n5'); (try clear n35); (try clear n53); (try clear hh_i9); (try clear hh_i11); (try clear a1); (try clear a2); (try clear a3); (try clear a4); (try clear a5); (try clear a6); (try clear g11); (try clear g3); (try clear g5); (try clear gm); (try clear hh_i12); (try clear hh_i13); (try clear b1); (try clear b2); (try clear b3); (try clear b4); (try clear b5); (try clear b6); (try clear h1); (try clear h2); (try clear h3'); (try clear h4); (try clear d1); (try clear d2); (try clear d3); (try clear d4); (try clear d5); (try clear d6); omega)) (by simp only [vsAll, ↓reduceIte, eq_self, a4, g3, b1, b4, d1, d4]) (by simp only [vsAll, ↓reduceIte, eq_self, a5, g5, b2, b5, d2, d5]) (by simp only [vsAll, ↓reduceIte, eq_self, hh_i11, gm, b3, b6, d3, d6])) ?_
                  generalize f (had ||| p2) (t + (s.sh.getD i sh0).td) = q at hqn hV2
                  cases q with
                  | none =>
                    simp only [Option.map_none, comb_none] at hqn
                    simp only [vsAll, unA, extractA, opA, dstOk, quietOk, Nat.reduceAdd, Nat.reduceLT, Nat.reduceEqDiff, ↓reduceIte, eq_self]
                    refine ⟨⟨_, _, rfl⟩, _, ⟨(), rfl⟩, ?_⟩
                    rw [hqn]
                    (repeat (first | exact HSub_rfl | refine HSub_put_eq (by simp only [vsAll, ↓reduceIte, eq_self, hh_i12, hh_i13, h1, h2, h4]) ?_ | refine HSub_drop2 (by simp only [eq_self, g11, hh_i12, hh_i13, h1, h2]) ?_ | refine HSub_keep_eq (by simp only [vsAll, binA, binLitA, intA, aggA, aggV, boolA, nilA2, isConst, unA, loadA, loadRow, partA, partOk, fieldAddrA, indexAddrA, indexA, fieldA, extractA, lenA, nilCheckA, boxA, boxZ, cellA, cellsA, fillA, okParts, buildSliceA, buildMutA, makeSliceA, partIdx, elemsA, lensA, ifaceA, convA, mmA, pickA, okAll, stAll, opsA, partsA, partsOk, opA, allocA, boxMutA, newCells, okCells, storeObj, appendA, guardV, taA, nM, mapUpA, lookA, sliceA, sliceS, boundsA, opO, okO, copyA, dstOk, nilA, quietOk, nilSliceOp, deferV, panA, resA, argFr, retA.eq_1, retA.eq_2, Nat.reduceAdd, Nat.reduceSub, Nat.reduceMul, Nat.reduceLT, Nat.reduceLeDiff, Nat.reduceEqDiff, Nat.reduceBEq, Int.reduceAdd, Int.reduceSub, Int.reduceMul, Int.reduceNeg, Int.reduceLE, Int.reduceLT, Int.reduceEq, Int.reduceNe, Int.reduceToNat, ↓reduceIte, reduceCtorEq, implies_true, forall_const, eq_self, ne_eq, wtAll, Tryd.ntmps82, Tryd.results82, h3, h5, hmm, n3, n5, n3', n5', n35, n53, hh_i9, hh_i11, a1, a2, a3, a4, a5, a6, g11, g3, g5, gm, hh_i12, hh_i13, b1, b2, b3, b4, b5, b6, h1, h2, h3', h4, d1, d2, d3, d4, d5, d6]) ?_))
                  | some r =>
                    simp only [Option.map_some] at hqn
                    have hr := hV2 r rfl
                    simp only [vsAll, binA, binLitA, intA, unA, loadA, loadRow, partA, partOk, fieldAddrA, extractA, okAll, stAll, opsA, opA, dstOk, quietOk, Nat.reduceAdd, Nat.reduceLT, Nat.reduceEqDiff, ↓reduceIte, eq_self, wtAll, hh_i13, h1, h2, Option.getD_some]
                    refine ⟨by simp only [InR_i64]; ((try clear h3); (try clear h5); (try clear hmm); (try clear n3); (try clear n5); (try clear n3'); (try clear n5'); (try clear n35); (try clear n53); (try clear hh_i9); (try clear hh_i11); (try clear a1); (try clear a2); (try clear a3); (try clear a4); (try clear a5); (try clear a6); (try clear g11); (try clear g3); (try clear g5); (try clear gm); (try clear hh_i12); (try clear hh_i13); (try clear b1); (try clear b2); (try clear b3); (try clear b4); (try clear b5); (try clear b6); (try clear h1); (try clear h2); (try clear h3'); (try clear h4); (try clear d1); (try clear d2); (try clear d3); (try clear d4); (try clear d5); (try clear d6); omega), callK_pure (T.tM n (80 ^ n) (t - (s.sh.getD i sh0).fr) r _ (by ((try clear h3); (try clear h5); (try clear hmm); (try clear n3); (try clear n5); (try clear n3'); (try clear n5'); (try clear n35); (try clear n53); (try clear hh_i9); (try clear hh_i11); (try clear a1); (try clear a2); (try clear a3); (try clear a4); (try clear a5); (try clear a6); (try clear g11); (try clear g3); (try clear g5); (try clear gm); (try clear hh_i12); (try clear hh_i13); (try clear b1); (try clear b2); (try clear b3); (try clear b4); (try clear b5); (try clear b6); (try clear h1); (try clear h2); (try clear h3'); (try clear h4); (try clear d1); (try clear d2); (try clear d3); (try clear d4); (try clear d5); (try clear d6); omega)) (by ((try clear h3); (try clear h5); (try clear hmm); (try clear n3); (try clear n5); (try clear n3'); (try clear n5'); (try clear n35); (try clear n53); (try clear hh_i9); (try clear hh_i11); (try clear a1); (try clear a2); (try clear a3); (try clear a4); (try clear a5); (try clear a6); (try clear g11); (try clear g3); (try clear g5); (try clear gm); (try clear hh_i12); (try clear hh_i13); (try clear b1); (try clear b2); (try clear b3); (try clear b4); (try clear b5); (try clear b6); (try clear h1); (try clear h2); (try clear h3'); (try clear h4); (try clear d1); (try clear d2); (try clear d3); (try clear d4); (try clear d5); (try clear d6); omega)) (by ((try clear h3); (try clear h5); (try clear hmm); (try clear n3); (try clear n5); (try clear n3'); (try clear n5'); (try clear n35); (try clear n53); (try clear hh_i9); (try clear hh_i11); (try clear a1); (try clear a2); (try clear a3); (try clear a4); (try clear a5); (try clear a6); (try clear g11); (try clear g3); (try clear g5); (try clear gm); (try clear hh_i12); (try clear hh_i13); (try clear b1); (try clear b2); (try clear b3); (try clear b4); (try clear b5); (try clear b6); (try clear h1); (try clear h2); (try clear h3'); (try clear h4); (try clear d1); (try clear d2); (try clear d3); (try clear d4); (try clear d5); (try clear d6); omega)) (by ((try clear h3); (try clear h5); (try clear hmm); (try clear n3); (try clear n5); (try clear n3'); (try clear n5'); (try clear n35); (try clear n53); (try clear hh_i9); (try clear hh_i11); (try clear a1); (try clear a2); (try clear a3); (try clear a4); (try clear a5); (try clear a6); (try clear g11); (try clear g3); (try clear g5); (try clear gm); (try clear hh_i12); (try clear hh_i13); (try clear b1); (try clear b2); (try clear b3); (try clear b4); (try clear b5); (try clear b6); (try clear h1); (try clear h2); (try clear h3'); (try clear h4); (try clear d1); (try clear d2); (try clear d3); (try clear d4); (try clear d5); (try clear d6); omega)) hr) ?_⟩
                    have hsr := T.vd.hM n (80 ^ n) (t - (s.sh.getD i sh0).fr) r (by ((try clear h3); (try clear h5); (try clear hmm); (try clear n3); (try clear n5); (try clear n3'); (try clear n5'); (try clear n35); (try clear n53); (try clear hh_i9); (try clear hh_i11); (try clear a1); (try clear a2); (try clear a3); (try clear a4); (try clear a5); (try clear a6); (try clear g11); (try clear g3); (try clear g5); (try clear gm); (try clear hh_i12); (try clear hh_i13); (try clear b1); (try clear b2); (try clear b3); (try clear b4); (try clear b5); (try clear b6); (try clear h1); (try clear h2); (try clear h3'); (try clear h4); (try clear d1); (try clear d2); (try clear d3); (try clear d4); (try clear d5); (try clear d6); omega)) (by ((try clear h3); (try clear h5); (try clear hmm); (try clear n3); (try clear n5); (try clear n3'); (try clear n5'); (try clear n35); (try clear n53); (try clear hh_i9); (try clear hh_i11); (try clear a1); (try clear a2); (try clear a3); (try clear a4); (try clear a5); (try clear a6); (try clear g11); (try clear g3); (try clear g5); (try clear gm); (try clear hh_i12); (try clear hh_i13); (try clear b1); (try clear b2); (try clear b3); (try clear b4); (try clear b5); (try clear b6); (try clear h1); (try clear h2); (try clear h3'); (try clear h4); (try clear d1); (try clear d2); (try clear d3); (try clear d4); (try clear d5); (try clear d6); omega)) hr
                    cases hqj : qv j with
                    | none =>
                      rw [hqj] at hqn
                      simp only [comb] at hqn
                      simp only [vsAll, loadA, loadRow, partA, partOk, fieldAddrA, cellA, cellsA, fillA, okParts, partsA, partsOk, opA, newCells, okCells, storeObj, dstOk, quietOk, nilSliceOp, Nat.reduceAdd, Nat.reduceLT, Nat.reduceLeDiff, Nat.reduceEqDiff, ↓reduceIte, eq_self, wtAll, h1, h2]
                      refine ⟨⟨_, _, rfl⟩, _, ⟨(), rfl⟩, ?_⟩
                      rw [hqn]
                      simp only [Option.getD_some, Option.isSome_some]
                      (repeat (first | exact HSub_rfl | refine HSub_put_eq (by simp only [vsAll, ↓reduceIte, eq_self, hh_i12, hh_i13, h1, h2, h4]) ?_ | refine HSub_drop2 (by simp only [eq_self, g11, hh_i12, hh_i13, h1, h2]) ?_ | refine HSub_keep_eq (by simp only [vsAll, binA, binLitA, intA, aggA, aggV, boolA, nilA2, isConst, unA, loadA, loadRow, partA, partOk, fieldAddrA, indexAddrA, indexA, fieldA, extractA, lenA, nilCheckA, boxA, boxZ, cellA, cellsA, fillA, okParts, buildSliceA, buildMutA, makeSliceA, partIdx, elemsA, lensA, ifaceA, convA, mmA, pickA, okAll, stAll, opsA, partsA, partsOk, opA, allocA, boxMutA, newCells, okCells, storeObj, appendA, guardV, taA, nM, mapUpA, lookA, sliceA, sliceS, boundsA, opO, okO, copyA, dstOk, nilA, quietOk, nilSliceOp, deferV, panA, resA, argFr, retA.eq_1, retA.eq_2, Nat.reduceAdd, Nat.reduceSub, Nat.reduceMul, Nat.reduceLT, Nat.reduceLeDiff, Nat.reduceEqDiff, Nat.reduceBEq, Int.reduceAdd, Int.reduceSub, Int.reduceMul, Int.reduceNeg, Int.reduceLE, Int.reduceLT, Int.reduceEq, Int.reduceNe, Int.reduceToNat, ↓reduceIte, reduceCtorEq, implies_true, forall_const, eq_self, ne_eq, wtAll, Tryd.ntmps82, Tryd.results82, h3, h5, hmm, n3, n5, n3', n5', n35, n53, hh_i9, hh_i11, a1, a2, a3, a4, a5, a6, g11, g3, g5, gm, hh_i12, hh_i13, b1, b2, b3, b4, b5, b6, h1, h2, h3', h4, d1, d2, d3, d4, d5, d6]) ?_))
                    | some z =>
                      have hz := hVj z hqj
                      rw [hqj] at hqn
                      simp only [comb] at hqn
                      simp only [vsAll, loadA, loadRow, partA, partOk, fieldAddrA, okAll, stAll, opsA, opA, dstOk, quietOk, nilSliceOp, Nat.reduceLT, Nat.reduceEqDiff, ↓reduceIte, eq_self, wtAll, h1, h2, Option.getD_some]
                      refine callK_pure (T.tJ (n + 1) (96 * 80 ^ n) (80 ^ n) z _ _ (by ((try clear h3); (try clear h5); (try clear hmm); (try clear n3); (try clear n5); (try clear n3'); (try clear n5'); (try clear n35); (try clear n53); (try clear hh_i9); (try clear hh_i11); (try clear a1); (try clear a2); (try clear a3); (try clear a4); (try clear a5); (try clear a6); (try clear g11); (try clear g3); (try clear g5); (try clear gm); (try clear hh_i12); (try clear hh_i13); (try clear b1); (try clear b2); (try clear b3); (try clear b4); (try clear b5); (try clear b6); (try clear h1); (try clear h2); (try clear h3'); (try clear h4); (try clear d1); (try clear d2); (try clear d3); (try clear d4); (try clear d5); (try clear d6); omega)) (by ((try clear h3); (try clear h5); (try clear hmm); (try clear n3); (try clear n5); (try clear n3'); (try clear n5'); (try clear n35); (try clear n53); (try clear hh_i9); (try clear hh_i11); (try clear a1); (try clear a2); (try clear a3); (try clear a4); (try clear a5); (try clear a6); (try clear g11); (try clear g3); (try clear g5); (try clear gm); (try clear hh_i12); (try clear hh_i13); (try clear b1); (try clear b2); (try clear b3); (try clear b4); (try clear b5); (try clear b6); (try clear h1); (try clear h2); (try clear h3'); (try clear h4); (try clear d1); (try clear d2); (try clear d3); (try clear d4); (try clear d5); (try clear d6); omega)) hz hsr) ?_
                      simp only [vsAll, cellA, cellsA, fillA, okParts, partsA, partsOk, opA, newCells, okCells, storeObj, dstOk, quietOk, nilSliceOp, Nat.reduceAdd, Nat.reduceLT, Nat.reduceLeDiff, Nat.reduceEqDiff, ↓reduceIte, eq_self, wtAll, h1, h2]
                      refine ⟨⟨_, _, rfl⟩, _, ⟨(), rfl⟩, ?_⟩
                      rw [hqn]
                      simp only [Option.getD_some, Option.isSome_some]
                      (repeat (first | exact HSub_rfl | refine HSub_put_eq (by simp only [vsAll, ↓reduceIte, eq_self, hh_i12, hh_i13, h1, h2, h4]) ?_ | refine HSub_drop2 (by simp only [eq_self, g11, hh_i12, hh_i13, h1, h2]) ?_ | refine HSub_keep_eq (by simp only [vsAll, binA, binLitA, intA, aggA, aggV, boolA, nilA2, isConst, unA, loadA, loadRow, partA, partOk, fieldAddrA, indexAddrA, indexA, fieldA, extractA, lenA, nilCheckA, boxA, boxZ, cellA, cellsA, fillA, okParts, buildSliceA, buildMutA, makeSliceA, partIdx, elemsA, lensA, ifaceA, convA, mmA, pickA, okAll, stAll, opsA, partsA, partsOk, opA, allocA, boxMutA, newCells, okCells, storeObj, appendA, guardV, taA, nM, mapUpA, lookA, sliceA, sliceS, boundsA, opO, okO, copyA, dstOk, nilA, quietOk, nilSliceOp, deferV, panA, resA, argFr, retA.eq_1, retA.eq_2, Nat.reduceAdd, Nat.reduceSub, Nat.reduceMul, Nat.reduceLT, Nat.reduceLeDiff, Nat.reduceEqDiff, Nat.reduceBEq, Int.reduceAdd, Int.reduceSub, Int.reduceMul, Int.reduceNeg, Int.reduceLE, Int.reduceLT, Int.reduceEq, Int.reduceNe, Int.reduceToNat, ↓reduceIte, reduceCtorEq, implies_true, forall_const, eq_self, ne_eq, wtAll, Tryd.ntmps82, Tryd.results82, h3, h5, hmm, n3, n5, n3', n5', n35, n53, hh_i9, hh_i11, a1, a2, a3, a4, a5, a6, g11, g3, g5, gm, hh_i12, hh_i13, b1, b2, b3, b4, b5, b6, h1, h2, h3', h4, d1, d2, d3, d4, d5, d6]) ?_))
              · rintro ⟨⟩ _ lid did lo h1 h2 h3'
                simp only [Hp.set_none] at h1 h2
                have h4 : ¬ did = lid := fun e => h3' e.symm
                have d1 := ne_some h1.2.2.2 g3
                have d2 := ne_some h1.2.2.2 g5
                have d3 := ne_some h1.2.2.2 gm
                have d4 := ne_some h2.2.2.2 g3
                have d5 := ne_some h2.2.2.2 g5
                have d6 := ne_some h2.2.2.2 gm
                skip
                have el : (bitsA (m i)).length = (bitsL (m i)).length := by simp [bitsA]
                have hinv : i + 1 ≤ s.sh.length ∧ Mk H (did :: lm) (G.set did dfO) ∧ (G.set did dfO) i11 = none ∧ (G.set did dfO) i3 = some (.box 1 1 fun _ => [.map im]) ∧ (G.set did dfO) i5 = some (.box 1 1 fun _ => [onF s u m e0 fs fj cs cj i3 i5]) ∧ (G.set did dfO) im = some (.memo (memT x)) :=
                  ⟨by ((try clear h3); (try clear h5); (try clear hmm); (try clear n3); (try clear n5); (try clear n3'); (try clear n5'); (try clear n35); (try clear n53); (try clear hh_i9); (try clear hh_i11); (try clear a1); (try clear a2); (try clear a3); (try clear a4); (try clear a5); (try clear a6); (try clear g11); (try clear g3); (try clear g5); (try clear gm); (try clear hh_i12); (try clear hh_i13); (try clear b1); (try clear b2); (try clear b3); (try clear b4); (try clear b5); (try clear b6); (try clear h1); (try clear h2); (try clear h3'); (try clear h4); (try clear d1); (try clear d2); (try clear d3); (try clear d4); (try clear d5); (try clear d6); omega), hG.cons (by simp only [h2]), by simp only [vsAll, ↓reduceIte, eq_self, g11, h2], by simp only [vsAll, ↓reduceIte, eq_self, g3, d4], by simp only [vsAll, ↓reduceIte, eq_self, g5, d5], by simp only [vsAll, ↓reduceIte, eq_self, gm, d6]⟩
                rw [el, hqe]
                simp only [vsAll, binA, binLitA, intA, opA, dstOk, Nat.reduceLT, Nat.reduceEqDiff, ↓reduceIte, eq_self]
                refine ⟨by simp only [InR_i64]; ((try clear h3); (try clear h5); (try clear hmm); (try clear n3); (try clear n5); (try clear n3'); (try clear n5'); (try clear n35); (try clear n53); (try clear hh_i9); (try clear hh_i11); (try clear a1); (try clear a2); (try clear a3); (try clear a4); (try clear a5); (try clear a6); (try clear g11); (try clear g3); (try clear g5); (try clear gm); (try clear hh_i12); (try clear hh_i13); (try clear b1); (try clear b2); (try clear b3); (try clear b4); (try clear b5); (try clear b6); (try clear h1); (try clear h2); (try clear h3'); (try clear h4); (try clear d1); (try clear d2); (try clear d3); (try clear d4); (try clear d5); (try clear d6); omega), loopD_next (i + 1, G.set did dfO, did :: lm) hinv (by simp only []; ((try clear h3); (try clear h5); (try clear hmm); (try clear n3); (try clear n5); (try clear n3'); (try clear n5'); (try clear n35); (try clear n53); (try clear hh_i9); (try clear hh_i11); (try clear a1); (try clear a2); (try clear a3); (try clear a4); (try clear a5); (try clear a6); (try clear g11); (try clear g3); (try clear g5); (try clear gm); (try clear hh_i12); (try clear hh_i13); (try clear b1); (try clear b2); (try clear b3); (try clear b4); (try clear b5); (try clear b6); (try clear h1); (try clear h2); (try clear h3'); (try clear h4); (try clear d1); (try clear d2); (try clear d3); (try clear d4); (try clear d5); (try clear d6); omega)) ?_ rfl ?_⟩
                · simp only [vsAll, Nat.reduceEqDiff, ↓reduceIte, eq_self, Int.natCast_add, Int.natCast_one]
                · simp only []; (repeat (first | exact HSub_rfl | refine HSub_put_eq (by simp only [vsAll, ↓reduceIte, eq_self, h1, h2, h4]) ?_ | refine HSub_drop2 (by simp only [eq_self, g11, hh_i12, hh_i13, h1, h2]) ?_ | refine HSub_keep_eq (by simp only [vsAll, binA, binLitA, intA, aggA, aggV, boolA, nilA2, isConst, unA, loadA, loadRow, partA, partOk, fieldAddrA, indexAddrA, indexA, fieldA, extractA, lenA, nilCheckA, boxA, boxZ, cellA, cellsA, fillA, okParts, buildSliceA, buildMutA, makeSliceA, partIdx, elemsA, lensA, ifaceA, convA, mmA, pickA, okAll, stAll, opsA, partsA, partsOk, opA, allocA, boxMutA, newCells, okCells, storeObj, appendA, guardV, taA, nM, mapUpA, lookA, sliceA, sliceS, boundsA, opO, okO, copyA, dstOk, nilA, quietOk, nilSliceOp, deferV, panA, resA, argFr, retA.eq_1, retA.eq_2, Nat.reduceAdd, Nat.reduceSub, Nat.reduceMul, Nat.reduceLT, Nat.reduceLeDiff, Nat.reduceEqDiff, Nat.reduceBEq, Int.reduceAdd, Int.reduceSub, Int.reduceMul, Int.reduceNeg, Int.reduceLE, Int.reduceLT, Int.reduceEq, Int.reduceNe, Int.reduceToNat, ↓reduceIte, reduceCtorEq, implies_true, forall_const, eq_self, ne_eq, wtAll, Tryd.ntmps82, Tryd.results82, h3, h5, hmm, n3, n5, n3', n5', n35, n53, hh_i9, hh_i11, a1, a2, a3, a4, a5, a6, g11, g3, g5, gm, hh_i12, hh_i13, b1, b2, b3, b4, b5, b6, h1, h2, h3', h4, d1, d2, d3, d4, d5, d6]) ?_))
          · have ei : i = s.sh.length := by ((try clear h3); (try clear h5); (try clear hmm); (try clear n3); (try clear n5); (try clear n3'); (try clear n5'); (try clear n35); (try clear n53); (try clear hh_i9); (try clear hh_i11); (try clear a1); (try clear a2); (try clear a3); (try clear a4); (try clear a5); (try clear a6); (try clear g11); (try clear g3); (try clear g5); (try clear gm); omega)
            subst ei
            have hv := hmi had free hh hfr
            rw [hc, hfd] at hv
            rw [hfd]
            simp only [vsAll, loadA, loadRow, partA, partOk, opA, mapUpA, dstOk, Nat.reduceLT, Nat.reduceEqDiff, ↓reduceIte, eq_self, wtAll, hh_i11, a4, g3, gm]
            refine ⟨94, 122, und119, key94, hkey, hmk, hv, ?_⟩
            refine vs_draw2 [0, 0, 0, 0, 1, 3] [([0, 1, 2, 3], [3], 4), ([], [], 5)] [] (by decide +kernel) ?_
            simp only [vsAll, loadA, loadRow, partA, partOk, fieldAddrA, opA, dstOk, nilSliceOp, Nat.reduceLT, Nat.reduceEqDiff, ↓reduceIte, eq_self, wtAll]
            rw [show lm.map AD.mark = lm.map AD.mark ++ [] from (List.append_nil _).symm]
            refine popM_many (H := H) hG.nodup (fun d hd' => ?_) hG.base ?_ (fun B K' => rfl) (fun B hB hs => ?_)
            · have q1 : ¬ d = i11 := fun e => by rw [e] at hd'; rw [hG.at' i11 hd'] at g11; cases g11
              have q4 := hG.at' d hd'
              simp only [vsAll, ↓reduceIte, eq_self, q1, q4]
            · (repeat (first | exact HSub_rfl | refine HSub_put_eq (by simp only [vsAll, binA, binLitA, intA, aggA, aggV, boolA, nilA2, isConst, unA, loadA, loadRow, partA, partOk, fieldAddrA, indexAddrA, indexA, fieldA, extractA, lenA, nilCheckA, boxA, boxZ, cellA, cellsA, fillA, okParts, buildSliceA, buildMutA, makeSliceA, partIdx, elemsA, lensA, ifaceA, convA, mmA, pickA, okAll, stAll, opsA, partsA, partsOk, opA, allocA, boxMutA, newCells, okCells, storeObj, appendA, guardV, taA, nM, mapUpA, lookA, sliceA, sliceS, boundsA, opO, okO, copyA, dstOk, nilA, quietOk, nilSliceOp, deferV, panA, resA, argFr, retA.eq_1, retA.eq_2, Nat.reduceAdd, Nat.reduceSub, Nat.reduceMul, Nat.reduceLT, Nat.reduceLeDiff, Nat.reduceEqDiff, Nat.reduceBEq, Int.reduceAdd, Int.reduceSub, Int.reduceMul, Int.reduceNeg, Int.reduceLE, Int.reduceLT, Int.reduceEq, Int.reduceNe, Int.reduceToNat, ↓reduceIte, reduceCtorEq, implies_true, forall_const, eq_self, ne_eq, wtAll, Tryd.ntmps82, Tryd.results82, h3, h5, hmm, n3, n5, n3', n5', n35, n53, hh_i9, hh_i11, a1, a2, a3, a4, a5, a6, g11, g3, g5, gm]) ?_ | refine HSub_drop2 (by simp only [eq_self, hh_i11]) ?_ | refine HSub_keep_eq (by simp only [vsAll, binA, binLitA, intA, aggA, aggV, boolA, nilA2, isConst, unA, loadA, loadRow, partA, partOk, fieldAddrA, indexAddrA, indexA, fieldA, extractA, lenA, nilCheckA, boxA, boxZ, cellA, cellsA, fillA, okParts, buildSliceA, buildMutA, makeSliceA, partIdx, elemsA, lensA, ifaceA, convA, mmA, pickA, okAll, stAll, opsA, partsA, partsOk, opA, allocA, boxMutA, newCells, okCells, storeObj, appendA, guardV, taA, nM, mapUpA, lookA, sliceA, sliceS, boundsA, opO, okO, copyA, dstOk, nilA, quietOk, nilSliceOp, deferV, panA, resA, argFr, retA.eq_1, retA.eq_2, Nat.reduceAdd, Nat.reduceSub, Nat.reduceMul, Nat.reduceLT, Nat.reduceLeDiff, Nat.reduceEqDiff, Nat.reduceBEq, Int.reduceAdd, Int.reduceSub, Int.reduceMul, Int.reduceNeg, Int.reduceLE, Int.reduceLT, Int.reduceEq, Int.reduceNe, Int.reduceToNat, ↓reduceIte, reduceCtorEq, implies_true, forall_const, eq_self, ne_eq, wtAll, Tryd.ntmps82, Tryd.results82, h3, h5, hmm, n3, n5, n3', n5', n35, n53, hh_i9, hh_i11, a1, a2, a3, a4, a5, a6, g11, g3, g5, gm]) ?_))
              exact hG.sub
            · simp only [vsAll, resA, retA.eq_2, Nat.reduceEqDiff, ↓reduceIte, eq_self, Tryd.results82]
              exact dropR_pure rfl hs
      · obtain ⟨had', free', h1, h2⟩ := hme _ _ (hes en (by
          have := Array.getElem?_eq_some_iff.1 hj
          obtain ⟨hl, rfl⟩ := this
          simp))
        have hval : en.val = knV ((fiS s m e0 step join).fd (n + 1) had free) := by
          rw [hkn] at h1
          simp only [stV, Value.agg.injEq, Array.mk.injEq, List.cons.injEq, Value.int.injEq, true_and, and_true] at h1
          obtain ⟨q1, rfl⟩ := h1
          have q2 : had' = had := by ((try clear h3); (try clear h5); (try clear hmm); (try clear n3); (try clear n5); (try clear n3'); (try clear n5'); (try clear n35); (try clear n53); omega)
          subst q2
          rw [h2, hc]
        generalize (fiS s m e0 step join).fd (n + 1) had free = tv at hval
        simp only [vsAll, cellA, okCells, Nat.reduceAdd, eq_self, hval]
        intro i9 hh_i9; (try simp only [ite_none] at hh_i9)
        refine vs_draw2 [0, 0, 0, 0, 1, 3] [([0, 1, 2, 3], [3], 4), ([], [], 5)] [] (by decide +kernel) ?_
        simp only [vsAll, loadA, loadRow, partA, partOk, fieldAddrA, opA, dstOk, nilSliceOp, resA, retA.eq_2, Nat.reduceLT, Nat.reduceEqDiff, ↓reduceIte, eq_self, wtAll, Tryd.results82]
        rw [Hp.set_set]
        exact dropR_pure rfl (HSub.drop hback (by rw [Hp.set_ne _ _ hh_i9.1.1]; exact hh_i9.2))
end Go.Proofs.YtnmgegodkmgdeaaDoor
end
section
set_option linter.unusedVariables false
set_option linter.unusedSimpArgs false
set_option maxHeartbeats 4000000
set_option maxRecDepth 100000
namespace Go.Proofs.YtnmgegodkmgdeaaDoor
open Go.V
theorem azT119 : azT Tryd.prog 119 = some (1, 1, [.map none]) := by kernel_rfl
theorem azT120 : azT Tryd.prog 120 = some (1, 1, [.nilFunc]) := by kernel_rfl
/-- What is found behind some ships. -/
def Fi.fnd (x : Fi) (had : Nat) (free : Int) : Option Int := x.fd (cnt x.N had) had free
theorem find_tri (s : Sl) (u : Bool) (m : Nat → Nat) (e0 : Int) (step join : Int → Int → Int) (fs fj : Fn) (cs cj : List AV) (had : Nat) (free : Int) (H : Hp) (k : Ok s) (hm : ∀ i, m i < 2 ^ 16) (T : Gol (fiS s m e0 step join) fs fj cs cj)
    (hh : had < 2 ^ s.sh.length) (hfr : -100 ≤ free ∧ free ≤ 100) :
    PTri Tryd.prog (fnA 58) [opP s u, bthAV m, .agg [i64 e0, .func fs [] cs, .func fj [] cj], .agg [i64 had, i64 free]] H (knA ((fiS s m e0 step join).fnd had free)) := by
  refine Tri.drop ?_
  refine tri_v0 (fun _ => false) Tryd.func58 (by kernel_rfl) rfl (by simp only [List.length_append, List.length_cons, List.length_nil, Tryd.ntmps58]; decide) ?_
  simp only [vsAll, loadA, loadRow, partA, partOk, boxA, boxZ, cellA, cellsA, okAll, stAll, opsA, opA, allocA, newCells, okCells, storeObj, nM, dstOk, nilSliceOp, argFr, Nat.reduceAdd, Nat.reduceLT, Nat.reduceEqDiff, ↓reduceIte, eq_self, wtAll, Tryd.ntmps58, azT119, azT120]
  intro im hh_im; (try simp only [Hp.set_none, ite_none] at hh_im); intro i3 hh_i3; (try simp only [ite_none] at hh_i3); intro i5 hh_i5; (try simp only [ite_none] at hh_i5)
  rw [Hp.set_set, Hp.set_set]
  have hs : Go.V.HSub (((H.set im (.raw (.map #[] 0))).set i3 (.box 1 1 fun _ => [.map im])).set i5 (.box 1 1 fun _ => [onF s u m e0 fs fj cs cj i3 i5])) (((H.set im (.memo (memT (fiS s m e0 step join)))).set i3 (.box 1 1 fun _ => [.map im])).set i5 (.box 1 1 fun _ => [onF s u m e0 fs fj cs cj i3 i5])) := HSub.set (HSub.set (HSub.set (HSub.refl _) (memo_le (by simp) (by simp))) (.refl _)) (.refl _)
  refine callK (Tri.less hs (on_tri (u := u) (i3 := i3) (i5 := i5) (im := im) k hm T (cnt s.sh.length had) had free _ rfl hh hfr (by simp only [vsAll, ↓reduceIte, eq_self, hh_i5]) (by simp only [vsAll, ↓reduceIte, eq_self]) (by simp only [vsAll, ↓reduceIte, eq_self, hh_i3, hh_i5]))) ?_
  rintro r H' ⟨rfl, rfl⟩
  simp only [vsAll, extractA, opA, dstOk, nilSliceOp, resA, retA.eq_2, Nat.reduceAdd, Nat.reduceLT, Nat.reduceEqDiff, ↓reduceIte, eq_self, Tryd.results58]
  exact dropR_pure rfl (by (repeat (first | exact HSub_rfl | refine HSub_put_eq (by simp only [vsAll, binA, binLitA, intA, aggA, aggV, boolA, nilA2, isConst, unA, loadA, loadRow, partA, partOk, fieldAddrA, indexAddrA, indexA, fieldA, extractA, lenA, nilCheckA, boxA, boxZ, cellA, cellsA, fillA, okParts, buildSliceA, buildMutA, makeSliceA, partIdx, elemsA, lensA, ifaceA, convA, mmA, pickA, okAll, stAll, opsA, partsA, partsOk, opA, allocA, boxMutA, newCells, okCells, storeObj, appendA, guardV, taA, nM, mapUpA, lookA, sliceA, sliceS, boundsA, opO, okO, copyA, dstOk, nilA, quietOk, nilSliceOp, deferV, panA, resA, argFr, retA.eq_1, retA.eq_2, Nat.reduceAdd, Nat.reduceSub, Nat.reduceMul, Nat.reduceLT, Nat.reduceLeDiff, Nat.reduceEqDiff, Nat.reduceBEq, Int.reduceAdd, Int.reduceSub, Int.reduceMul, Int.reduceNeg, Int.reduceLE, Int.reduceLT, Int.reduceEq, Int.reduceNe, Int.reduceToNat, ↓reduceIte, reduceCtorEq, implies_true, forall_const, eq_self, ne_eq, wtAll, Tryd.ntmps58, Tryd.results58, hh_im, hh_i3, hh_i5]) ?_ | refine HSub_drop2 (by simp only [eq_self, hh_im, hh_i3, hh_i5]) ?_ | refine HSub_keep_eq (by simp only [vsAll, binA, binLitA, intA, aggA, aggV, boolA, nilA2, isConst, unA, loadA, loadRow, partA, partOk, fieldAddrA, indexAddrA, indexA, fieldA, extractA, lenA, nilCheckA, boxA, boxZ, cellA, cellsA, fillA, okParts, buildSliceA, buildMutA, makeSliceA, partIdx, elemsA, lensA, ifaceA, convA, mmA, pickA, okAll, stAll, opsA, partsA, partsOk, opA, allocA, boxMutA, newCells, okCells, storeObj, appendA, guardV, taA, nM, mapUpA, lookA, sliceA, sliceS, boundsA, opO, okO, copyA, dstOk, nilA, quietOk, nilSliceOp, deferV, panA, resA, argFr, retA.eq_1, retA.eq_2, Nat.reduceAdd, Nat.reduceSub, Nat.reduceMul, Nat.reduceLT, Nat.reduceLeDiff, Nat.reduceEqDiff, Nat.reduceBEq, Int.reduceAdd, Int.reduceSub, Int.reduceMul, Int.reduceNeg, Int.reduceLE, Int.reduceLT, Int.reduceEq, Int.reduceNe, Int.reduceToNat, ↓reduceIte, reduceCtorEq, implies_true, forall_const, eq_self, ne_eq, wtAll, Tryd.ntmps58, Tryd.results58, hh_im, hh_i3, hh_i5]) ?_)))
/-- All plans. -/
abbrev cntF (s : Sl) (m : Nat → Nat) : Fi := fiS s m 1 (fun _ r => r) (fun a b => a + b)
/-- The longest wait. -/
abbrev lngF (s : Sl) (m : Nat → Nat) : Fi := fiS s m 0 max min
/-- All waits together. -/
abbrev sumF (s : Sl) (m : Nat → Nat) : Fi := fiS s m 0 (fun w r => w + r) min
theorem cnt2_tri (w r : Int) (H : Hp) : PTri Tryd.prog (.func (.func 59) [] []) [i64 w, i64 r] H (i64 r) := by
  refine tri_v0 (fun _ => false) Tryd.func59 (by kernel_rfl) rfl (by simp only [List.length_append, List.length_cons, List.length_nil, Tryd.ntmps59]; decide) ?_
  simp only [vsAll, opA, dstOk, nilSliceOp, resA, argFr, retA.eq_1, Nat.reduceLT, Nat.reduceEqDiff, ↓reduceIte, eq_self, Tryd.ntmps59, Tryd.results59]
theorem cnt3_tri (a b : Int) (H : Hp) (h : InR .i64 (a + b)) : PTri Tryd.prog (.func (.func 60) [] []) [i64 a, i64 b] H (i64 (a + b)) := by
  refine tri_v0 (fun _ => false) Tryd.func60 (by kernel_rfl) rfl (by simp only [List.length_append, List.length_cons, List.length_nil, Tryd.ntmps60]; decide) ?_
  simp only [vsAll, binA, binLitA, intA, opA, dstOk, nilSliceOp, resA, argFr, retA.eq_1, Nat.reduceLT, Nat.reduceEqDiff, ↓reduceIte, reduceCtorEq, eq_self, Tryd.ntmps60, Tryd.results60]
  exact h
theorem lng_tri (w r : Int) (H : Hp) : PTri Tryd.prog (.func (.func 84) [] []) [i64 w, i64 r] H (i64 (max w r)) := by
  refine tri_v0 (fun _ => false) Tryd.func84 (by kernel_rfl) rfl (by simp only [List.length_append, List.length_cons, List.length_nil, Tryd.ntmps84]; decide) ?_
  simp only [vsAll, mmA, okAll, stAll, opsA, opA, dstOk, nilSliceOp, resA, argFr, retA.eq_1, Nat.reduceLT, Nat.reduceEqDiff, ↓reduceIte, reduceCtorEq, eq_self, Tryd.ntmps84, Tryd.results84]
theorem less_tri (a b : Int) (H : Hp) : PTri Tryd.prog (.func (.func 85) [] []) [i64 a, i64 b] H (i64 (min a b)) := by
  refine tri_v0 (fun _ => false) Tryd.func85 (by kernel_rfl) rfl (by simp only [List.length_append, List.length_cons, List.length_nil, Tryd.ntmps85]; decide) ?_
  simp only [vsAll, mmA, okAll, stAll, opsA, opA, dstOk, nilSliceOp, resA, argFr, retA.eq_1, Nat.reduceLT, Nat.reduceEqDiff, ↓reduceIte, reduceCtorEq, eq_self, Tryd.ntmps85, Tryd.results85]
theorem waits2_tri (a b : Int) (f : Nat → List AV) (H : Hp) (h0 : f 0 = [i64 a]) (h1 : f 1 = [i64 b]) (ha : -10000 ≤ a ∧ a ≤ 10000) (hb : -10000 ≤ b ∧ b ≤ 10000) : PTri Tryd.prog (fnA 87) [.rsl 2 1 f] H (i64 (a + b)) := by
  refine tri_v0 (fun _ => false) Tryd.func87 (by kernel_rfl) rfl (by simp only [List.length_append, List.length_cons, List.length_nil, Tryd.ntmps87]; decide) ?_
  simp only [vsAll, lenA, opA, dstOk, nilSliceOp, argFr, Nat.reduceLT, ↓reduceIte, reduceCtorEq, eq_self, wtAll, Tryd.ntmps87]
  refine vs_loop (σ := Nat) (fun i => i ≤ 2) (fun i => [(2, i64 (if i = 0 then 0 else if i = 1 then a else a + b)), (5, .rsl 2 1 f), (6, i64 (2 : Nat)), (7, i64 i)]) (fun _ => H) (fun i => 2 - i) 0 (Nat.zero_le _) ?_ (HSub.refl _) fun i hi => ?_
  · simp only [vsAll, Nat.reduceEqDiff, ↓reduceIte, eq_self, Int.natCast_zero]
  · simp only [vsAll, binA, binLitA, intA, opA, dstOk, Nat.reduceLT, Nat.reduceEqDiff, ↓reduceIte, eq_self]
    refine condD (fun hd => ?_) (fun hd => ?_)
    · have h2 : i = 0 ∨ i = 1 := by omega
      rcases h2 with rfl | rfl
      · simp only [vsAll, binA, binLitA, intA, loadA, loadRow, partA, partOk, indexAddrA, opA, dstOk, nilSliceOp, Nat.reduceLT, Nat.reduceEqDiff, ↓reduceIte, eq_self, wtAll, h0]
        refine ⟨⟨by omega, by omega⟩, by simp only [InR_i64]; omega, by simp only [InR_i64]; omega, loop_next 1 (by omega) (by omega) ?_ (HSub.refl _)⟩
        have e : (0 : Int) + a = a := by omega
        simp only [vsAll, Nat.reduceEqDiff, ↓reduceIte, reduceCtorEq, eq_self, e]
        exact AV.Le.refl _
      · simp only [vsAll, binA, binLitA, intA, loadA, loadRow, partA, partOk, indexAddrA, opA, dstOk, nilSliceOp, Nat.reduceLT, Nat.reduceEqDiff, ↓reduceIte, reduceCtorEq, eq_self, wtAll, h1]
        refine ⟨⟨by omega, by omega⟩, by simp only [InR_i64]; omega, by simp only [InR_i64]; omega, loop_next 2 (by omega) (by omega) ?_ (HSub.refl _)⟩
        simp only [vsAll, Nat.reduceEqDiff, ↓reduceIte, reduceCtorEq, eq_self]
        exact AV.Le.refl _
    · have ei : i = 2 := by omega
      subst ei
      simp only [vsAll, opA, dstOk, nilSliceOp, resA, retA.eq_1, Nat.reduceLT, Nat.reduceEqDiff, ↓reduceIte, reduceCtorEq, eq_self, Tryd.results87]
theorem sum_tri (w r : Int) (H : Hp) (ha : -10000 ≤ w ∧ w ≤ 10000) (hb : -10000 ≤ r ∧ r ≤ 10000) : PTri Tryd.prog (.func (.func 86) [] []) [i64 w, i64 r] H (i64 (w + r)) := by
  refine tri_v0 (fun _ => false) Tryd.func86 (by kernel_rfl) rfl (by simp only [List.length_append, List.length_cons, List.length_nil, Tryd.ntmps86]; decide) ?_
  simp only [vsAll, cellA, cellsA, okParts, buildSliceA, partIdx, elemsA, lensA, okAll, stAll, opsA, partsA, partsOk, opA, dstOk, nilSliceOp, argFr, Nat.reduceAdd, Nat.reduceMul, Nat.reduceLT, Nat.reduceLeDiff, Nat.reduceEqDiff, ↓reduceIte, reduceCtorEq, eq_self, wtAll, Tryd.ntmps86]
  refine callK_pure (waits2_tri w r _ _ rfl rfl ha hb) ?_
  simp only [vsAll, opA, dstOk, nilSliceOp, resA, retA.eq_1, Nat.reduceLT, ↓reduceIte, eq_self, Tryd.results86]
def cntG (s : Sl) (m : Nat → Nat) : Gol (cntF s m) (.func 59) (.func 60) [] [] where
  V := fun _ k v => 0 ≤ v ∧ v ≤ k
  vd := ⟨fun n j k a h h2 => ⟨h2.1, by omega⟩, ⟨by show (0 : Int) ≤ 1; decide, by show (1 : Int) ≤ ((1 : Nat) : Int); decide⟩, fun n k w r _ _ h => h, fun n j k a b h h2 => ⟨by show 0 ≤ a + b; omega, by show a + b ≤ _; omega⟩⟩
  tM := fun n k w r H _ _ _ _ _ => cnt2_tri w r H
  tJ := fun n j k a b H hn hk ha hb => cnt3_tri a b H (by simp only [InR_i64]; omega)
def lngG (s : Sl) (m : Nat → Nat) : Gol (lngF s m) (.func 84) (.func 85) [] [] where
  V := fun _ _ v => 0 ≤ v ∧ v ≤ 16
  vd := ⟨fun n j k a h h2 => h2, ⟨by show (0 : Int) ≤ 0; decide, by show (0 : Int) ≤ 16; decide⟩, fun n k w r h1 h2 h => by show 0 ≤ max w r ∧ max w r ≤ 16; omega, fun n j k a b h h2 => by show 0 ≤ min a b ∧ min a b ≤ 16; omega⟩
  tM := fun n k w r H _ _ _ _ _ => lng_tri w r H
  tJ := fun n j k a b H hn hk ha hb => less_tri a b H
def sumG (s : Sl) (m : Nat → Nat) : Gol (sumF s m) (.func 86) (.func 85) [] [] where
  V := fun n _ v => -16 * (n : Int) ≤ v ∧ v ≤ 16 * (n : Int)
  vd := ⟨fun n j k a h h2 => h2, ⟨by show -16 * ((0 : Nat) : Int) ≤ 0; decide, by show (0 : Int) ≤ 16 * ((0 : Nat) : Int); decide⟩, fun n k w r h1 h2 h => by show -16 * ((n + 1 : Nat) : Int) ≤ w + r ∧ w + r ≤ 16 * ((n + 1 : Nat) : Int); omega, fun n j k a b h h2 => by show -16 * (n : Int) ≤ min a b ∧ min a b ≤ 16 * (n : Int); omega⟩
  tM := fun n k w r H hn _ h1 h2 h => sum_tri w r H (by omega) (by omega)
  tJ := fun n j k a b H hn hk ha hb => less_tri a b H
theorem longest_tri (H : Hp) : PTri Tryd.prog (fnA 64) [] H (.agg [i64 0, .func (.func 84) [] [], .func (.func 85) [] []]) := by
  refine Tri.drop ?_
  refine tri_v0 (fun _ => false) Tryd.func64 (by kernel_rfl) rfl (by simp only [List.length_append, List.length_nil, Tryd.ntmps64]; decide) ?_
  simp only [vsAll, loadA, loadRow, partA, partOk, cellA, cellsA, fillA, okParts, partsA, partsOk, opA, allocA, newCells, okCells, storeObj, dstOk, resA, retA.eq_1, Nat.reduceAdd, Nat.reduceLT, Nat.reduceLeDiff, ↓reduceIte, reduceCtorEq, eq_self, wtAll, Tryd.ntmps64, Tryd.results64]
  intro i0 hh_i0; (try simp only [Hp.set_none, ite_none] at hh_i0)
  exact dropR_pure rfl (by (repeat (first | exact HSub_rfl | refine HSub_put_eq (by simp only [vsAll, binA, binLitA, intA, aggA, aggV, boolA, nilA2, isConst, unA, loadA, loadRow, partA, partOk, fieldAddrA, indexAddrA, indexA, fieldA, extractA, lenA, nilCheckA, boxA, boxZ, cellA, cellsA, fillA, okParts, buildSliceA, buildMutA, makeSliceA, partIdx, elemsA, lensA, ifaceA, convA, mmA, pickA, okAll, stAll, opsA, partsA, partsOk, opA, allocA, boxMutA, newCells, okCells, storeObj, appendA, guardV, taA, nM, mapUpA, lookA, sliceA, sliceS, boundsA, opO, okO, copyA, dstOk, nilA, quietOk, nilSliceOp, deferV, panA, resA, argFr, retA.eq_1, retA.eq_2, Nat.reduceAdd, Nat.reduceSub, Nat.reduceMul, Nat.reduceLT, Nat.reduceLeDiff, Nat.reduceEqDiff, Nat.reduceBEq, Int.reduceAdd, Int.reduceSub, Int.reduceMul, Int.reduceNeg, Int.reduceLE, Int.reduceLT, Int.reduceEq, Int.reduceNe, Int.reduceToNat, ↓reduceIte, reduceCtorEq, implies_true, forall_const, eq_self, ne_eq, wtAll, Tryd.ntmps64, Tryd.results64, hh_i0]) ?_ | refine HSub_drop2 (by simp only [eq_self, hh_i0]) ?_ | refine HSub_keep_eq (by simp only [vsAll, binA, binLitA, intA, aggA, aggV, boolA, nilA2, isConst, unA, loadA, loadRow, partA, partOk, fieldAddrA, indexAddrA, indexA, fieldA, extractA, lenA, nilCheckA, boxA, boxZ, cellA, cellsA, fillA, okParts, buildSliceA, buildMutA, makeSliceA, partIdx, elemsA, lensA, ifaceA, convA, mmA, pickA, okAll, stAll, opsA, partsA, partsOk, opA, allocA, boxMutA, newCells, okCells, storeObj, appendA, guardV, taA, nM, mapUpA, lookA, sliceA, sliceS, boundsA, opO, okO, copyA, dstOk, nilA, quietOk, nilSliceOp, deferV, panA, resA, argFr, retA.eq_1, retA.eq_2, Nat.reduceAdd, Nat.reduceSub, Nat.reduceMul, Nat.reduceLT, Nat.reduceLeDiff, Nat.reduceEqDiff, Nat.reduceBEq, Int.reduceAdd, Int.reduceSub, Int.reduceMul, Int.reduceNeg, Int.reduceLE, Int.reduceLT, Int.reduceEq, Int.reduceNe, Int.reduceToNat, ↓reduceIte, reduceCtorEq, implies_true, forall_const, eq_self, ne_eq, wtAll, Tryd.ntmps64, Tryd.results64, hh_i0]) ?_)))
theorem sumg_tri (H : Hp) : PTri Tryd.prog (fnA 67) [] H (.agg [i64 0, .func (.func 86) [] [], .func (.func 85) [] []]) := by
  refine Tri.drop ?_
  refine tri_v0 (fun _ => false) Tryd.func67 (by kernel_rfl) rfl (by simp only [List.length_append, List.length_nil, Tryd.ntmps67]; decide) ?_
  simp only [vsAll, loadA, loadRow, partA, partOk, cellA, cellsA, fillA, okParts, partsA, partsOk, opA, allocA, newCells, okCells, storeObj, dstOk, resA, retA.eq_1, Nat.reduceAdd, Nat.reduceLT, Nat.reduceLeDiff, ↓reduceIte, reduceCtorEq, eq_self, wtAll, Tryd.ntmps67, Tryd.results67]
  intro i0 hh_i0; (try simp only [Hp.set_none, ite_none] at hh_i0)
  exact dropR_pure rfl (by (repeat (first | exact HSub_rfl | refine HSub_put_eq (by simp only [vsAll, binA, binLitA, intA, aggA, aggV, boolA, nilA2, isConst, unA, loadA, loadRow, partA, partOk, fieldAddrA, indexAddrA, indexA, fieldA, extractA, lenA, nilCheckA, boxA, boxZ, cellA, cellsA, fillA, okParts, buildSliceA, buildMutA, makeSliceA, partIdx, elemsA, lensA, ifaceA, convA, mmA, pickA, okAll, stAll, opsA, partsA, partsOk, opA, allocA, boxMutA, newCells, okCells, storeObj, appendA, guardV, taA, nM, mapUpA, lookA, sliceA, sliceS, boundsA, opO, okO, copyA, dstOk, nilA, quietOk, nilSliceOp, deferV, panA, resA, argFr, retA.eq_1, retA.eq_2, Nat.reduceAdd, Nat.reduceSub, Nat.reduceMul, Nat.reduceLT, Nat.reduceLeDiff, Nat.reduceEqDiff, Nat.reduceBEq, Int.reduceAdd, Int.reduceSub, Int.reduceMul, Int.reduceNeg, Int.reduceLE, Int.reduceLT, Int.reduceEq, Int.reduceNe, Int.reduceToNat, ↓reduceIte, reduceCtorEq, implies_true, forall_const, eq_self, ne_eq, wtAll, Tryd.ntmps67, Tryd.results67, hh_i0]) ?_ | refine HSub_drop2 (by simp only [eq_self, hh_i0]) ?_ | refine HSub_keep_eq (by simp only [vsAll, binA, binLitA, intA, aggA, aggV, boolA, nilA2, isConst, unA, loadA, loadRow, partA, partOk, fieldAddrA, indexAddrA, indexA, fieldA, extractA, lenA, nilCheckA, boxA, boxZ, cellA, cellsA, fillA, okParts, buildSliceA, buildMutA, makeSliceA, partIdx, elemsA, lensA, ifaceA, convA, mmA, pickA, okAll, stAll, opsA, partsA, partsOk, opA, allocA, boxMutA, newCells, okCells, storeObj, appendA, guardV, taA, nM, mapUpA, lookA, sliceA, sliceS, boundsA, opO, okO, copyA, dstOk, nilA, quietOk, nilSliceOp, deferV, panA, resA, argFr, retA.eq_1, retA.eq_2, Nat.reduceAdd, Nat.reduceSub, Nat.reduceMul, Nat.reduceLT, Nat.reduceLeDiff, Nat.reduceEqDiff, Nat.reduceBEq, Int.reduceAdd, Int.reduceSub, Int.reduceMul, Int.reduceNeg, Int.reduceLE, Int.reduceLT, Int.reduceEq, Int.reduceNe, Int.reduceToNat, ↓reduceIte, reduceCtorEq, implies_true, forall_const, eq_self, ne_eq, wtAll, Tryd.ntmps67, Tryd.results67, hh_i0]) ?_)))
def wcntV (s : Sl) (u : Bool) : Int := if cntE s = 0 then ((cntF s (tdA s u)).fnd 0 0).getD 0 else 0
theorem wcount_tri (s : Sl) (u : Bool) (H : Hp) (kn : Near s) : PTri Tryd.prog (fnA 19) [s.av, boo u] H (.tuple [i64 (wcntV s u), i64 (cntE s)]) := by
  refine Tri.drop ?_
  refine tri_a (m := fun _ => false) ans57 Tryd.func19 (by kernel_rfl) rfl (by simp only [List.length_append, List.length_cons, List.length_nil, Tryd.ntmps19]; decide) ?_
  simp only [vsAll, loadA, loadRow, partA, partOk, boxA, boxZ, okAll, stAll, opsA, opA, allocA, dstOk, nilSliceOp, deferV, argFr, Nat.reduceAdd, Nat.reduceLT, Nat.reduceEqDiff, ↓reduceIte, eq_self, wtAll, Tryd.ntmps19]
  intro i5 hh_i5; (try simp only [Hp.set_none, ite_none] at hh_i5)
  refine open_call kn (fun he => ?_) (fun k hv => ?_)
  · have hno : ¬ Ok s := fun k => he (errE_ok k)
    have e : cntE s = 1 := if_neg hno
    have ev : wcntV s u = 0 := by rw [wcntV, if_neg (by rw [e]; decide)]
    have eE : errE s true = 1 := errE_no hno true
    simp only [vsAll]
    refine ⟨1, i5, _, by rw [eE], rfl, by simp only [vsAll, ↓reduceIte, eq_self]; try rfl, ?_⟩
    simp only [vsAll, loadA, loadRow, partA, partOk, resA, retA.eq_2, Nat.reduceLT, Nat.reduceEqDiff, ↓reduceIte, eq_self, wtAll, Tryd.results19]
    refine dropR_pure ?_ (by (repeat (first | exact HSub_rfl | refine HSub_put_eq (by simp only [vsAll, binA, binLitA, intA, aggA, aggV, boolA, nilA2, isConst, unA, loadA, loadRow, partA, partOk, fieldAddrA, indexAddrA, indexA, fieldA, extractA, lenA, nilCheckA, boxA, boxZ, cellA, cellsA, fillA, okParts, buildSliceA, buildMutA, makeSliceA, partIdx, elemsA, lensA, ifaceA, convA, mmA, pickA, okAll, stAll, opsA, partsA, partsOk, opA, allocA, boxMutA, newCells, okCells, storeObj, appendA, guardV, taA, nM, mapUpA, lookA, sliceA, sliceS, boundsA, opO, okO, copyA, dstOk, nilA, quietOk, nilSliceOp, deferV, panA, resA, argFr, retA.eq_1, retA.eq_2, Nat.reduceAdd, Nat.reduceSub, Nat.reduceMul, Nat.reduceLT, Nat.reduceLeDiff, Nat.reduceEqDiff, Nat.reduceBEq, Int.reduceAdd, Int.reduceSub, Int.reduceMul, Int.reduceNeg, Int.reduceLE, Int.reduceLT, Int.reduceEq, Int.reduceNe, Int.reduceToNat, ↓reduceIte, reduceCtorEq, implies_true, forall_const, eq_self, ne_eq, wtAll, Tryd.ntmps19, Tryd.results19, hh_i5]) ?_ | refine HSub_drop2 (by simp only [eq_self, hh_i5]) ?_ | refine HSub_keep_eq (by simp only [vsAll, binA, binLitA, intA, aggA, aggV, boolA, nilA2, isConst, unA, loadA, loadRow, partA, partOk, fieldAddrA, indexAddrA, indexA, fieldA, extractA, lenA, nilCheckA, boxA, boxZ, cellA, cellsA, fillA, okParts, buildSliceA, buildMutA, makeSliceA, partIdx, elemsA, lensA, ifaceA, convA, mmA, pickA, okAll, stAll, opsA, partsA, partsOk, opA, allocA, boxMutA, newCells, okCells, storeObj, appendA, guardV, taA, nM, mapUpA, lookA, sliceA, sliceS, boundsA, opO, okO, copyA, dstOk, nilA, quietOk, nilSliceOp, deferV, panA, resA, argFr, retA.eq_1, retA.eq_2, Nat.reduceAdd, Nat.reduceSub, Nat.reduceMul, Nat.reduceLT, Nat.reduceLeDiff, Nat.reduceEqDiff, Nat.reduceBEq, Int.reduceAdd, Int.reduceSub, Int.reduceMul, Int.reduceNeg, Int.reduceLE, Int.reduceLT, Int.reduceEq, Int.reduceNe, Int.reduceToNat, ↓reduceIte, reduceCtorEq, implies_true, forall_const, eq_self, ne_eq, wtAll, Tryd.ntmps19, Tryd.results19, hh_i5]) ?_)))
    simp only [eq_self, ev, e]
  · have e : cntE s = 0 := if_pos k
    have ev : wcntV s u = ((cntF s (tdA s u)).fnd 0 0).getD 0 := by rw [wcntV, if_pos e]
    simp only [vsAll, loadA, loadRow, fieldAddrA, nilCheckA, cellA, cellsA, fillA, okParts, okAll, stAll, opsA, partsA, partsOk, opA, dstOk, nilSliceOp, Nat.reduceAdd, Nat.reduceMul, Nat.reduceLT, Nat.reduceLeDiff, Nat.reduceEqDiff, ↓reduceIte, eq_self, wtAll, bth_cells]
    refine callK_pure (find_tri s u (tdA s u) 1 _ _ _ _ _ _ 0 0 _ k (tdA_b k u) (cntG s (tdA s u)) (Nat.pow_pos (by decide)) (by ((try clear hh_i5); omega))) ?_
    simp only [vsAll, extractA, cellA, cellsA, opA, newCells, okCells, storeObj, dstOk, nilSliceOp, Nat.reduceAdd, Nat.reduceLT, Nat.reduceEqDiff, ↓reduceIte, eq_self, wtAll]
    refine Ent.ret ⟨i5, _, rfl, by simp only [vsAll, ↓reduceIte, eq_self]; try rfl, ?_⟩
    simp only [vsAll, loadA, loadRow, partA, partOk, resA, retA.eq_2, Nat.reduceLT, Nat.reduceEqDiff, ↓reduceIte, eq_self, wtAll, Tryd.results19]
    refine dropR_pure ?_ (by (repeat (first | exact HSub_rfl | refine HSub_put_eq (by simp only [vsAll, binA, binLitA, intA, aggA, aggV, boolA, nilA2, isConst, unA, loadA, loadRow, partA, partOk, fieldAddrA, indexAddrA, indexA, fieldA, extractA, lenA, nilCheckA, boxA, boxZ, cellA, cellsA, fillA, okParts, buildSliceA, buildMutA, makeSliceA, partIdx, elemsA, lensA, ifaceA, convA, mmA, pickA, okAll, stAll, opsA, partsA, partsOk, opA, allocA, boxMutA, newCells, okCells, storeObj, appendA, guardV, taA, nM, mapUpA, lookA, sliceA, sliceS, boundsA, opO, okO, copyA, dstOk, nilA, quietOk, nilSliceOp, deferV, panA, resA, argFr, retA.eq_1, retA.eq_2, Nat.reduceAdd, Nat.reduceSub, Nat.reduceMul, Nat.reduceLT, Nat.reduceLeDiff, Nat.reduceEqDiff, Nat.reduceBEq, Int.reduceAdd, Int.reduceSub, Int.reduceMul, Int.reduceNeg, Int.reduceLE, Int.reduceLT, Int.reduceEq, Int.reduceNe, Int.reduceToNat, ↓reduceIte, reduceCtorEq, implies_true, forall_const, eq_self, ne_eq, wtAll, Tryd.ntmps19, Tryd.results19, hh_i5]) ?_ | refine HSub_drop2 (by simp only [eq_self, hh_i5]) ?_ | refine HSub_keep_eq (by simp only [vsAll, binA, binLitA, intA, aggA, aggV, boolA, nilA2, isConst, unA, loadA, loadRow, partA, partOk, fieldAddrA, indexAddrA, indexA, fieldA, extractA, lenA, nilCheckA, boxA, boxZ, cellA, cellsA, fillA, okParts, buildSliceA, buildMutA, makeSliceA, partIdx, elemsA, lensA, ifaceA, convA, mmA, pickA, okAll, stAll, opsA, partsA, partsOk, opA, allocA, boxMutA, newCells, okCells, storeObj, appendA, guardV, taA, nM, mapUpA, lookA, sliceA, sliceS, boundsA, opO, okO, copyA, dstOk, nilA, quietOk, nilSliceOp, deferV, panA, resA, argFr, retA.eq_1, retA.eq_2, Nat.reduceAdd, Nat.reduceSub, Nat.reduceMul, Nat.reduceLT, Nat.reduceLeDiff, Nat.reduceEqDiff, Nat.reduceBEq, Int.reduceAdd, Int.reduceSub, Int.reduceMul, Int.reduceNeg, Int.reduceLE, Int.reduceLT, Int.reduceEq, Int.reduceNe, Int.reduceToNat, ↓reduceIte, reduceCtorEq, implies_true, forall_const, eq_self, ne_eq, wtAll, Tryd.ntmps19, Tryd.results19, hh_i5]) ?_)))
    simp only [eq_self, ev, e]
end Go.Proofs.YtnmgegodkmgdeaaDoor
end
section
set_option linter.unusedVariables false
set_option linter.unusedSimpArgs false
set_option maxHeartbeats 4000000
set_option maxRecDepth 100000
namespace Go.Proofs.YtnmgegodkmgdeaaDoor
open Go.V
/-- The ones of a number, counted as the library does. -/
def ones1 (s : Nat) : Nat := ((s >>> 1) &&& 6148914691236517205) + (s &&& 6148914691236517205)
def ones2 (s : Nat) : Nat := ((s >>> 2) &&& 3689348814741910323) + (s &&& 3689348814741910323)
def ones3 (s : Nat) : Nat := ((s >>> 4) + s) &&& 1085102592571150095
def ones4 (s : Nat) : Nat := s + (s >>> 8)
def ones5 (s : Nat) : Nat := s + (s >>> 16)
def ones6 (s : Nat) : Nat := s + (s >>> 32)
def ones (s : Nat) : Nat := ones6 (ones5 (ones4 (ones3 (ones2 (ones1 s))))) &&& 127

theorem shr_int (s k : Nat) : ((s : Int) / 2 ^ k) = ((s >>> k : Nat) : Int) := by
  rw [Nat.shiftRight_eq_div_pow]; simp
theorem bits64 (b : Int) : (shB .u64 b = 64) = True := eq_true rfl
theorem ones1_le (s : Nat) : ones1 s ≤ 12297829382473034410 := by
  have h1 := @Nat.and_le_right (s >>> 1) 6148914691236517205
  have h2 := @Nat.and_le_right s 6148914691236517205
  unfold ones1; omega
theorem ones2_le (s : Nat) : ones2 s ≤ 7378697629483820646 := by
  have h1 := @Nat.and_le_right (s >>> 2) 3689348814741910323
  have h2 := @Nat.and_le_right s 3689348814741910323
  unfold ones2; omega
theorem ones3_le (s : Nat) : ones3 s ≤ 1085102592571150095 := Nat.and_le_right
theorem shr_le (s k : Nat) : s >>> k ≤ s := by rw [Nat.shiftRight_eq_div_pow]; exact Nat.div_le_self _ _

theorem ones64_tri (s : Nat) (H : Hp) (hs : s < 2 ^ 64) : PTri Tryd.prog (fnA 91) [u64 s] H (i64 (ones s)) := by
  refine tri_w0 Tryd.func91 (by kernel_rfl) rfl (by simp only [List.length_append, List.length_cons, List.length_nil, Tryd.ntmps91]; decide) ?_
  refine wps_cut (m := fun _ => false) [(0, u64 s)] H [] (by simp only [vsAll, opA, dstOk, nilSliceOp, argFr, Nat.reduceLT, ↓reduceIte, reduceCtorEq, eq_self, Tryd.ntmps91]) ?_
  refine wps_cut (m := fun _ => false) [(0, u64 (ones1 s))] H [] ?_ ?_
  · have h1 := ones1_le s
    have h2 := shr_le s 1
    have e : ((s >>> 1 &&& 6148914691236517205 : Nat) : Int) + ((s &&& 6148914691236517205 : Nat) : Int) = (ones1 s : Int) := by simp only [ones1]; omega
    simp only [vsAll, binA, binLitA, intA, opA, dstOk, nilSliceOp, Nat.reduceLT, Nat.reduceEqDiff, Int.reduceLE, Int.reduceLT, Int.reduceToNat, ↓reduceIte, reduceCtorEq, eq_self, Tryd.ntmps91, shr_int, bits64, InR_u64, e]
    omega
  have hs1 := ones1_le s
  generalize es1 : ones1 s = s1 at *
  refine wps_cut (m := fun _ => false) [(0, u64 (ones2 s1))] H [] ?_ ?_
  · have h1 := ones2_le s1
    have h2 := shr_le s1 2
    have e : ((s1 >>> 2 &&& 3689348814741910323 : Nat) : Int) + ((s1 &&& 3689348814741910323 : Nat) : Int) = (ones2 s1 : Int) := by simp only [ones2]; omega
    simp only [vsAll, binA, binLitA, intA, opA, dstOk, nilSliceOp, Nat.reduceLT, Nat.reduceEqDiff, Int.reduceLE, Int.reduceLT, Int.reduceToNat, ↓reduceIte, reduceCtorEq, eq_self, Tryd.ntmps91, shr_int, bits64, InR_u64, e]
    omega
  have hs2 := ones2_le s1
  generalize es2 : ones2 s1 = s2 at *
  refine wps_cut (m := fun _ => false) [(0, u64 (ones3 s2))] H [] ?_ ?_
  · have h1 := ones3_le s2
    have h2 := shr_le s2 4
    have e0 : ((s2 >>> 4 : Nat) : Int) + (s2 : Int) = ((s2 >>> 4 + s2 : Nat) : Int) := by omega
    have e : (((s2 >>> 4 + s2) &&& 1085102592571150095 : Nat) : Int) = (ones3 s2 : Int) := rfl
    simp only [vsAll, binA, binLitA, intA, opA, dstOk, nilSliceOp, Nat.reduceLT, Nat.reduceEqDiff, Int.reduceLE, Int.reduceLT, Int.reduceToNat, ↓reduceIte, reduceCtorEq, eq_self, Tryd.ntmps91, shr_int, bits64, InR_u64, e0, e]
    omega
  have hs3 := ones3_le s2
  generalize es3 : ones3 s2 = s3 at *
  refine wps_cut (m := fun _ => false) [(0, u64 (ones4 s3))] H [] ?_ ?_
  · have h2 := shr_le s3 8
    have e0 : (s3 : Int) + ((s3 >>> 8 : Nat) : Int) = (ones4 s3 : Int) := by simp only [ones4]; omega
    simp only [vsAll, binA, binLitA, intA, opA, dstOk, nilSliceOp, Nat.reduceLT, Nat.reduceEqDiff, Int.reduceLE, Int.reduceLT, Int.reduceToNat, ↓reduceIte, reduceCtorEq, eq_self, Tryd.ntmps91, shr_int, bits64, InR_u64, e0]
    simp only [ones4]; omega
  have hs4 : ones4 s3 ≤ 2 * 1085102592571150095 := by have := shr_le s3 8; simp only [ones4]; omega
  generalize es4 : ones4 s3 = s4 at *
  refine wps_cut (m := fun _ => false) [(0, u64 (ones5 s4))] H [] ?_ ?_
  · have h2 := shr_le s4 16
    have e0 : (s4 : Int) + ((s4 >>> 16 : Nat) : Int) = (ones5 s4 : Int) := by simp only [ones5]; omega
    simp only [vsAll, binA, binLitA, intA, opA, dstOk, nilSliceOp, Nat.reduceLT, Nat.reduceEqDiff, Int.reduceLE, Int.reduceLT, Int.reduceToNat, ↓reduceIte, reduceCtorEq, eq_self, Tryd.ntmps91, shr_int, bits64, InR_u64, e0]
    simp only [ones5]; omega
  have hs5 : ones5 s4 ≤ 4 * 1085102592571150095 := by have := shr_le s4 16; simp only [ones5]; omega
  generalize es5 : ones5 s4 = s5 at *
  refine wps_cut (m := fun _ => false) [(0, u64 (ones6 s5))] H [] ?_ ?_
  · have h2 := shr_le s5 32
    have e0 : (s5 : Int) + ((s5 >>> 32 : Nat) : Int) = (ones6 s5 : Int) := by simp only [ones6]; omega
    simp only [vsAll, binA, binLitA, intA, opA, dstOk, nilSliceOp, Nat.reduceLT, Nat.reduceEqDiff, Int.reduceLE, Int.reduceLT, Int.reduceToNat, ↓reduceIte, reduceCtorEq, eq_self, Tryd.ntmps91, shr_int, bits64, InR_u64, e0]
    simp only [ones6]; omega
  have hs6 : ones6 s5 ≤ 8 * 1085102592571150095 := by have := shr_le s5 32; simp only [ones6]; omega
  generalize es6 : ones6 s5 = s6 at *
  refine wps_vs (m := fun _ => false) ?_
  simp only [vsAll, binA, binLitA, intA, convA, opA, dstOk, nilSliceOp, resA, retA.eq_1, Nat.reduceLT, Int.reduceLE, Int.reduceToNat, ↓reduceIte, eq_self, wtAll, Tryd.ntmps91, Tryd.results91]
  refine ⟨by simp only [InR_i64]; omega, by simp only [InR_i64]; omega, ?_⟩
  simp only [ones, es1, es2, es3, es4, es5, es6]

theorem ones_pop (s : Nat) (hs : s < 4096) : ones s = pop s := by
  have : ∀ a, a < 64 → ∀ b, b < 64 → ones (64 * a + b) = pop (64 * a + b) := by decide +kernel
  have h := this (s / 64) (by omega) (s % 64) (by omega)
  rwa [show 64 * (s / 64) + s % 64 = s by omega] at h
theorem onesCount_tri (s : Nat) (H : Hp) (hs : s < 4096) : PTri Tryd.prog (fnA 72) [u64 s] H (i64 (pop s)) := by
  refine tri_v0 (fun _ => false) Tryd.func72 (by kernel_rfl) rfl (by simp only [List.length_append, List.length_cons, List.length_nil, Tryd.ntmps72]; decide) ?_
  simp only [vsAll, okAll, stAll, opsA, opA, dstOk, nilSliceOp, argFr, Nat.reduceLT, ↓reduceIte, reduceCtorEq, eq_self, Tryd.ntmps72]
  refine callK_pure (ones64_tri s H (by omega)) ?_
  simp only [vsAll, opA, dstOk, nilSliceOp, resA, retA.eq_1, Nat.reduceLT, ↓reduceIte, eq_self, Tryd.results72, ones_pop s hs]
def lngO (s : Sl) (u : Bool) (j : Nat) : Bool := ((lngF s (tdA s u)).fnd j 0).isSome
def wdropV (s : Sl) (u : Bool) : Nat := if cntE s = 0 then (fewV (lngO s u) s.sh.length).getD 0 else 0
theorem wdrop_tri (s : Sl) (u : Bool) (H : Hp) (kn : Near s) : PTri Tryd.prog (fnA 27) [s.av, boo u] H (.tuple [i64 (wdropV s u : Nat), i64 (cntE s)]) := by
  refine Tri.drop ?_
  refine tri_a (m := fun _ => false) ans71 Tryd.func27 (by kernel_rfl) rfl (by simp only [List.length_append, List.length_cons, List.length_nil, Tryd.ntmps27]; decide) ?_
  simp only [vsAll, loadA, loadRow, partA, partOk, boxA, boxZ, okAll, stAll, opsA, opA, allocA, dstOk, nilSliceOp, deferV, argFr, Nat.reduceAdd, Nat.reduceLT, Nat.reduceEqDiff, ↓reduceIte, eq_self, wtAll, Tryd.ntmps27]
  intro i5 hh_i5; (try simp only [Hp.set_none, ite_none] at hh_i5)
  refine open_call kn (fun he => ?_) (fun k hv => ?_)
  · have hno : ¬ Ok s := fun k => he (errE_ok k)
    have e : cntE s = 1 := if_neg hno
    have ev : wdropV s u = 0 := by rw [wdropV, if_neg (by rw [e]; decide)]
    have eE : errE s true = 1 := errE_no hno true
    simp only [vsAll]
    refine ⟨1, i5, _, by rw [eE], rfl, by simp only [vsAll, ↓reduceIte, eq_self]; try rfl, ?_⟩
    simp only [vsAll, loadA, loadRow, partA, partOk, resA, retA.eq_2, Nat.reduceLT, Nat.reduceEqDiff, ↓reduceIte, eq_self, wtAll, Tryd.results27]
    refine dropR_pure ?_ (by (repeat (first | exact HSub_rfl | refine HSub_put_eq (by simp only [vsAll, binA, binLitA, intA, aggA, aggV, boolA, nilA2, isConst, unA, loadA, loadRow, partA, partOk, fieldAddrA, indexAddrA, indexA, fieldA, extractA, lenA, nilCheckA, boxA, boxZ, cellA, cellsA, fillA, okParts, buildSliceA, buildMutA, makeSliceA, partIdx, elemsA, lensA, ifaceA, convA, mmA, pickA, okAll, stAll, opsA, partsA, partsOk, opA, allocA, boxMutA, newCells, okCells, storeObj, appendA, guardV, taA, nM, mapUpA, lookA, sliceA, sliceS, boundsA, opO, okO, copyA, dstOk, nilA, quietOk, nilSliceOp, deferV, panA, resA, argFr, retA.eq_1, retA.eq_2, Nat.reduceAdd, Nat.reduceSub, Nat.reduceMul, Nat.reduceLT, Nat.reduceLeDiff, Nat.reduceEqDiff, Nat.reduceBEq, Int.reduceAdd, Int.reduceSub, Int.reduceMul, Int.reduceNeg, Int.reduceLE, Int.reduceLT, Int.reduceEq, Int.reduceNe, Int.reduceToNat, ↓reduceIte, reduceCtorEq, implies_true, forall_const, eq_self, ne_eq, wtAll, Tryd.ntmps27, Tryd.results27, hh_i5]) ?_ | refine HSub_drop2 (by simp only [eq_self, hh_i5]) ?_ | refine HSub_keep_eq (by simp only [vsAll, binA, binLitA, intA, aggA, aggV, boolA, nilA2, isConst, unA, loadA, loadRow, partA, partOk, fieldAddrA, indexAddrA, indexA, fieldA, extractA, lenA, nilCheckA, boxA, boxZ, cellA, cellsA, fillA, okParts, buildSliceA, buildMutA, makeSliceA, partIdx, elemsA, lensA, ifaceA, convA, mmA, pickA, okAll, stAll, opsA, partsA, partsOk, opA, allocA, boxMutA, newCells, okCells, storeObj, appendA, guardV, taA, nM, mapUpA, lookA, sliceA, sliceS, boundsA, opO, okO, copyA, dstOk, nilA, quietOk, nilSliceOp, deferV, panA, resA, argFr, retA.eq_1, retA.eq_2, Nat.reduceAdd, Nat.reduceSub, Nat.reduceMul, Nat.reduceLT, Nat.reduceLeDiff, Nat.reduceEqDiff, Nat.reduceBEq, Int.reduceAdd, Int.reduceSub, Int.reduceMul, Int.reduceNeg, Int.reduceLE, Int.reduceLT, Int.reduceEq, Int.reduceNe, Int.reduceToNat, ↓reduceIte, reduceCtorEq, implies_true, forall_const, eq_self, ne_eq, wtAll, Tryd.ntmps27, Tryd.results27, hh_i5]) ?_)))
    simp only [eq_self, ev, e, Int.natCast_zero]
  · have e : cntE s = 0 := if_pos k
    have nS := k.nS
    have ev : wdropV s u = (fewV (lngO s u) s.sh.length).getD 0 := by rw [wdropV, if_pos e]
    generalize hf : lngO s u = f at ev
    have hff : ∀ j, f j = ((lngF s (tdA s u)).fnd j 0).isSome := fun j => by rw [← hf]; rfl
    have hp : 2 ^ s.sh.length ≤ 2 ^ 5 := Nat.pow_le_pow_right (by decide) nS
    have hp0 : 0 < 2 ^ s.sh.length := Nat.pow_pos (by decide)
    have ep : (1 : Int) * 2 ^ s.sh.length = ((2 ^ s.sh.length : Nat) : Int) := by rw [Int.one_mul]; simp
    have hfi := fun (j : Nat) (hj : j < 2 ^ s.sh.length) H' => find_tri s u (tdA s u) 0 _ _ _ _ _ _ j 0 H' k (tdA_b k u) (lngG s (tdA s u)) hj (by ((try clear hh_i5); omega))
    simp only [vsAll, binA, binLitA, intA, loadA, loadRow, partA, partOk, fieldAddrA, lenA, opA, dstOk, nilSliceOp, Nat.reduceLT, Nat.reduceEqDiff, ↓reduceIte, eq_self, wtAll]
    refine ⟨by simp only [InR_i64]; ((try clear hh_i5); omega), ?_⟩
    generalize hm : s.sh.length = m at *
    refine vs_loop (σ := Nat) (fun i => i ≤ m + 1 ∧ fewV f m = outF f m (m + 1 - i) i) (fun i => [(2, .rptr 1 2 (fun _ => s.cs) 0 0), (5, .ref i5 0 1 0 0), (6, opP s u), (18, i64 ((m : Int) + 1)), (19, i64 i)]) (fun _ => H.set i5 (.box 1 1 fun _ => [i64 0])) (fun i => m + 1 - i) 0 ⟨by ((try clear hh_i5); omega), rfl⟩ ?_ ?_ fun i hi => ?_
    · simp only [vsAll, Nat.reduceEqDiff, ↓reduceIte, eq_self, Int.natCast_zero]
    · (repeat (first | exact HSub_rfl | refine HSub_put_eq (by simp only [vsAll, binA, binLitA, intA, aggA, aggV, boolA, nilA2, isConst, unA, loadA, loadRow, partA, partOk, fieldAddrA, indexAddrA, indexA, fieldA, extractA, lenA, nilCheckA, boxA, boxZ, cellA, cellsA, fillA, okParts, buildSliceA, buildMutA, makeSliceA, partIdx, elemsA, lensA, ifaceA, convA, mmA, pickA, okAll, stAll, opsA, partsA, partsOk, opA, allocA, boxMutA, newCells, okCells, storeObj, appendA, guardV, taA, nM, mapUpA, lookA, sliceA, sliceS, boundsA, opO, okO, copyA, dstOk, nilA, quietOk, nilSliceOp, deferV, panA, resA, argFr, retA.eq_1, retA.eq_2, Nat.reduceAdd, Nat.reduceSub, Nat.reduceMul, Nat.reduceLT, Nat.reduceLeDiff, Nat.reduceEqDiff, Nat.reduceBEq, Int.reduceAdd, Int.reduceSub, Int.reduceMul, Int.reduceNeg, Int.reduceLE, Int.reduceLT, Int.reduceEq, Int.reduceNe, Int.reduceToNat, ↓reduceIte, reduceCtorEq, implies_true, forall_const, eq_self, ne_eq, wtAll, Tryd.ntmps27, Tryd.results27, hh_i5]) ?_ | refine HSub_drop2 (by simp only [vsAll, binA, binLitA, intA, aggA, aggV, boolA, nilA2, isConst, unA, loadA, loadRow, partA, partOk, fieldAddrA, indexAddrA, indexA, fieldA, extractA, lenA, nilCheckA, boxA, boxZ, cellA, cellsA, fillA, okParts, buildSliceA, buildMutA, makeSliceA, partIdx, elemsA, lensA, ifaceA, convA, mmA, pickA, okAll, stAll, opsA, partsA, partsOk, opA, allocA, boxMutA, newCells, okCells, storeObj, appendA, guardV, taA, nM, mapUpA, lookA, sliceA, sliceS, boundsA, opO, okO, copyA, dstOk, nilA, quietOk, nilSliceOp, deferV, panA, resA, argFr, retA.eq_1, retA.eq_2, Nat.reduceAdd, Nat.reduceSub, Nat.reduceMul, Nat.reduceLT, Nat.reduceLeDiff, Nat.reduceEqDiff, Nat.reduceBEq, Int.reduceAdd, Int.reduceSub, Int.reduceMul, Int.reduceNeg, Int.reduceLE, Int.reduceLT, Int.reduceEq, Int.reduceNe, Int.reduceToNat, ↓reduceIte, reduceCtorEq, implies_true, forall_const, eq_self, ne_eq, wtAll, Tryd.ntmps27, Tryd.results27, hh_i5]) ?_ | refine HSub_keep_eq (by simp only [vsAll, binA, binLitA, intA, aggA, aggV, boolA, nilA2, isConst, unA, loadA, loadRow, partA, partOk, fieldAddrA, indexAddrA, indexA, fieldA, extractA, lenA, nilCheckA, boxA, boxZ, cellA, cellsA, fillA, okParts, buildSliceA, buildMutA, makeSliceA, partIdx, elemsA, lensA, ifaceA, convA, mmA, pickA, okAll, stAll, opsA, partsA, partsOk, opA, allocA, boxMutA, newCells, okCells, storeObj, appendA, guardV, taA, nM, mapUpA, lookA, sliceA, sliceS, boundsA, opO, okO, copyA, dstOk, nilA, quietOk, nilSliceOp, deferV, panA, resA, argFr, retA.eq_1, retA.eq_2, Nat.reduceAdd, Nat.reduceSub, Nat.reduceMul, Nat.reduceLT, Nat.reduceLeDiff, Nat.reduceEqDiff, Nat.reduceBEq, Int.reduceAdd, Int.reduceSub, Int.reduceMul, Int.reduceNeg, Int.reduceLE, Int.reduceLT, Int.reduceEq, Int.reduceNe, Int.reduceToNat, ↓reduceIte, reduceCtorEq, implies_true, forall_const, eq_self, ne_eq, wtAll, Tryd.ntmps27, Tryd.results27, hh_i5]) ?_))
    · obtain ⟨hi, hv⟩ := hi
      simp only [vsAll, binA, binLitA, intA, opA, dstOk, Nat.reduceLT, Nat.reduceEqDiff, ↓reduceIte, eq_self]
      refine condD (fun hd => ?_) (fun hd => ?_)
      · rw [show m + 1 - i = (m - i) + 1 by ((try clear hh_i5); omega)] at hv
        simp only [vsAll, binA, binLitA, intA, loadA, loadRow, partA, partOk, fieldAddrA, lenA, opA, dstOk, nilSliceOp, Nat.reduceLT, Nat.reduceEqDiff, ↓reduceIte, eq_self, wtAll, hm, ep]
        refine ⟨⟨by ((try clear hh_i5); omega), by ((try clear hh_i5); omega), by simp only [InR_i64]; ((try clear hh_i5); omega)⟩, ?_⟩
        refine vs_loop (σ := Nat) (fun j => j ≤ 2 ^ m ∧ inn f i (2 ^ m) 0 = inn f i (2 ^ m - j) j) (fun j => [(2, .rptr 1 2 (fun _ => s.cs) 0 0), (5, .ref i5 0 1 0 0), (6, opP s u), (7, i64 i), (18, i64 ((m : Int) + 1)), (19, i64 i), (25, i64 ((2 ^ m : Nat) : Int)), (26, i64 j)]) (fun _ => H.set i5 (.box 1 1 fun _ => [i64 0])) (fun j => 2 ^ m - j) 0 ⟨by ((try clear hh_i5); omega), rfl⟩ ?_ ?_ fun j hj => ?_
        · simp only [vsAll, Nat.reduceEqDiff, ↓reduceIte, eq_self, Int.natCast_zero]
        · (repeat (first | exact HSub_rfl | refine HSub_put_eq (by simp only [vsAll, binA, binLitA, intA, aggA, aggV, boolA, nilA2, isConst, unA, loadA, loadRow, partA, partOk, fieldAddrA, indexAddrA, indexA, fieldA, extractA, lenA, nilCheckA, boxA, boxZ, cellA, cellsA, fillA, okParts, buildSliceA, buildMutA, makeSliceA, partIdx, elemsA, lensA, ifaceA, convA, mmA, pickA, okAll, stAll, opsA, partsA, partsOk, opA, allocA, boxMutA, newCells, okCells, storeObj, appendA, guardV, taA, nM, mapUpA, lookA, sliceA, sliceS, boundsA, opO, okO, copyA, dstOk, nilA, quietOk, nilSliceOp, deferV, panA, resA, argFr, retA.eq_1, retA.eq_2, Nat.reduceAdd, Nat.reduceSub, Nat.reduceMul, Nat.reduceLT, Nat.reduceLeDiff, Nat.reduceEqDiff, Nat.reduceBEq, Int.reduceAdd, Int.reduceSub, Int.reduceMul, Int.reduceNeg, Int.reduceLE, Int.reduceLT, Int.reduceEq, Int.reduceNe, Int.reduceToNat, ↓reduceIte, reduceCtorEq, implies_true, forall_const, eq_self, ne_eq, wtAll, Tryd.ntmps27, Tryd.results27, hh_i5]) ?_ | refine HSub_drop2 (by simp only [vsAll, binA, binLitA, intA, aggA, aggV, boolA, nilA2, isConst, unA, loadA, loadRow, partA, partOk, fieldAddrA, indexAddrA, indexA, fieldA, extractA, lenA, nilCheckA, boxA, boxZ, cellA, cellsA, fillA, okParts, buildSliceA, buildMutA, makeSliceA, partIdx, elemsA, lensA, ifaceA, convA, mmA, pickA, okAll, stAll, opsA, partsA, partsOk, opA, allocA, boxMutA, newCells, okCells, storeObj, appendA, guardV, taA, nM, mapUpA, lookA, sliceA, sliceS, boundsA, opO, okO, copyA, dstOk, nilA, quietOk, nilSliceOp, deferV, panA, resA, argFr, retA.eq_1, retA.eq_2, Nat.reduceAdd, Nat.reduceSub, Nat.reduceMul, Nat.reduceLT, Nat.reduceLeDiff, Nat.reduceEqDiff, Nat.reduceBEq, Int.reduceAdd, Int.reduceSub, Int.reduceMul, Int.reduceNeg, Int.reduceLE, Int.reduceLT, Int.reduceEq, Int.reduceNe, Int.reduceToNat, ↓reduceIte, reduceCtorEq, implies_true, forall_const, eq_self, ne_eq, wtAll, Tryd.ntmps27, Tryd.results27, hh_i5]) ?_ | refine HSub_keep_eq (by simp only [vsAll, binA, binLitA, intA, aggA, aggV, boolA, nilA2, isConst, unA, loadA, loadRow, partA, partOk, fieldAddrA, indexAddrA, indexA, fieldA, extractA, lenA, nilCheckA, boxA, boxZ, cellA, cellsA, fillA, okParts, buildSliceA, buildMutA, makeSliceA, partIdx, elemsA, lensA, ifaceA, convA, mmA, pickA, okAll, stAll, opsA, partsA, partsOk, opA, allocA, boxMutA, newCells, okCells, storeObj, appendA, guardV, taA, nM, mapUpA, lookA, sliceA, sliceS, boundsA, opO, okO, copyA, dstOk, nilA, quietOk, nilSliceOp, deferV, panA, resA, argFr, retA.eq_1, retA.eq_2, Nat.reduceAdd, Nat.reduceSub, Nat.reduceMul, Nat.reduceLT, Nat.reduceLeDiff, Nat.reduceEqDiff, Nat.reduceBEq, Int.reduceAdd, Int.reduceSub, Int.reduceMul, Int.reduceNeg, Int.reduceLE, Int.reduceLT, Int.reduceEq, Int.reduceNe, Int.reduceToNat, ↓reduceIte, reduceCtorEq, implies_true, forall_const, eq_self, ne_eq, wtAll, Tryd.ntmps27, Tryd.results27, hh_i5]) ?_))
        · obtain ⟨hj, hw⟩ := hj
          simp only [vsAll, binA, binLitA, intA, opA, dstOk, Nat.reduceLT, Nat.reduceEqDiff, ↓reduceIte, eq_self]
          refine condD (fun hd2 => ?_) (fun hd2 => ?_)
          · rw [show 2 ^ m - j = (2 ^ m - (j + 1)) + 1 by ((try clear hh_i5); omega), inn] at hw
            simp only [vsAll, convA, okAll, stAll, opsA, opA, dstOk, nilSliceOp, Nat.reduceLT, Nat.reduceEqDiff, ↓reduceIte, eq_self, wtAll]
            refine ⟨by simp only [InR_u64]; ((try clear hh_i5); omega), callK_pure (onesCount_tri j _ (by ((try clear hh_i5); omega))) ?_⟩
            simp only [vsAll, binA, binLitA, intA, opA, dstOk, Nat.reduceLT, Nat.reduceEqDiff, ↓reduceIte, eq_self]
            refine condV (fun hb => ?_) (fun hb => ?_)
            · have hb2 : ¬ pop j = i := by
                intro e2; subst e2; simp at hb
              rw [show decide (pop j = i) = false from decide_eq_false hb2, Bool.false_and, if_neg (by decide)] at hw
              simp only [vsAll, binA, binLitA, intA, opA, dstOk, Nat.reduceLT, Nat.reduceEqDiff, ↓reduceIte, eq_self]
              refine ⟨by simp only [InR_i64]; ((try clear hh_i5); omega), loop_next (j + 1) ⟨by ((try clear hh_i5); omega), hw⟩ (by ((try clear hh_i5); omega)) ?_ ?_⟩
              · simp only [vsAll, Nat.reduceEqDiff, ↓reduceIte, eq_self, Int.natCast_add, Int.natCast_one]
              · (repeat (first | exact HSub_rfl | refine HSub_put_eq (by simp only [vsAll, binA, binLitA, intA, aggA, aggV, boolA, nilA2, isConst, unA, loadA, loadRow, partA, partOk, fieldAddrA, indexAddrA, indexA, fieldA, extractA, lenA, nilCheckA, boxA, boxZ, cellA, cellsA, fillA, okParts, buildSliceA, buildMutA, makeSliceA, partIdx, elemsA, lensA, ifaceA, convA, mmA, pickA, okAll, stAll, opsA, partsA, partsOk, opA, allocA, boxMutA, newCells, okCells, storeObj, appendA, guardV, taA, nM, mapUpA, lookA, sliceA, sliceS, boundsA, opO, okO, copyA, dstOk, nilA, quietOk, nilSliceOp, deferV, panA, resA, argFr, retA.eq_1, retA.eq_2, Nat.reduceAdd, Nat.reduceSub, Nat.reduceMul, Nat.reduceLT, Nat.reduceLeDiff, Nat.reduceEqDiff, Nat.reduceBEq, Int.reduceAdd, Int.reduceSub, Int.reduceMul, Int.reduceNeg, Int.reduceLE, Int.reduceLT, Int.reduceEq, Int.reduceNe, Int.reduceToNat, ↓reduceIte, reduceCtorEq, implies_true, forall_const, eq_self, ne_eq, wtAll, Tryd.ntmps27, Tryd.results27, hh_i5]) ?_ | refine HSub_drop2 (by simp only [vsAll, binA, binLitA, intA, aggA, aggV, boolA, nilA2, isConst, unA, loadA, loadRow, partA, partOk, fieldAddrA, indexAddrA, indexA, fieldA, extractA, lenA, nilCheckA, boxA, boxZ, cellA, cellsA, fillA, okParts, buildSliceA, buildMutA, makeSliceA, partIdx, elemsA, lensA, ifaceA, convA, mmA, pickA, okAll, stAll, opsA, partsA, partsOk, opA, allocA, boxMutA, newCells, okCells, storeObj, appendA, guardV, taA, nM, mapUpA, lookA, sliceA, sliceS, boundsA, opO, okO, copyA, dstOk, nilA, quietOk, nilSliceOp, deferV, panA, resA, argFr, retA.eq_1, retA.eq_2, Nat.reduceAdd, Nat.reduceSub, Nat.reduceMul, Nat.reduceLT, Nat.reduceLeDiff, Nat.reduceEqDiff, Nat.reduceBEq, Int.reduceAdd, Int.reduceSub, Int.reduceMul, Int.reduceNeg, Int.reduceLE, Int.reduceLT, Int.reduceEq, Int.reduceNe, Int.reduceToNat, ↓reduceIte, reduceCtorEq, implies_true, forall_const, eq_self, ne_eq, wtAll, Tryd.ntmps27, Tryd.results27, hh_i5]) ?_ | refine HSub_keep_eq (by simp only [vsAll, binA, binLitA, intA, aggA, aggV, boolA, nilA2, isConst, unA, loadA, loadRow, partA, partOk, fieldAddrA, indexAddrA, indexA, fieldA, extractA, lenA, nilCheckA, boxA, boxZ, cellA, cellsA, fillA, okParts, buildSliceA, buildMutA, makeSliceA, partIdx, elemsA, lensA, ifaceA, convA, mmA, pickA, okAll, stAll, opsA, partsA, partsOk, opA, allocA, boxMutA, newCells, okCells, storeObj, appendA, guardV, taA, nM, mapUpA, lookA, sliceA, sliceS, boundsA, opO, okO, copyA, dstOk, nilA, quietOk, nilSliceOp, deferV, panA, resA, argFr, retA.eq_1, retA.eq_2, Nat.reduceAdd, Nat.reduceSub, Nat.reduceMul, Nat.reduceLT, Nat.reduceLeDiff, Nat.reduceEqDiff, Nat.reduceBEq, Int.reduceAdd, Int.reduceSub, Int.reduceMul, Int.reduceNeg, Int.reduceLE, Int.reduceLT, Int.reduceEq, Int.reduceNe, Int.reduceToNat, ↓reduceIte, reduceCtorEq, implies_true, forall_const, eq_self, ne_eq, wtAll, Tryd.ntmps27, Tryd.results27, hh_i5]) ?_))
            · have hb2 : pop j = i := by
                have : ((pop j : Nat) : Int) = (i : Int) := by simpa using hb
                ((try clear hh_i5); omega)
              rw [show decide (pop j = i) = true from decide_eq_true hb2, Bool.true_and, hff] at hw
              simp only [vsAll]
              refine vs_draw2 [0, 0, 0, 0, 0, 0, 1, 2, 3, 4, 4, 4, 4, 4] [([0, 1, 2, 3, 4, 5], [4, 5], 6), ([7], [], 8)] [9, 10, 11, 12, 13] (by decide +kernel) ?_
              simp only [vsAll, loadA, loadRow, fieldAddrA, nilCheckA, opA, dstOk, Nat.reduceAdd, Nat.reduceMul, Nat.reduceLT, Nat.reduceEqDiff, ↓reduceIte, eq_self, wtAll, bth_cells]
              refine qcall _ ⟨trivial, by simp only [okAll, opsA], longest_tri _⟩ ?_
              simp only [vsAll, loadA, loadRow, cellA, cellsA, fillA, okParts, okAll, stAll, opsA, partsA, partsOk, opA, dstOk, Nat.reduceAdd, Nat.reduceMul, Nat.reduceLT, Nat.reduceLeDiff, Nat.reduceEqDiff, ↓reduceIte, eq_self, wtAll]
              refine ⟨⟨by rw [bth_cells], rcall _ ⟨trivial, by simp only [okAll, opsA], longest_tri _⟩ (by simp only [vsAll, ↓reduceIte, eq_self])⟩, ?_⟩
              refine callK_pure (hfi j (by ((try clear hh_i5); omega)) _) ?_
              simp only [vsAll, extractA, opA, dstOk, Nat.reduceAdd, Nat.reduceLT, Nat.reduceEqDiff, ↓reduceIte, eq_self]
              refine condV (fun hc => ?_) (fun hc => ?_)
              · rw [hc, if_pos rfl] at hw
                have hr : fewV f m = some j := by rw [hv, outF, hw]
                have er : wdropV s u = j := by rw [ev, hr]; rfl
                simp only [vsAll, cellA, cellsA, opA, newCells, okCells, storeObj, dstOk, nilSliceOp, Nat.reduceLT, Nat.reduceEqDiff, ↓reduceIte, eq_self, wtAll]
                refine Ent.ret ⟨i5, _, rfl, by simp only [vsAll, ↓reduceIte, eq_self]; try rfl, ?_⟩
                simp only [vsAll, loadA, loadRow, partA, partOk, resA, retA.eq_2, Nat.reduceLT, Nat.reduceEqDiff, ↓reduceIte, eq_self, wtAll, Tryd.results27]
                refine dropR_pure ?_ (by (repeat (first | exact HSub_rfl | refine HSub_put_eq (by simp only [vsAll, binA, binLitA, intA, aggA, aggV, boolA, nilA2, isConst, unA, loadA, loadRow, partA, partOk, fieldAddrA, indexAddrA, indexA, fieldA, extractA, lenA, nilCheckA, boxA, boxZ, cellA, cellsA, fillA, okParts, buildSliceA, buildMutA, makeSliceA, partIdx, elemsA, lensA, ifaceA, convA, mmA, pickA, okAll, stAll, opsA, partsA, partsOk, opA, allocA, boxMutA, newCells, okCells, storeObj, appendA, guardV, taA, nM, mapUpA, lookA, sliceA, sliceS, boundsA, opO, okO, copyA, dstOk, nilA, quietOk, nilSliceOp, deferV, panA, resA, argFr, retA.eq_1, retA.eq_2, Nat.reduceAdd, Nat.reduceSub, Nat.reduceMul, Nat.reduceLT, Nat.reduceLeDiff, Nat.reduceEqDiff, Nat.reduceBEq, Int.reduceAdd, Int.reduceSub, Int.reduceMul, Int.reduceNeg, Int.reduceLE, Int.reduceLT, Int.reduceEq, Int.reduceNe, Int.reduceToNat, ↓reduceIte, reduceCtorEq, implies_true, forall_const, eq_self, ne_eq, wtAll, Tryd.ntmps27, Tryd.results27, hh_i5]) ?_ | refine HSub_drop2 (by simp only [eq_self, hh_i5]) ?_ | refine HSub_keep_eq (by simp only [vsAll, binA, binLitA, intA, aggA, aggV, boolA, nilA2, isConst, unA, loadA, loadRow, partA, partOk, fieldAddrA, indexAddrA, indexA, fieldA, extractA, lenA, nilCheckA, boxA, boxZ, cellA, cellsA, fillA, okParts, buildSliceA, buildMutA, makeSliceA, partIdx, elemsA, lensA, ifaceA, convA, mmA, pickA, okAll, stAll, opsA, partsA, partsOk, opA, allocA, boxMutA, newCells, okCells, storeObj, appendA, guardV, taA, nM, mapUpA, lookA, sliceA, sliceS, boundsA, opO, okO, copyA, dstOk, nilA, quietOk, nilSliceOp, deferV, panA, resA, argFr, retA.eq_1, retA.eq_2, Nat.reduceAdd, Nat.reduceSub, Nat.reduceMul, Nat.reduceLT, Nat.reduceLeDiff, Nat.reduceEqDiff, Nat.reduceBEq, Int.reduceAdd, Int.reduceSub, Int.reduceMul, Int.reduceNeg, Int.reduceLE, Int.reduceLT, Int.reduceEq, Int.reduceNe, Int.reduceToNat, ↓reduceIte, reduceCtorEq, implies_true, forall_const, eq_self, ne_eq, wtAll, Tryd.ntmps27, Tryd.results27, hh_i5]) ?_)))
                simp only [eq_self, er, e]
              · rw [hc, if_neg (by decide)] at hw
                simp only [vsAll, binA, binLitA, intA, opA, dstOk, Nat.reduceLT, Nat.reduceEqDiff, ↓reduceIte, eq_self]
                refine ⟨by simp only [InR_i64]; ((try clear hh_i5); omega), loop_next (j + 1) ⟨by ((try clear hh_i5); omega), hw⟩ (by ((try clear hh_i5); omega)) ?_ ?_⟩
                · simp only [vsAll, Nat.reduceEqDiff, ↓reduceIte, eq_self, Int.natCast_add, Int.natCast_one]
                · (repeat (first | exact HSub_rfl | refine HSub_put_eq (by simp only [vsAll, binA, binLitA, intA, aggA, aggV, boolA, nilA2, isConst, unA, loadA, loadRow, partA, partOk, fieldAddrA, indexAddrA, indexA, fieldA, extractA, lenA, nilCheckA, boxA, boxZ, cellA, cellsA, fillA, okParts, buildSliceA, buildMutA, makeSliceA, partIdx, elemsA, lensA, ifaceA, convA, mmA, pickA, okAll, stAll, opsA, partsA, partsOk, opA, allocA, boxMutA, newCells, okCells, storeObj, appendA, guardV, taA, nM, mapUpA, lookA, sliceA, sliceS, boundsA, opO, okO, copyA, dstOk, nilA, quietOk, nilSliceOp, deferV, panA, resA, argFr, retA.eq_1, retA.eq_2, Nat.reduceAdd, Nat.reduceSub, Nat.reduceMul, Nat.reduceLT, Nat.reduceLeDiff, Nat.reduceEqDiff, Nat.reduceBEq, Int.reduceAdd, Int.reduceSub, Int.reduceMul, Int.reduceNeg, Int.reduceLE, Int.reduceLT, Int.reduceEq, Int.reduceNe, Int.reduceToNat, ↓reduceIte, reduceCtorEq, implies_true, forall_const, eq_self, ne_eq, wtAll, Tryd.ntmps27, Tryd.results27, hh_i5]) ?_ | refine HSub_drop2 (by simp only [vsAll, binA, binLitA, intA, aggA, aggV, boolA, nilA2, isConst, unA, loadA, loadRow, partA, partOk, fieldAddrA, indexAddrA, indexA, fieldA, extractA, lenA, nilCheckA, boxA, boxZ, cellA, cellsA, fillA, okParts, buildSliceA, buildMutA, makeSliceA, partIdx, elemsA, lensA, ifaceA, convA, mmA, pickA, okAll, stAll, opsA, partsA, partsOk, opA, allocA, boxMutA, newCells, okCells, storeObj, appendA, guardV, taA, nM, mapUpA, lookA, sliceA, sliceS, boundsA, opO, okO, copyA, dstOk, nilA, quietOk, nilSliceOp, deferV, panA, resA, argFr, retA.eq_1, retA.eq_2, Nat.reduceAdd, Nat.reduceSub, Nat.reduceMul, Nat.reduceLT, Nat.reduceLeDiff, Nat.reduceEqDiff, Nat.reduceBEq, Int.reduceAdd, Int.reduceSub, Int.reduceMul, Int.reduceNeg, Int.reduceLE, Int.reduceLT, Int.reduceEq, Int.reduceNe, Int.reduceToNat, ↓reduceIte, reduceCtorEq, implies_true, forall_const, eq_self, ne_eq, wtAll, Tryd.ntmps27, Tryd.results27, hh_i5]) ?_ | refine HSub_keep_eq (by simp only [vsAll, binA, binLitA, intA, aggA, aggV, boolA, nilA2, isConst, unA, loadA, loadRow, partA, partOk, fieldAddrA, indexAddrA, indexA, fieldA, extractA, lenA, nilCheckA, boxA, boxZ, cellA, cellsA, fillA, okParts, buildSliceA, buildMutA, makeSliceA, partIdx, elemsA, lensA, ifaceA, convA, mmA, pickA, okAll, stAll, opsA, partsA, partsOk, opA, allocA, boxMutA, newCells, okCells, storeObj, appendA, guardV, taA, nM, mapUpA, lookA, sliceA, sliceS, boundsA, opO, okO, copyA, dstOk, nilA, quietOk, nilSliceOp, deferV, panA, resA, argFr, retA.eq_1, retA.eq_2, Nat.reduceAdd, Nat.reduceSub, Nat.reduceMul, Nat.reduceLT, Nat.reduceLeDiff, Nat.reduceEqDiff, Nat.reduceBEq, Int.reduceAdd, Int.reduceSub, Int.reduceMul, Int.reduceNeg, Int.reduceLE, Int.reduceLT, Int.reduceEq, Int.reduceNe, Int.reduceToNat, ↓reduceIte, reduceCtorEq, implies_true, forall_const, eq_self, ne_eq, wtAll, Tryd.ntmps27, Tryd.results27, hh_i5]) ?_))
          · have ej : j = 2 ^ m := by ((try clear hh_i5); omega)
            subst ej
            rw [Nat.sub_self, inn] at hw
            rw [outF, hw, show m - i = m + 1 - (i + 1) by ((try clear hh_i5); omega)] at hv
            simp only [] at hv
            simp only [vsAll, binA, binLitA, intA, opA, dstOk, Nat.reduceLT, Nat.reduceEqDiff, ↓reduceIte, eq_self]
            refine ⟨by simp only [InR_i64]; ((try clear hh_i5); omega), loop_next (i + 1) ⟨by ((try clear hh_i5); omega), hv⟩ (by ((try clear hh_i5); omega)) ?_ ?_⟩
            · simp only [vsAll, Nat.reduceEqDiff, ↓reduceIte, eq_self, Int.natCast_add, Int.natCast_one]
            · (repeat (first | exact HSub_rfl | refine HSub_put_eq (by simp only [vsAll, binA, binLitA, intA, aggA, aggV, boolA, nilA2, isConst, unA, loadA, loadRow, partA, partOk, fieldAddrA, indexAddrA, indexA, fieldA, extractA, lenA, nilCheckA, boxA, boxZ, cellA, cellsA, fillA, okParts, buildSliceA, buildMutA, makeSliceA, partIdx, elemsA, lensA, ifaceA, convA, mmA, pickA, okAll, stAll, opsA, partsA, partsOk, opA, allocA, boxMutA, newCells, okCells, storeObj, appendA, guardV, taA, nM, mapUpA, lookA, sliceA, sliceS, boundsA, opO, okO, copyA, dstOk, nilA, quietOk, nilSliceOp, deferV, panA, resA, argFr, retA.eq_1, retA.eq_2, Nat.reduceAdd, Nat.reduceSub, Nat.reduceMul, Nat.reduceLT, Nat.reduceLeDiff, Nat.reduceEqDiff, Nat.reduceBEq, Int.reduceAdd, Int.reduceSub, Int.reduceMul, Int.reduceNeg, Int.reduceLE, Int.reduceLT, Int.reduceEq, Int.reduceNe, Int.reduceToNat, ↓reduceIte, reduceCtorEq, implies_true, forall_const, eq_self, ne_eq, wtAll, Tryd.ntmps27, Tryd.results27, hh_i5]) ?_ | refine HSub_drop2 (by simp only [vsAll, binA, binLitA, intA, aggA, aggV, boolA, nilA2, isConst, unA, loadA, loadRow, partA, partOk, fieldAddrA, indexAddrA, indexA, fieldA, extractA, lenA, nilCheckA, boxA, boxZ, cellA, cellsA, fillA, okParts, buildSliceA, buildMutA, makeSliceA, partIdx, elemsA, lensA, ifaceA, convA, mmA, pickA, okAll, stAll, opsA, partsA, partsOk, opA, allocA, boxMutA, newCells, okCells, storeObj, appendA, guardV, taA, nM, mapUpA, lookA, sliceA, sliceS, boundsA, opO, okO, copyA, dstOk, nilA, quietOk, nilSliceOp, deferV, panA, resA, argFr, retA.eq_1, retA.eq_2, Nat.reduceAdd, Nat.reduceSub, Nat.reduceMul, Nat.reduceLT, Nat.reduceLeDiff, Nat.reduceEqDiff, Nat.reduceBEq, Int.reduceAdd, Int.reduceSub, Int.reduceMul, Int.reduceNeg, Int.reduceLE, Int.reduceLT, Int.reduceEq, Int.reduceNe, Int.reduceToNat, ↓reduceIte, reduceCtorEq, implies_true, forall_const, eq_self, ne_eq, wtAll, Tryd.ntmps27, Tryd.results27, hh_i5]) ?_ | refine HSub_keep_eq (by simp only [vsAll, binA, binLitA, intA, aggA, aggV, boolA, nilA2, isConst, unA, loadA, loadRow, partA, partOk, fieldAddrA, indexAddrA, indexA, fieldA, extractA, lenA, nilCheckA, boxA, boxZ, cellA, cellsA, fillA, okParts, buildSliceA, buildMutA, makeSliceA, partIdx, elemsA, lensA, ifaceA, convA, mmA, pickA, okAll, stAll, opsA, partsA, partsOk, opA, allocA, boxMutA, newCells, okCells, storeObj, appendA, guardV, taA, nM, mapUpA, lookA, sliceA, sliceS, boundsA, opO, okO, copyA, dstOk, nilA, quietOk, nilSliceOp, deferV, panA, resA, argFr, retA.eq_1, retA.eq_2, Nat.reduceAdd, Nat.reduceSub, Nat.reduceMul, Nat.reduceLT, Nat.reduceLeDiff, Nat.reduceEqDiff, Nat.reduceBEq, Int.reduceAdd, Int.reduceSub, Int.reduceMul, Int.reduceNeg, Int.reduceLE, Int.reduceLT, Int.reduceEq, Int.reduceNe, Int.reduceToNat, ↓reduceIte, reduceCtorEq, implies_true, forall_const, eq_self, ne_eq, wtAll, Tryd.ntmps27, Tryd.results27, hh_i5]) ?_))
      · have ei : i = m + 1 := by ((try clear hh_i5); omega)
        subst ei
        rw [Nat.sub_self] at hv
        have ev2 : wdropV s u = 0 := by rw [ev, hv]; rfl
        simp only [vsAll, cellA, cellsA, opA, newCells, okCells, storeObj, dstOk, nilSliceOp, Nat.reduceLT, Nat.reduceEqDiff, ↓reduceIte, eq_self, wtAll]
        refine Ent.ret ⟨i5, _, rfl, by simp only [vsAll, ↓reduceIte, eq_self]; try rfl, ?_⟩
        simp only [vsAll, loadA, loadRow, partA, partOk, resA, retA.eq_2, Nat.reduceLT, Nat.reduceEqDiff, ↓reduceIte, eq_self, wtAll, Tryd.results27]
        refine dropR_pure ?_ (by (repeat (first | exact HSub_rfl | refine HSub_put_eq (by simp only [vsAll, binA, binLitA, intA, aggA, aggV, boolA, nilA2, isConst, unA, loadA, loadRow, partA, partOk, fieldAddrA, indexAddrA, indexA, fieldA, extractA, lenA, nilCheckA, boxA, boxZ, cellA, cellsA, fillA, okParts, buildSliceA, buildMutA, makeSliceA, partIdx, elemsA, lensA, ifaceA, convA, mmA, pickA, okAll, stAll, opsA, partsA, partsOk, opA, allocA, boxMutA, newCells, okCells, storeObj, appendA, guardV, taA, nM, mapUpA, lookA, sliceA, sliceS, boundsA, opO, okO, copyA, dstOk, nilA, quietOk, nilSliceOp, deferV, panA, resA, argFr, retA.eq_1, retA.eq_2, Nat.reduceAdd, Nat.reduceSub, Nat.reduceMul, Nat.reduceLT, Nat.reduceLeDiff, Nat.reduceEqDiff, Nat.reduceBEq, Int.reduceAdd, Int.reduceSub, Int.reduceMul, Int.reduceNeg, Int.reduceLE, Int.reduceLT, Int.reduceEq, Int.reduceNe, Int.reduceToNat, ↓reduceIte, reduceCtorEq, implies_true, forall_const, eq_self, ne_eq, wtAll, Tryd.ntmps27, Tryd.results27, hh_i5]) ?_ | refine HSub_drop2 (by simp only [eq_self, hh_i5]) ?_ | refine HSub_keep_eq (by simp only [vsAll, binA, binLitA, intA, aggA, aggV, boolA, nilA2, isConst, unA, loadA, loadRow, partA, partOk, fieldAddrA, indexAddrA, indexA, fieldA, extractA, lenA, nilCheckA, boxA, boxZ, cellA, cellsA, fillA, okParts, buildSliceA, buildMutA, makeSliceA, partIdx, elemsA, lensA, ifaceA, convA, mmA, pickA, okAll, stAll, opsA, partsA, partsOk, opA, allocA, boxMutA, newCells, okCells, storeObj, appendA, guardV, taA, nM, mapUpA, lookA, sliceA, sliceS, boundsA, opO, okO, copyA, dstOk, nilA, quietOk, nilSliceOp, deferV, panA, resA, argFr, retA.eq_1, retA.eq_2, Nat.reduceAdd, Nat.reduceSub, Nat.reduceMul, Nat.reduceLT, Nat.reduceLeDiff, Nat.reduceEqDiff, Nat.reduceBEq, Int.reduceAdd, Int.reduceSub, Int.reduceMul, Int.reduceNeg, Int.reduceLE, Int.reduceLT, Int.reduceEq, Int.reduceNe, Int.reduceToNat, ↓reduceIte, reduceCtorEq, implies_true, forall_const, eq_self, ne_eq, wtAll, Tryd.ntmps27, Tryd.results27, hh_i5]) ?_)))
        simp only [eq_self, ev2, e, Int.natCast_zero]
end Go.Proofs.YtnmgegodkmgdeaaDoor
end
section
set_option linter.unusedVariables false
namespace Go.V
set_option linter.unusedSectionVars false
variable [Inhabited GivT]
/-- l is an order of all operations that are not in 'done', each behind what B puts ahead of it. -/
structure TopoB (ops : Array Oper) (B : Nat → Nat → Bool) (done : Nat → Prop) (l : List Nat) : Prop where
  lt : ∀ i ∈ l, i < ops.size
  nodup : l.Nodup
  apart : ∀ i ∈ l, ¬ done i
  all : ∀ i, i < ops.size → done i ∨ i ∈ l
  edges : ∀ l1 i l2, l = l1 ++ i :: l2 → ∀ k, B i k = true → done k ∨ k ∈ l1
theorem TopoB.tail {ops : Array Oper} {B : Nat → Nat → Bool} {done : Nat → Prop} {i : Nat} {l : List Nat} (h : TopoB ops B done (i :: l)) : TopoB ops B (fun j => done j ∨ j = i) l where
  lt := fun j hj => h.lt j (by simp [hj])
  nodup := (List.nodup_cons.1 h.nodup).2
  apart := fun j hj hd => by
    rcases hd with hd | rfl
    · exact h.apart j (by simp [hj]) hd
    · exact (List.nodup_cons.1 h.nodup).1 hj
  all := fun j hj => by
    rcases h.all j hj with hd | hm
    · exact .inl (.inl hd)
    · rcases List.mem_cons.1 hm with rfl | hm
      · exact .inl (.inr rfl)
      · exact .inr hm
  edges := fun l1 j l2 hl k hb => by
    rcases h.edges (i :: l1) j l2 (by rw [hl]; rfl) k hb with hd | hm
    · exact .inl (.inl hd)
    · rcases List.mem_cons.1 hm with hm | hm
      · exact .inl (.inr hm)
      · exact .inr hm
theorem TopoB.head {ops : Array Oper} {B : Nat → Nat → Bool} {done : Nat → Prop} {i k : Nat} {l : List Nat} (h : TopoB ops B done (i :: l)) (hb : B i k = true) : done k := by
  rcases h.edges [] i l rfl k hb with hd | hm
  · exact hd
  · simp at hm

structure Plan3 (ops : Array Oper) (B : Nat → Nat → Bool) (sg : Nat → Nat) (stages : List Stg) (last : List Nat) : Prop where
  ssa : ∀ i k, i < ops.size → k < ops.size → ∀ d, (opAt ops.toList k).dst = some d → (d ∈ readsOf ops.toList (opAt ops.toList i) → B i k = true ∨ (B k i = true ∧ sg k % 2 = 1)) ∧ (k ≠ i → (opAt ops.toList i).dst ≠ some d)
  st : ∀ j st kp e, stages[j]? = some (st, kp, e) → st = (List.range ops.size).filter (fun i => sg i == 2 * j) ∧ e < ops.size ∧ (∀ i, i < ops.size → (sg i = 2 * j + 1 ↔ i = e)) ∧
    (∀ i, i < ops.size → 2 * j + 2 ≤ sg i → B i e = true) ∧
    (∀ i, i < ops.size → sg i % 2 = 0 → sg i ≤ 2 * j → B e i = true ∨ heapFree (opAt ops.toList i).op = true ∨ i ∈ kp)
  last : last = (List.range ops.size).filter (fun i => sg i == 2 * stages.length)
  le : ∀ i, i < ops.size → sg i ≤ 2 * stages.length
  ord : ∀ i k, i < ops.size → k < ops.size → B i k = true → sg k ≤ sg i
  lt : ∀ i k, i < ops.size → k < ops.size → B i k = true → sg i = sg k → sg i % 2 = 0 → k < i

/-- What the quiet operations of a stage give. -/
theorem stage_facts3 {r : Option Nat} {P : Program} {n : Nat} {ops : Array Oper} {B : Nat → Nat → Bool} {sg : Nat → Nat} {stages : List Stg} {last : List Nat} (pl : Plan3 ops B sg stages last) {H : Hp} {c : Nat} {s : Fr} {K : Fr → Prop}
    (hev : c % 2 = 0) (h : vcQ P n ops.toList H (pickO ops.toList ((List.range ops.size).filter fun i => sg i == c)) s K) :
    ∃ sF, K sF ∧ (∀ t, (∀ i, i < ops.size → sg i = c → (opAt ops.toList i).dst ≠ some t) → sF t = s t) ∧ ∀ i, i < ops.size → sg i = c → QF r P n ops.toList H sF (opAt ops.toList i) := by
  have hpw : ((List.range ops.size).filter fun i => sg i == c).Pairwise (· < ·) := List.Pairwise.filter _ List.pairwise_lt_range
  have hmem : ∀ k, k ∈ ((List.range ops.size).filter fun i => sg i == c) ↔ k < ops.size ∧ sg k = c := fun k => by simp
  obtain ⟨sF, k1, k2, k3⟩ := vcQ_facts2 (r := r) (readsOf ops.toList) (fun _ => rfl) _ s K (by
    intro i o ho k o' hik ho' d hd
    obtain ⟨x, hx, rfl⟩ := pickO_get ho
    obtain ⟨y, hy, rfl⟩ := pickO_get ho'
    obtain ⟨hx1, hx2⟩ := (hmem x).1 (List.mem_of_getElem? hx)
    obtain ⟨hy1, hy2⟩ := (hmem y).1 (List.mem_of_getElem? hy)
    have hle : x ≤ y ∧ (i < k → x < y) := by
      obtain ⟨hil, hxe⟩ := List.getElem?_eq_some_iff.1 hx
      obtain ⟨hkl, hye⟩ := List.getElem?_eq_some_iff.1 hy
      have hlt : i < k → x < y := fun hlt => by
        have := List.pairwise_iff_getElem.1 hpw i k hil hkl hlt
        rw [hxe, hye] at this; exact this
      refine ⟨?_, hlt⟩
      rcases Nat.lt_or_ge i k with hl | hl
      · have := hlt hl; omega
      · have e : i = k := by omega
        subst e
        rw [hx] at hy; cases hy; exact Nat.le_refl _
    obtain ⟨g1, g2⟩ := pl.ssa x y hx1 hy1 d hd
    refine ⟨fun hm => ?_, fun hlt => g2 (by have := hle.2 hlt; omega)⟩
    rcases g1 hm with g1 | ⟨_, g1⟩
    · have := pl.lt x y hx1 hy1 g1 (by omega) (by omega)
      omega
    · omega) h
  refine ⟨sF, k1, fun t ht => k2 t fun o ho => ?_, fun i hi hs => k3 _ ?_⟩
  · obtain ⟨k, hk, rfl⟩ := pickO_mem ho
    obtain ⟨a, b⟩ := (hmem k).1 hk
    exact ht k a b
  · exact List.mem_map.2 ⟨i, (hmem i).2 ⟨hi, hs⟩, rfl⟩

theorem draw_run3 {r : Option Nat} {P : Program} {mm : Option Tmp → Bool} {n : Nat} {ops : Array Oper} {B : Nat → Nat → Bool} {Q : Post} {sg : Nat → Nat} {stages : List Stg} {last : List Nat} (pl : Plan3 ops B sg stages last)
    (hr : r = none ∨ ops.toList.all (fun o => quietOk o.op) = true) :
    ∀ (l : List Nat) (done : Nat → Prop) (j : Nat) (s : Fr) (ds : List AD) (H : Hp) (S : St) (a : Act), TopoB ops B done l →
      (∀ i, i < ops.size → done i → sg i ≤ 2 * j) → (∀ i, i < ops.size → sg i % 2 = 1 → sg i < 2 * j → done i) →
      (∀ i, i < ops.size → sg i % 2 = 0 → sg i ≤ 2 * j → ¬ done i → QF r P n ops.toList H s (opAt ops.toList i)) →
      vcD' P mm n ops.toList (preOf stages j) (stages.drop j) last s ds H Q →
      a.tmps.size = n → HRel S H → DRel S ds a.defers → PFrame2 S ops sg j done s a → wpOpsIn (FW r) 0 P ops (Lift S n Q) l a S.w := by
  intro l
  induction l with
  | nil =>
    intro done j s ds H S a ht I1 I2 hfact hv hsz hH hD hP
    have hall : ∀ i, i < ops.size → done i := fun i hi => (ht.all i hi).resolve_right (by simp)
    have hj : stages.length ≤ j := by
      rcases Nat.lt_or_ge j stages.length with hlt | hge
      · rcases hx : stages[j] with ⟨st, kp, e⟩
        have hs : stages[j]? = some (st, kp, e) := by rw [List.getElem?_eq_getElem hlt, hx]
        obtain ⟨_, g2, g3, _⟩ := pl.st j st kp e hs
        have := I1 e g2 (hall e g2)
        have := (g3 e g2).2 rfl
        omega
      · exact hge
    have hF : FRel S s a := fun t => by
      rcases hP t with ⟨k, hk, _, hnd, _⟩ | h
      · exact absurd (hall k hk) hnd
      · exact h
    rw [List.drop_eq_nil_of_le hj] at hv
    exact ⟨S, .normal, s, ds, H, rfl, Le.refl S, hH, hF, hD, hsz, trivial, hv⟩
  | cons i l ih =>
    intro done j s ds H S a ht I1 I2 hfact hv hsz hH hD hP
    have hi := ht.lt i (by simp)
    have hni : ¬ done i := ht.apart i (by simp)
    have ho := opAt_get hi
    have hread : ∀ t, t ∈ readsOf ops.toList (opAt ops.toList i) → VRel S (s t) (a.tmps.getD t undef) := by
      intro t htr
      rcases hP t with ⟨k, hk, hkq, hnd, hd⟩ | h
      · rcases (pl.ssa i k hi hk t hd).1 htr with g | ⟨_, g⟩
        · exact absurd (ht.head g) hnd
        · omega
      · exact h
    have hops : ∀ x ∈ (opAt ops.toList i).op.operands.toList, VRel S (opA s x) (a.eval x) := by
      intro x hx
      cases x with
      | tmp t => exact hread t (mem_reads_op hx)
      | const v => exact .lit v
      | global g => exact .any _
      | func f => exact .func rfl rfl (fun k hk => absurd hk (by simp)) (fun k hk => absurd hk (by simp))
    by_cases hev : sg i % 2 = 0
    · -- a quiet operation
      have hle : sg i ≤ 2 * j := by
        apply Classical.byContradiction
        intro hgt
        have := pl.le i hi
        have hlt : j < stages.length := by omega
        rcases hx : stages[j] with ⟨st, kp, e⟩
        have hs : stages[j]? = some (st, kp, e) := by rw [List.getElem?_eq_getElem hlt, hx]
        obtain ⟨_, g2, g3, g4, _⟩ := pl.st j st kp e hs
        have hde := ht.head (g4 i hi (by omega))
        have := I1 e g2 hde
        have := (g3 e g2).2 rfl
        omega
      obtain ⟨hd, v, hv', hg⟩ := (hfact i hi hev hle hni).fact
      have ih' : ∀ (S' : St) (cv : Value), Le S S' → HRel S' H → VRel S' v cv → wpOpsIn (FW r) 0 P ops (Lift S n Q) l (a.put (opAt ops.toList i).dst cv) S'.w := by
        intro S' cv hle' hH' hvr
        refine lift_wpOpsIn hle' l _ _ (ih (fun j => done j ∨ j = i) j s ds H S' _ ht.tail ?_ (fun x hx ho hl => .inl (I2 x hx ho hl)) ?_ hv ?_ hH' ?_ ?_)
        · rintro x hx (hd | rfl)
          · exact I1 x hx hd
          · exact hle
        · intro x hx he hl hnd
          exact hfact x hx he hl fun h => hnd (.inl h)
        · have := put_size (a := a) (d := (opAt ops.toList i).dst) (cv := cv) (df := a.defers)
          exact this.trans hsz
        · have := put_defers (a := a) (d := (opAt ops.toList i).dst) (cv := cv) (df := a.defers)
          have e : (a.put (opAt ops.toList i).dst cv).defers = a.defers := this
          rw [e]; exact hD.mono hle'
        · intro t
          by_cases hdt : (opAt ops.toList i).dst = some t
          · right
            rw [hv' t hdt]
            have ht' : t < a.tmps.size := by rw [hsz]; rw [hdt] at hd; exact hd
            rw [hdt]
            have := put_getD_same (a := a) (t := t) (cv := cv) (df := a.defers) ht'
            rw [show (a.put (some t) cv).tmps.getD t undef = cv from this]
            exact hvr
          · rcases hP t with ⟨k, hk, hkq, hnd, hd'⟩ | h
            · left
              refine ⟨k, hk, hkq, ?_, hd'⟩
              rintro (hx | rfl)
              · exact hnd hx
              · exact hdt hd'
            · right
              rw [put_getD' hdt]
              exact h.mono hle'
      simp only [wpOpsIn, ho]
      generalize opAt ops.toList i = o at *
      cases hgd : o.guard with
      | none =>
        rw [hgd] at hg
        simp only [Region.wanted, hgd, if_true]
        exact hg S a _ _ hH hops ih'
      | some jw =>
        obtain ⟨jj, w⟩ := jw
        rw [hgd] at hg
        obtain ⟨b, v0, hb, rfl, hex⟩ := hg
        have hwant : Region.wanted o (yielded ops a.tmps) = b := wanted_rel hgd (fun q d hq hd' => hread d (mem_reads_guard hgd hq hd')) hb
        rw [hwant]
        cases hwb : b with
        | false =>
          simp only [Bool.false_eq_true, if_false]
          exact ⟨fun _ _ => trivial, ih' S undef (Le.refl S) hH (.under (fun x => by rw [hwb] at x; cases x) fun _ => rfl)⟩
        | true =>
          simp only [if_true]
          exact hex hwb S a _ _ hH hops fun S' cv hle hH' hvr => ih' S' cv hle hH' (.under (fun _ => hvr) fun x => by rw [hwb] at x; cases x)
    · -- an effect
      have hlow : 2 * j < sg i := by
        apply Classical.byContradiction
        intro h
        exact hni (I2 i hi (by omega) (by omega))
      have hlt : j < stages.length := by have := pl.le i hi; omega
      rcases hx : stages[j] with ⟨st, kp, e⟩
      have hs : stages[j]? = some (st, kp, e) := by rw [List.getElem?_eq_getElem hlt, hx]
      obtain ⟨_, g2, g3, g4, g5⟩ := pl.st j st kp e hs
      have hsi : sg i = 2 * j + 1 := by
        apply Classical.byContradiction
        intro h
        have hde := ht.head (g4 i hi (by omega))
        have := I1 e g2 hde
        have := (g3 e g2).2 rfl
        omega
      have hei : i = e := (g3 i hi).1 hsi
      subst hei
      have hdrop : stages.drop j = (st, kp, i) :: stages.drop (j + 1) := by
        rw [List.drop_eq_getElem_cons hlt, hx]
      rw [hdrop] at hv
      obtain ⟨hd, hgn, heff⟩ := hv
      have hq : r = none ∨ ∀ c, (opAt ops.toList i).op ≠ .defer c := hr.imp (fun x => x) fun hall c e => by
        have hm : opAt ops.toList i ∈ ops.toList := List.mem_of_getElem? (i := i) (by simpa using ho)
        have := List.all_eq_true.1 hall _ hm
        rw [e] at this; cases this
      have hnext : hdS (stages.drop (j + 1)) last = (List.range ops.size).filter fun x => sg x == 2 * (j + 1) := by
        rcases Nat.lt_or_ge (j + 1) stages.length with h1 | h1
        · rcases hx' : stages[j + 1] with ⟨st', kp', e'⟩
          have hs' : stages[j + 1]? = some (st', kp', e') := by rw [List.getElem?_eq_getElem h1, hx']
          rw [List.drop_eq_getElem_cons h1, hx']
          exact (pl.st (j + 1) st' kp' e' hs').1
        · rw [List.drop_eq_nil_of_le h1]
          have : j + 1 = stages.length := by omega
          rw [this]; exact pl.last
      simp only [wpOpsIn, ho]
      have hw : Region.wanted (opAt ops.toList i) (yielded ops a.tmps) = true := by simp [Region.wanted, hgn]
      rw [hw]
      simp only [if_true]
      refine effA_sound heff hq hH hops hD _ _ ?_ ?_
      · rintro S' cv v ds' df H' hle hH' hv' hD' ⟨hkp, hk⟩
        rw [vcD_eq, hnext, ← preOf_succ hs] at hk
        obtain ⟨sF, k1, k2, k3⟩ := stage_facts3 (r := r) pl (by omega) hk
        have hkf := vcRs_fact (r := r) _ hkp
        refine lift_wpOpsIn hle l _ _ (ih (fun x => done x ∨ x = i) (j + 1) sF ds' H' S' _ ht.tail ?_ ?_ ?_ k1 (by rw [put_size]; exact hsz) hH' (by rw [put_defers]; exact hD') ?_)
        · rintro x hx (hd | rfl)
          · have := I1 x hx hd; omega
          · omega
        · intro x hx ho hl
          by_cases h : sg x < 2 * j
          · exact .inl (I2 x hx ho h)
          · exact .inr ((g3 x hx).1 (by omega))
        · intro x hx he hl hnd
          by_cases h : sg x = 2 * (j + 1)
          · exact k3 x hx h
          · have hxl : sg x ≤ 2 * j := by omega
            have hnx : ¬ done x := fun h => hnd (.inl h)
            have base : QF r P n ops.toList H' s (opAt ops.toList x) := by
              rcases g5 x hx he hxl with hb | hf | hm
              · exact absurd (ht.head hb) hnx
              · exact (hfact x hx he hxl hnx).move hf H'
              · exact hkf _ (List.mem_map.2 ⟨x, hm, rfl⟩)
            have hpi : ∀ t, (opAt ops.toList i).dst ≠ some t → put s (opAt ops.toList i).dst v t = s t := fun t h => by
              cases hdd : (opAt ops.toList i).dst with
              | none => rfl
              | some d => simp only [put]; rw [if_neg]; intro e; exact h (by rw [hdd, e])
            refine base.congr (fun t htr => ?_) (fun d hd => ?_)
            · rw [k2 t fun y hy hys hyd => ?_, hpi t fun hid => ?_]
              · rcases (pl.ssa x i hx hi t hid).1 htr with g | ⟨g, _⟩
                · have := pl.ord x i hx hi g; omega
                · exact hnx (ht.head g)
              · rcases (pl.ssa x y hx hy t hyd).1 htr with g | ⟨_, g⟩
                · have := pl.ord x y hx hy g; omega
                · omega
            · rw [k2 d fun y hy hys hyd => ?_, hpi d fun hid => ?_]
              · exact (pl.ssa x i hx hi d hid).2 (fun e => by rw [← e] at hxl; omega) hd
              · exact (pl.ssa x y hx hy d hyd).2 (fun e => by rw [e] at hys; omega) hd
        · intro t
          by_cases hex : ∃ k, k < ops.size ∧ (sg k % 2 = 0 ∧ sg k ≤ 2 * (j + 1)) ∧ ¬ (done k ∨ k = i) ∧ (opAt ops.toList k).dst = some t
          · exact .inl hex
          · right
            have hst : ∀ y, y < ops.size → sg y = 2 * (j + 1) → (opAt ops.toList y).dst ≠ some t := fun y hy hys hyd =>
              hex ⟨y, hy, ⟨by omega, by omega⟩, fun h => by
                rcases h with h | h
                · have := I1 y hy h; omega
                · rw [h] at hys; omega, hyd⟩
            rw [k2 t hst]
            by_cases hdt : (opAt ops.toList i).dst = some t
            · rw [hdt]
              have ht' : t < a.tmps.size := by rw [hsz]; rw [hdt] at hd; exact hd
              rw [put_getD_same ht']
              simp only [put, if_true]
              exact hv'
            · rw [put_getD hdt]
              have : put s (opAt ops.toList i).dst v t = s t := by
                cases hdd : (opAt ops.toList i).dst with
                | none => rfl
                | some d => simp only [put]; rw [if_neg]; intro e; exact hdt (by rw [hdd, e])
              rw [this]
              rcases hP t with ⟨k, hk, hkq, hnd, hd'⟩ | h
              · exact absurd ⟨k, hk, ⟨hkq.1, by omega⟩, fun h => h.elim hnd fun e => hdt (by rw [← e]; exact hd'), hd'⟩ hex
              · exact h.mono hle
      · intro S' cv v H' hle hH' hv' hk
        refine ⟨S', .pan v, wipe (pickO ops.toList (preOf stages j ++ st)) s, ds, H', rfl, hle, hH', fun t => ?_, hD.mono hle, hsz, ⟨cv, rfl, hv'⟩, hk⟩
        simp only [wipe]
        split
        · exact .any _
        · rename_i hno
          rcases hP t with ⟨k, hk, hkq, hnd, hd'⟩ | h
          · exfalso
            apply hno
            rw [List.any_eq_true]
            refine ⟨opAt ops.toList k, List.mem_map.2 ⟨k, ?_, rfl⟩, by rw [hd']; simp⟩
            rw [show st = (st, kp, i).1 from rfl, ← preOf_succ hs]
            obtain ⟨q, hq⟩ : ∃ q, sg k = 2 * q := ⟨sg k / 2, by omega⟩
            have hql : q < stages.length := by omega
            rcases hxq : stages[q] with ⟨st', kp', e'⟩
            have hsq : stages[q]? = some (st', kp', e') := by rw [List.getElem?_eq_getElem hql, hxq]
            have hst' := (pl.st q st' kp' e' hsq).1
            simp only [preOf, List.mem_flatMap]
            refine ⟨(st', kp', e'), List.mem_of_getElem? (i := q) (by rw [List.getElem?_take_of_lt (by omega)]; exact hsq), ?_⟩
            show k ∈ st'
            rw [hst', List.mem_filter, List.mem_range]
            exact ⟨hk, by simp [hq]⟩
          · exact h.mono hle


def ordersOf (all : List Oper) : Nat → List Nat → List (List Nat)
  | 0, _ => [[]]
  | n + 1, rem => rem.flatMap fun e => if rem.any (fun k => bitM all e k) = true then [] else (ordersOf all n (rem.filter fun k => k != e)).map (e :: ·)
theorem ordersOf_mem (all : List Oper) : ∀ (n : Nat) (rem m : List Nat), m.length = n → m.Nodup → (∀ x, x ∈ m ↔ x ∈ rem) → (∀ m1 i m2, m = m1 ++ i :: m2 → ∀ k, k ∈ m → bitM all i k = true → k ∈ m1) → m ∈ ordersOf all n rem := by
  intro n
  induction n with
  | zero =>
    intro rem m hl _ _ _
    have : m = [] := List.length_eq_zero_iff.1 hl
    subst this
    simp [ordersOf]
  | succ n ih =>
    intro rem m hl hn hm ho
    cases m with
    | nil => simp at hl
    | cons e m =>
      simp only [ordersOf, List.mem_flatMap]
      refine ⟨e, (hm e).1 (by simp), ?_⟩
      rw [if_neg]
      · refine List.mem_map.2 ⟨m, ih _ m (by simpa using hl) (List.nodup_cons.1 hn).2 (fun x => ?_) (fun m1 i m2 h k hk hb => ?_), rfl⟩
        · rw [List.mem_filter]
          constructor
          · intro hx
            exact ⟨(hm x).1 (by simp [hx]), by simp only [bne_iff_ne]; rintro rfl; exact (List.nodup_cons.1 hn).1 hx⟩
          · rintro ⟨h1, h2⟩
            rcases List.mem_cons.1 ((hm x).2 h1) with h | h
            · simp [h] at h2
            · exact h
        · have := ho (e :: m1) i m2 (by rw [h]; rfl) k (by simp [hk]) hb
          rcases List.mem_cons.1 this with h3 | h3
          · subst h3; exact absurd hk (List.nodup_cons.1 hn).1
          · exact h3
      · intro hany
        rw [List.any_eq_true] at hany
        obtain ⟨k, hk, hb⟩ := hany
        have := ho [] e m rfl k ((hm k).2 hk) hb
        simp at this
/-- What stands ahead of an operation, where the effects come in this order. -/
def bitE (all : List Oper) (E : List Nat) (i k : Nat) : Bool := bitM all i k || E.any fun eb => (i == eb || bitM all i eb) && (E.takeWhile fun x => x != eb).any fun ea => k == ea || bitM all ea k
theorem Topo.before {ops : Array Oper} {l : List Nat} (h : Topo ops (fun _ => False) l) {j i : Nat} (ha : Anc ops j i) : ∀ l1 l2, l = l1 ++ i :: l2 → j ∈ l1 := by
  induction ha with
  | edge ho he hb hj =>
    intro l1 l2 hl
    subst hj
    exact (h.edges l1 _ l2 hl _ ho _ he hb).resolve_left id
  | trans h1 h2 ih1 ih2 =>
    intro l1 l2 hl
    obtain ⟨a, b, rfl⟩ := List.append_of_mem (ih2 l1 l2 hl)
    have := ih1 a (b ++ _ :: l2) (by rw [hl, List.append_assoc]; rfl)
    exact List.mem_append_left _ this
theorem takeW_filter {p : Nat → Bool} {eb : Nat} : ∀ {a b : List Nat}, eb ∉ a → p eb = true → ((a ++ eb :: b).filter p).takeWhile (fun x => x != eb) = a.filter p
  | [], b, _, hp => by simp [hp]
  | x :: a, b, hn, hp => by
    have h1 : x ≠ eb := fun e => hn (by simp [e])
    have ih := takeW_filter (p := p) (eb := eb) (a := a) (b := b) (fun h => hn (by simp [h])) hp
    simp only [List.cons_append, List.filter_cons]
    split
    · rw [List.takeWhile_cons, if_pos (by simp [h1]), ih]
    · exact ih
theorem topoB_of {ops : Array Oper} {l : List Nat} (h : Topo ops (fun _ => False) l) (hb : ∀ i k, bitM ops.toList i k = true → Anc ops k i) (p : Nat → Bool) : TopoB ops (bitE ops.toList (l.filter p)) (fun _ => False) l := by
  refine ⟨h.lt, h.nodup, h.apart, h.all, fun l1 i l2 hl k hB => .inr ?_⟩
  simp only [bitE, Bool.or_eq_true, List.any_eq_true, Bool.and_eq_true, beq_iff_eq] at hB
  rcases hB with hB | ⟨eb, heb, h1, ea, hea, h2⟩
  · exact h.before (hb _ _ hB) l1 l2 hl
  · obtain ⟨hebl, hpe⟩ := List.mem_filter.1 heb
    -- eb stands at i or ahead of it
    have hsplit : ∃ q r, l = q ++ eb :: r ∧ ∀ x, x ∈ q → x ∈ l1 := by
      rcases h1 with h1 | h1
      · subst h1; exact ⟨l1, l2, hl, fun _ hx => hx⟩
      · obtain ⟨q, r, hq⟩ := List.append_of_mem (h.before (hb _ _ h1) l1 l2 hl)
        exact ⟨q, r ++ i :: l2, by rw [hl, hq, List.append_assoc]; rfl, fun x hx => by rw [hq]; exact List.mem_append_left _ hx⟩
    obtain ⟨q, r, hq, hql⟩ := hsplit
    have hne : eb ∉ q := by
      intro hm
      have hnd := h.nodup
      rw [hq] at hnd
      exact (List.nodup_append.1 hnd).2.2 eb hm eb (by simp) rfl
    rw [hq, takeW_filter hne hpe] at hea
    have heq := (List.mem_filter.1 hea).1
    rcases h2 with h2 | h2
    · rw [h2]; exact hql _ heq
    · obtain ⟨a, b, rfl⟩ := List.append_of_mem heq
      have := h.before (hb _ _ h2) a (b ++ eb :: r) (by rw [hq, List.append_assoc]; rfl)
      exact hql _ (List.mem_append_left _ this)

abbrev Pln := List Nat × List Stg × List Nat
def plan3Ok (ops : Array Oper) (E : List Nat) (sg : List Nat) (stages : List Stg) (last : List Nat) : Bool :=
  decide (stages.map (fun x => x.2.2) = E) &&
  ((List.range ops.size).all fun i => (List.range ops.size).all fun k => match (opAt ops.toList k).dst with
    | some d => (!(readsOf ops.toList (opAt ops.toList i)).contains d || bitE ops.toList E i k || (bitE ops.toList E k i && sg.getD k 0 % 2 == 1)) && (decide (k = i) || decide ((opAt ops.toList i).dst ≠ some d))
    | none => true) &&
  ((List.range stages.length).all fun j => match stages[j]? with
    | some (st, kp, e) => decide (st = (List.range ops.size).filter fun i => sg.getD i 0 == 2 * j) && decide (e < ops.size) &&
        ((List.range ops.size).all fun i => decide (sg.getD i 0 = 2 * j + 1) == decide (i = e)) &&
        ((List.range ops.size).all fun i => decide (sg.getD i 0 < 2 * j + 2) || bitE ops.toList E i e) &&
        ((List.range ops.size).all fun i => sg.getD i 0 % 2 == 1 || decide (2 * j < sg.getD i 0) || bitE ops.toList E e i || heapFree (opAt ops.toList i).op || kp.contains i)
    | none => true) &&
  decide (last = (List.range ops.size).filter fun i => sg.getD i 0 == 2 * stages.length) &&
  ((List.range ops.size).all fun i => decide (sg.getD i 0 ≤ 2 * stages.length)) &&
  ((List.range ops.size).all fun i => (List.range ops.size).all fun k => !bitE ops.toList E i k || (decide (sg.getD k 0 ≤ sg.getD i 0) && (decide (sg.getD i 0 ≠ sg.getD k 0) || decide (sg.getD i 0 % 2 ≠ 0) || decide (k < i))))

theorem plan3_of {ops : Array Oper} {E sg : List Nat} {stages : List Stg} {last : List Nat} (hb : ∀ i k, bitM ops.toList i k = true → Anc ops k i) (h : plan3Ok ops E sg stages last = true) :
    stages.map (fun x => x.2.2) = E ∧ Plan3 ops (bitE ops.toList E) (fun i => sg.getD i 0) stages last := by
  simp only [plan3Ok, Bool.and_eq_true, List.all_eq_true, List.mem_range] at h
  obtain ⟨⟨⟨⟨⟨h0, h3⟩, h4⟩, h5⟩, h6⟩, h7⟩ := h
  refine ⟨of_decide_eq_true h0, ?_, ?_, by simpa using h5, fun i hi => by simpa using h6 i hi, fun i k hi hk hbb => ?_, fun i k hi hk hbb hs he => ?_⟩
  · intro i k hi hk d hd
    have := h3 i hi k hk
    rw [hd] at this
    simp only [Bool.and_eq_true, Bool.or_eq_true, Bool.not_eq_true', decide_eq_true_eq, beq_iff_eq] at this
    obtain ⟨g1, g2⟩ := this
    refine ⟨fun hm => ?_, fun hne => ?_⟩
    · rcases g1 with (g1 | g1) | g1
      · rw [List.contains_iff_mem.2 hm] at g1; cases g1
      · exact .inl g1
      · exact .inr ⟨g1.1, by simpa using g1.2⟩
    · rcases g2 with g2 | g2
      · exact absurd g2 hne
      · exact g2
  · intro j st kp e hj
    have hjl : j < stages.length := (List.getElem?_eq_some_iff.1 hj).1
    have := h4 j hjl
    rw [hj] at this
    simp only [Bool.and_eq_true, List.all_eq_true, List.mem_range, Bool.or_eq_true, decide_eq_true_eq, beq_iff_eq] at this
    obtain ⟨⟨⟨⟨g1, g2⟩, g3⟩, g4⟩, g5⟩ := this
    refine ⟨g1, g2, fun i hi => by have := g3 i hi; simpa using this, fun i hi hs => ?_, fun i hi he hs => ?_⟩
    · rcases g4 i hi with hx | hx
      · omega
      · exact hx
    · rcases g5 i hi with (((hx | hx) | hx) | hx) | hx
      · omega
      · omega
      · exact .inl hx
      · exact .inr (.inl hx)
      · exact .inr (.inr (List.contains_iff_mem.1 hx))
  · have := h7 i hi k hk
    simp only [Bool.or_eq_true, Bool.not_eq_true', Bool.and_eq_true, decide_eq_true_eq] at this
    rcases this with hx | hx
    · rw [hbb] at hx; cases hx
    · exact hx.1
  · have := h7 i hi k hk
    simp only [Bool.or_eq_true, Bool.not_eq_true', Bool.and_eq_true, decide_eq_true_eq] at this
    rcases this with hx | ⟨_, (hx | hx) | hx⟩
    · rw [hbb] at hx; cases hx
    · exact absurd hs hx
    · exact absurd he hx
    · exact hx
theorem nodup_le {a b : List Nat} (ha : a.Nodup) (h : ∀ x, x ∈ a → x ∈ b) : a.length ≤ b.length := by
  induction a generalizing b with
  | nil => exact Nat.zero_le _
  | cons x a ih =>
    obtain ⟨h1, h2⟩ := List.nodup_cons.1 ha
    have hx : x ∈ b := h x (by simp)
    have := ih (b := b.erase x) h2 fun y hy => (List.mem_erase_of_ne (fun e => h1 (by rw [← e]; exact hy))).2 (h y (by simp [hy]))
    rw [List.length_erase_of_mem hx] at this
    have := List.length_pos_of_mem hx
    simp only [List.length_cons]
    omega
/-- A region whose order is open: a plan for each order of its effects. -/
def draw3Ok (P : Program) (ops : Array Oper) (effs : List Nat) (plans : List Pln) : Bool :=
  (P.follows .mixedOrders || !Region.departs ops) &&
  ((List.range ops.size).all fun k => match ops[k]? with
    | some o => o.after.toList.all fun e => !Region.binds .any e || decide (e.on < k)
    | none => true) &&
  effs.all (fun e => decide (e < ops.size)) && decide effs.Nodup &&
  (ordersOf ops.toList effs.length effs).all fun E => plans.any fun p => plan3Ok ops E p.1 p.2.1 p.2.2

theorem wps_draw3 {r : Option Nat} {P : Program} {mm : Option Tmp → Bool} {n id : Nat} {ops : Array Oper} {s : Fr} {ds : List AD} {H : Hp} {Q : Post} (effs : List Nat) (plans : List Pln)
    (hr : r = none ∨ ops.toList.all (fun o => quietOk o.op) = true) (hok : draw3Ok P ops effs plans = true) (h : ∀ p ∈ plans, vcD P mm n ops.toList [] p.2.1 p.2.2 s ds H Q) : WPS r P n (.region id ops true) s ds H Q := by
  simp only [draw3Ok, Bool.and_eq_true] at hok
  obtain ⟨⟨⟨⟨h1, h2⟩, h3⟩, h4⟩, h5⟩ := hok
  have hedge : ∀ k o e, ops[k]? = some o → e ∈ o.after → Region.binds .any e = true → e.on < k := by
    intro k o e ho he hb
    have hk : k < ops.size := (Array.getElem?_eq_some_iff.1 ho).1
    have := List.all_eq_true.1 h2 k (List.mem_range.2 hk)
    rw [ho] at this
    simp only [List.all_eq_true, Bool.or_eq_true, Bool.not_eq_true', decide_eq_true_eq] at this
    rcases this e (by simpa using he) with hx | hx
    · rw [hb] at hx; cases hx
    · exact hx
  have hanc : ∀ i k, bitM ops.toList i k = true → Anc ops k i := fun q j hq =>
    masks_spec ops.toList [] (fun q h1 h2 => by simp) (fun q hq => absurd hq (by simp)) q j hq
  intro S a hn hH hF hD
  refine wpIn_region_draw fun t => ?_
  have hsch : Region.schedule (P.follows .mixedOrders) ops t = Region.linearise .any ops t := by
    unfold Region.schedule
    rw [if_pos h1]
  rw [hsch]
  have htopo := linearise_topo hedge t
  generalize Region.linearise .any ops t = l at htopo ⊢
  have hE : l.filter (effs.contains ·) ∈ ordersOf ops.toList effs.length effs := by
    have hmem : ∀ x, x ∈ l.filter (effs.contains ·) ↔ x ∈ effs := fun x => by
      rw [List.mem_filter]
      constructor
      · rintro ⟨_, hx⟩; exact List.contains_iff_mem.1 hx
      · intro hx
        have := of_decide_eq_true (List.all_eq_true.1 h3 x hx)
        exact ⟨(htopo.all x this).resolve_left (fun h => h), List.contains_iff_mem.2 hx⟩
    have hnd : (l.filter (effs.contains ·)).Nodup := List.Pairwise.filter _ htopo.nodup
    refine ordersOf_mem _ _ _ _ ?_ hnd hmem fun m1 i m2 hm k hk hb => ?_
    · have hnd2 := of_decide_eq_true h4
      exact Nat.le_antisymm (nodup_le hnd fun x hx => (hmem x).1 hx) (nodup_le hnd2 fun x hx => (hmem x).2 hx)
    · have hil : i ∈ l.filter (effs.contains ·) := by rw [hm]; simp
      obtain ⟨hil, hpi⟩ := List.mem_filter.1 hil
      obtain ⟨a', b', hl⟩ := List.append_of_mem hil
      have hka := htopo.before (hanc _ _ hb) a' b' hl
      have hni : i ∉ a' := by
        intro hx
        have := htopo.nodup
        rw [hl] at this
        exact (List.nodup_append.1 this).2.2 i hx i (by simp) rfl
      have hnm : i ∉ m1 := by
        intro hx
        rw [hm] at hnd
        exact (List.nodup_append.1 hnd).2.2 i hx i (by simp) rfl
      have e1 := takeW_filter (p := (effs.contains ·)) (a := a') (b := b') hni hpi
      rw [← hl, hm] at e1
      have e2 := takeW_filter (p := fun _ => true) (a := m1) (b := m2) hnm rfl
      rw [List.filter_eq_self.2 (fun _ _ => rfl), List.filter_eq_self.2 (fun _ _ => rfl)] at e2
      rw [e2] at e1
      rw [e1]
      exact List.mem_filter.2 ⟨hka, (List.mem_filter.1 hk).2⟩
  obtain ⟨⟨sg, stages, last⟩, hp, hpk⟩ := List.any_eq_true.1 (List.all_eq_true.1 h5 _ hE)
  have hv := h _ hp
  have hpk : plan3Ok ops _ sg stages last = true := hpk
  obtain ⟨_, pl⟩ := plan3_of hanc hpk
  have hB := topoB_of htopo hanc (effs.contains ·)
  simp only [] at hv
  rw [vcD_eq] at hv
  have hst : hdS stages last = (List.range ops.size).filter fun x => sg.getD x 0 == 2 * 0 := by
    cases stages with
    | nil => exact pl.last
    | cons x r => obtain ⟨st, kp, e⟩ := x; exact (pl.st 0 st kp e rfl).1
  rw [hst] at hv
  obtain ⟨sF, k1, k2, k3⟩ := stage_facts3 (r := r) pl (by omega) hv
  have hle : Le S { S with w := { S.w with drawn := S.w.drawn + 1 } } :=
    ⟨rfl, rfl, rfl, Nat.le_refl _, fun _ h => h, fun _ _ => rfl, fun _ _ _ => rfl, Nat.le_refl _, fun _ c _ _ h => ⟨c, h, rfl⟩⟩
  have hH' : HRel { S with w := { S.w with drawn := S.w.drawn + 1 } } H :=
    ⟨hH.fresh, hH.immlt, fun i o ho => (hH.obj i o ho).keep hle (fun _ => rfl) (fun _ _ => rfl) (fun _ _ _ h => h), hH.inj, fun p hp => (hH.giv p hp).mono hle⟩
  refine lift_wpOpsIn hle _ _ _ (draw_run3 (mm := mm) (sg := fun i => sg.getD i 0) pl hr l (fun _ => False) 0 sF ds H _ a hB (fun _ _ h => h.elim) (fun _ _ _ h => by omega)
    (fun i hi he hl _ => k3 i hi (by omega)) k1 hn hH' (hD.mono hle) ?_)
  intro t
  by_cases hx : ∃ k, k < ops.size ∧ (sg.getD k 0 % 2 = 0 ∧ sg.getD k 0 ≤ 2 * 0) ∧ (opAt ops.toList k).dst = some t
  · obtain ⟨k, a1, a2, a3⟩ := hx
    exact .inl ⟨k, a1, a2, fun h => h, a3⟩
  · right
    rw [k2 t (fun i hi h0 e => hx ⟨i, hi, ⟨by omega, by omega⟩, e⟩)]
    exact (hF t).mono hle

section
variable {r : Option Nat} {P : Program} {m : Option Tmp → Bool} {n : Nat} {k : List It} {s : Fr} {ds : List AD} {H : Hp} {Q : Post}
theorem vs_draw3 {id : Nat} {l : List Oper} (effs : List Nat) (plans : List Pln) (hok : draw3Ok P l.toArray effs plans = true) (h : ∀ p ∈ plans, VS none P m n (expand l [] p.2.2 p.2.1 k) s ds H Q) :
    VS none P m n (.code (.region id l.toArray true) :: k) s ds H Q := by
  show WPS none P n (.region id l.toArray true) s ds H (TK none P m n k Q)
  refine wps_draw3 (mm := m) effs plans (.inl rfl) hok fun p hp => ?_
  rw [List.toList_toArray, vcD_expand]; exact h p hp
end
end Go.V
end
section
set_option linter.unusedVariables false
namespace Go.V
set_option linter.unusedSectionVars false
variable [Inhabited GivT]
def CutS {σ : Type} (inv : σ → Prop) (fr : σ → List (Nat × AV)) (hp : σ → Hp) (ds0 : List AD) : Post := fun e s ds H => match e with
  | .normal => Ent s ds H fun s2 ds2 H2 => ∃ x, inv x ∧ s2 = Fr.of (fr x) ∧ ds2 = ds0 ∧ H2 = hp x
  | _ => False
section
variable {P : Program} {m : Option Tmp → Bool} {n : Nat} {k : List It} {s : Fr} {ds : List AD} {H : Hp} {Q : Post}
theorem cutS_of' {σ : Type} {inv : σ → Prop} {fr : σ → List (Nat × AV)} {hp : σ → Hp} {ds0 : List AD} (x : σ) (h : inv x) (hs : Slots s (fr x)) (hH : HSub H (hp x)) : CutS inv fr hp ds0 .normal s ds0 H :=
  Ent.of (fr x) hs hH ⟨x, h, rfl, rfl, rfl⟩
theorem vs_draw3c {σ : Type} (inv : σ → Prop) (fr : σ → List (Nat × AV)) (hp : σ → Hp) {id : Nat} {l : List Oper} (effs : List Nat) (plans : List Pln) (hok : draw3Ok P l.toArray effs plans = true)
    (hE : ∀ s ds H, (Ent s ds H fun s ds H => VS none P m n k s ds H Q) → VS none P m n k s ds H Q)
    (h : ∀ p ∈ plans, VS none P m n (expand l [] p.2.2 p.2.1 []) s ds H (CutS inv fr hp ds)) (h2 : ∀ x, inv x → VS none P m n k (Fr.of (fr x)) ds (hp x) Q) :
    VS none P m n (.code (.region id l.toArray true) :: k) s ds H Q := by
  show WPS none P n (.region id l.toArray true) s ds H (TK none P m n k Q)
  refine (wps_draw3 (mm := m) (Q := TK none P m n [] (CutS inv fr hp ds)) effs plans (.inl rfl) hok fun p hp' => ?_).mono fun e s' ds' H' hq => ?_
  · rw [List.toList_toArray, vcD_expand]; exact h p hp'
  · cases e with
    | normal =>
      have hq : Ent s' ds' H' fun s2 ds2 H2 => ∃ x, inv x ∧ s2 = Fr.of (fr x) ∧ ds2 = ds ∧ H2 = hp x := hq
      show VS none P m n k s' ds' H' Q
      refine hE _ _ _ (hq.mono fun s2 ds2 H2 hx => ?_)
      obtain ⟨x, hi, rfl, rfl, rfl⟩ := hx
      exact h2 x hi
    | _ => exact (show False from hq).elim
end
end Go.V
end
section
set_option linter.unusedVariables false
namespace Go.V
set_option linter.unusedSectionVars false
variable [Inhabited GivT]
def CutG {σ : Type} (inv : σ → Prop) (fr : σ → List (Nat × AV)) (hp : σ → Hp) (dsf : σ → List AD) (Q : Post) : Post := fun e s ds H => match e with
  | .normal => Ent s ds H fun s2 ds2 H2 => ∃ x, inv x ∧ s2 = Fr.of (fr x) ∧ ds2 = dsf x ∧ H2 = hp x
  | e => Q e s ds H
section
variable {r : Option Nat} {P : Program} {m : Option Tmp → Bool} {n : Nat} {s : Fr} {ds : List AD} {H : Hp} {Q : Post} {σ : Type} {inv : σ → Prop} {fr : σ → List (Nat × AV)} {hp : σ → Hp} {dsf : σ → List AD}
theorem CutG_pan {v : AV} : CutG inv fr hp dsf Q (.pan v) s ds H = Q (.pan v) s ds H := rfl
theorem CutG_ret : CutG inv fr hp dsf Q .ret s ds H = Q .ret s ds H := rfl
theorem cutG_of (x : σ) (h : inv x) (hs : Slots s (fr x)) (hd : ds = dsf x) (hH : HSub H (hp x)) : CutG inv fr hp dsf Q .normal s ds H := by
  subst hd
  exact Ent.of (fr x) hs hH ⟨x, h, rfl, rfl, rfl⟩
end
section
variable {r : Option Nat} {P : Program} {m : Option Tmp → Bool} {n : Nat} {s : Fr} {ds : List AD} {H : Hp} {Q : Post} {σ : Type} (inv : σ → Prop) (fr : σ → List (Nat × AV)) (hp : σ → Hp) (dsf : σ → List AD)
theorem wps_cutG {a b : Code} (h1 : VS r P m n [.code a] s ds H (CutG inv fr hp dsf Q)) (h2 : ∀ x, inv x → WPS r P n b (Fr.of (fr x)) (dsf x) (hp x) Q) : WPS r P n (.seq a b) s ds H Q := by
  refine wps_seq ((vcC_sound a h1).mono fun x s' ds' H' hq => ?_)
  cases x with
  | normal =>
    have hq : Ent s' ds' H' fun s2 ds2 H2 => ∃ x, inv x ∧ s2 = Fr.of (fr x) ∧ ds2 = dsf x ∧ H2 = hp x := hq
    refine wps_ent (hq.mono fun s2 ds2 H2 hx => ?_)
    obtain ⟨x, hi, rfl, rfl, rfl⟩ := hx
    exact h2 x hi
  | ret => exact hq
  | pan v => exact hq
  | exit i => exact hq
theorem wps_cutG2 {a b c : Code} (h1 : VS r P m n [.code a, .code b] s ds H (CutG inv fr hp dsf Q)) (h2 : ∀ x, inv x → WPS r P n c (Fr.of (fr x)) (dsf x) (hp x) Q) : WPS r P n (.seq a (.seq b c)) s ds H Q := by
  refine wps_seq ((vcC_sound a h1).mono fun x s' ds' H' hq => ?_)
  cases x with
  | normal => exact wps_cutG inv fr hp dsf hq h2
  | ret => exact hq
  | pan v => exact hq
  | exit i => exact hq
theorem wps_cutG3 {a b c d : Code} (h1 : VS r P m n [.code a, .code b, .code c] s ds H (CutG inv fr hp dsf Q)) (h2 : ∀ x, inv x → WPS r P n d (Fr.of (fr x)) (dsf x) (hp x) Q) : WPS r P n (.seq a (.seq b (.seq c d))) s ds H Q := by
  refine wps_seq ((vcC_sound a h1).mono fun x s' ds' H' hq => ?_)
  cases x with
  | normal => exact wps_cutG2 inv fr hp dsf hq h2
  | ret => exact hq
  | pan v => exact hq
  | exit i => exact hq
end
theorem tri_wam {P : Program} {g : FuncId} {T : RefT} {H : Hp} {f : FuncId} {fn : Func} {c : Code} {caps args : List AV} {R : Res → Hp → Prop} (hg : AnsOk P g T)
    (hf : P.funcs[f]? = some fn) (hname : (fn.name == "runtime.NumGoroutine") = false)
    (hb : fn.body = some c) (hlen : (args ++ caps).length ≤ fn.ntmps) (hbody : WPS none P fn.ntmps c (argFr (args ++ caps)) [] H (FnPostAM P fn g T R)) : Tri P (.func (.func f) [] caps) args H R := by
  intro S vf vs hH hvf ha
  cases hvf with
  | @func _ _ _ ws us hn hm h h' =>
    have hws : ws = #[] := by simpa using hn
    subst hws
    refine ⟨.enter f (vs.toArray ++ us), ?_, ?_⟩
    · have hcf : (callFunc f (vs.toArray ++ us)).run P S.w = .ok (.enter f (vs.toArray ++ us)) S.w := by
        simp only [callFunc, Sem.run_bind, run_program, Result.andThen_ok, hf, hname, hb]
        simp
      simp only [Deferred.ofValue, Sem.run_bind, Sem.run_pure, Result.andThen_ok, invoke]
      have e : (#[] : Array Value) ++ vs.toArray = vs.toArray := by simp
      rw [e]
      exact hcf
    · refine body_callsAM hg hf hb hlen hbody hH ?_
      refine ⟨by simp [ha.1, hm], fun k hk => ?_⟩
      simp only [List.getD, Array.toList_append]
      by_cases hk' : k < args.length
      · rw [List.getElem?_append_left hk', List.getElem?_append_left (by rw [ha.1]; exact hk')]
        exact ha.2 k hk'
      · have e1 := ha.1
        simp only [List.length_append] at hk
        rw [List.getElem?_append_right (by omega), List.getElem?_append_right (by omega), e1]
        have := h' (k - args.length) (by omega)
        simpa [List.getD, Array.getD_eq_getD_getElem?] using this
end Go.V
end
section
set_option linter.unusedVariables false
set_option linter.unusedSimpArgs false
set_option maxHeartbeats 4000000
set_option maxRecDepth 100000
namespace Go.Proofs.YtnmgegodkmgdeaaDoor
open Go.V
/-- How long the longest wait is if a ship comes on first, at one of these tides. -/
def Fi.favO (x : Fi) (i t : Nat) : Option Int := (x.fnd (2 ^ i) (t + x.td i)).map fun n => max n (t - x.fr i)
def favS (b : Int) : Option Int → Int
  | none => b
  | some n => if b < 0 ∨ n < b then n else b
def Fi.favP (x : Fi) (i : Nat) (l : List Nat) : Int := l.foldl (fun b t => favS b (x.favO i t)) (-1)
theorem favP_take (x : Fi) (i : Nat) (l : List Nat) (j : Nat) (hj : j < l.length) : x.favP i (l.take (j + 1)) = favS (x.favP i (l.take j)) (x.favO i (l.getD j 0)) := by
  rw [take_snoc l j 0 hj]
  simp only [Fi.favP, List.foldl_append, List.foldl_cons, List.foldl_nil]
def wfavB (s : Sl) (u : Bool) (i : Nat) : Int := (lngF s (tdA s u)).favP i (bitsL (tdA s u i))
def wfavE (s : Sl) (u : Bool) (n : Int) : Int := if errE s (shipB s n) = 0 then if wfavB s u n.toNat < 0 then 4 else 0 else errE s (shipB s n)
def wfavV (s : Sl) (u : Bool) (n : Int) : Int := if wfavE s u n = 0 then wfavB s u n.toNat else 0
theorem wfavour_tri (s : Sl) (n : Int) (u : Bool) (H : Hp) (kn : Near s) : PTri Tryd.prog (fnA 25) [s.av, i64 n, boo u] H (.tuple [i64 (wfavV s u n), i64 (wfavE s u n)]) := by
  have bad : ¬ errE s (shipB s n) = 0 → wfavE s u n = errE s (shipB s n) ∧ wfavV s u n = 0 := fun he =>
    ⟨if_neg he, if_neg (by rw [show wfavE s u n = errE s (shipB s n) from if_neg he]; exact he)⟩
  refine Tri.drop ?_
  refine tri_wam ans68 Tryd.func25 (by kernel_rfl) rfl (by simp only [List.length_append, List.length_cons, List.length_nil, Tryd.ntmps25]; decide) ?_
  refine wps_cutG3 (m := fun _ => false) (σ := Nat × Nat) (fun y => (H y.1 = none ∧ H y.2 = none ∧ ¬ y.2 = y.1 ∧ ¬ y.1 = y.2) ∧ Ok s ∧ shipB s n = true)
    (fun y => [(3, .rptr 1 2 (fun _ => s.cs) 0 0), (4, bx n), (6, i64 0), (7, .ref y.1 0 1 0 0), (8, .ref y.2 0 1 0 0)])
    (fun y => (H.set y.1 (.box 1 1 fun _ => [i64 0])).set y.2 (.box 1 1 fun _ => [opP s u])) (fun y => [.call 68 [.ref y.1 0 1 0 0]]) ?_ fun y hy => ?_
  · simp only [vsAll, boxA, boxZ, cellA, okAll, stAll, opsA, opA, allocA, dstOk, nilSliceOp, deferV, argFr, Nat.reduceAdd, Nat.reduceLT, Nat.reduceEqDiff, ↓reduceIte, eq_self, wtAll, Tryd.ntmps25]
    intro i7 hh_i7; (try simp only [Hp.set_none, ite_none] at hh_i7)
    refine vs_draw3 [4, 5, 6, 7] [([0, 0, 0, 0, 1, 3, 5, 7], [([0, 1, 2, 3], [0], 4), ([], [], 5), ([], [], 6), ([], [], 7)], []), ([0, 0, 0, 0, 1, 5, 3, 7], [([0, 1, 2, 3], [0], 4), ([], [0], 6), ([], [], 5), ([], [], 7)], []), ([0, 0, 0, 0, 3, 5, 1, 7], [([0, 1, 2, 3], [0, 2, 3], 6), ([], [0], 4), ([], [], 5), ([], [], 7)], [])] (by decide +kernel) fun p hp => ?_
    simp only [List.mem_cons, List.not_mem_nil, or_false] at hp
    rcases hp with rfl | rfl | rfl
    · simp only [vsAll, loadA, loadRow, partA, partOk, okAll, stAll, opsA, opA, dstOk, argFr, Nat.reduceLT, Nat.reduceEqDiff, ↓reduceIte, eq_self, wtAll]
      refine callK_pure (isShip_tri s n _ kn) ?_
      simp only [vsAll, loadA, loadRow, partA, partOk, okAll, stAll, opsA, opA, dstOk, Nat.reduceLT, Nat.reduceEqDiff, ↓reduceIte, eq_self, wtAll]
      refine open_call kn (fun he => ?_) (fun k hv => ?_)
      · obtain ⟨e, ev⟩ := bad he
        simp only [vsAll, loadA, loadRow, partA, partOk, resA, retA.eq_2, Nat.reduceEqDiff, ↓reduceIte, eq_self, wtAll, Tryd.results25, CutG_pan]
        refine ⟨errE s (shipB s n), i7, _, rfl, rfl, by simp only [↓reduceIte, eq_self]; try rfl, ?_⟩
        simp only [vsAll, Nat.reduceLT, ↓reduceIte, eq_self]
        refine dropR_pure ?_ (by (repeat (first | exact HSub_rfl | refine HSub_put_eq (by simp only [vsAll, binA, binLitA, intA, aggA, aggV, boolA, nilA2, isConst, unA, loadA, loadRow, partA, partOk, fieldAddrA, indexAddrA, indexA, fieldA, extractA, lenA, nilCheckA, boxA, boxZ, cellA, cellsA, fillA, okParts, buildSliceA, buildMutA, makeSliceA, partIdx, elemsA, lensA, ifaceA, convA, mmA, pickA, okAll, stAll, opsA, partsA, partsOk, opA, allocA, boxMutA, newCells, okCells, storeObj, appendA, guardV, taA, nM, mapUpA, lookA, sliceA, sliceS, boundsA, opO, okO, copyA, dstOk, nilA, quietOk, nilSliceOp, deferV, panA, resA, argFr, retA.eq_1, retA.eq_2, Nat.reduceAdd, Nat.reduceSub, Nat.reduceMul, Nat.reduceLT, Nat.reduceLeDiff, Nat.reduceEqDiff, Nat.reduceBEq, Int.reduceAdd, Int.reduceSub, Int.reduceMul, Int.reduceNeg, Int.reduceLE, Int.reduceLT, Int.reduceEq, Int.reduceNe, Int.reduceToNat, ↓reduceIte, reduceCtorEq, implies_true, forall_const, eq_self, ne_eq, wtAll, Tryd.ntmps25, Tryd.results25, hh_i7]) ?_ | refine HSub_drop2 (by simp only [eq_self, hh_i7]) ?_ | refine HSub_keep_eq (by simp only [vsAll, binA, binLitA, intA, aggA, aggV, boolA, nilA2, isConst, unA, loadA, loadRow, partA, partOk, fieldAddrA, indexAddrA, indexA, fieldA, extractA, lenA, nilCheckA, boxA, boxZ, cellA, cellsA, fillA, okParts, buildSliceA, buildMutA, makeSliceA, partIdx, elemsA, lensA, ifaceA, convA, mmA, pickA, okAll, stAll, opsA, partsA, partsOk, opA, allocA, boxMutA, newCells, okCells, storeObj, appendA, guardV, taA, nM, mapUpA, lookA, sliceA, sliceS, boundsA, opO, okO, copyA, dstOk, nilA, quietOk, nilSliceOp, deferV, panA, resA, argFr, retA.eq_1, retA.eq_2, Nat.reduceAdd, Nat.reduceSub, Nat.reduceMul, Nat.reduceLT, Nat.reduceLeDiff, Nat.reduceEqDiff, Nat.reduceBEq, Int.reduceAdd, Int.reduceSub, Int.reduceMul, Int.reduceNeg, Int.reduceLE, Int.reduceLT, Int.reduceEq, Int.reduceNe, Int.reduceToNat, ↓reduceIte, reduceCtorEq, implies_true, forall_const, eq_self, ne_eq, wtAll, Tryd.ntmps25, Tryd.results25, hh_i7]) ?_)))
        simp only [eq_self, ev, e]
      · simp only [vsAll, cellA, cellsA, opA, allocA, newCells, okCells, storeObj, dstOk, Nat.reduceLT, Nat.reduceEqDiff, ↓reduceIte, eq_self, wtAll]
        intro i8 hh_i8; (try simp only [ite_none] at hh_i8)
        exact cutG_of (i7, i8) ⟨⟨hh_i7, hh_i8.2, hh_i8.1.1, hh_i8.1.2⟩, k, hv⟩ (by simp only [vsAll, Nat.reduceEqDiff, ↓reduceIte, eq_self]) rfl (by (repeat (first | exact HSub_rfl | refine HSub_put_eq (by simp only [vsAll, ↓reduceIte, eq_self, hh_i8]) ?_ | refine HSub_drop2 (by simp only [eq_self, hh_i7, hh_i8]) ?_ | refine HSub_keep_eq (by simp only [vsAll, binA, binLitA, intA, aggA, aggV, boolA, nilA2, isConst, unA, loadA, loadRow, partA, partOk, fieldAddrA, indexAddrA, indexA, fieldA, extractA, lenA, nilCheckA, boxA, boxZ, cellA, cellsA, fillA, okParts, buildSliceA, buildMutA, makeSliceA, partIdx, elemsA, lensA, ifaceA, convA, mmA, pickA, okAll, stAll, opsA, partsA, partsOk, opA, allocA, boxMutA, newCells, okCells, storeObj, appendA, guardV, taA, nM, mapUpA, lookA, sliceA, sliceS, boundsA, opO, okO, copyA, dstOk, nilA, quietOk, nilSliceOp, deferV, panA, resA, argFr, retA.eq_1, retA.eq_2, Nat.reduceAdd, Nat.reduceSub, Nat.reduceMul, Nat.reduceLT, Nat.reduceLeDiff, Nat.reduceEqDiff, Nat.reduceBEq, Int.reduceAdd, Int.reduceSub, Int.reduceMul, Int.reduceNeg, Int.reduceLE, Int.reduceLT, Int.reduceEq, Int.reduceNe, Int.reduceToNat, ↓reduceIte, reduceCtorEq, implies_true, forall_const, eq_self, ne_eq, wtAll, Tryd.ntmps25, Tryd.results25, hh_i7, hh_i8]) ?_)))
    · simp only [vsAll, loadA, loadRow, partA, partOk, okAll, stAll, opsA, opA, dstOk, argFr, Nat.reduceLT, Nat.reduceEqDiff, ↓reduceIte, eq_self, wtAll]
      refine callK_pure (isShip_tri s n _ kn) ?_
      simp only [vsAll, loadA, loadRow, partA, partOk, okAll, stAll, opsA, opA, allocA, dstOk, Nat.reduceLT, Nat.reduceEqDiff, ↓reduceIte, eq_self, wtAll]
      intro i8 hh_i8; (try simp only [ite_none] at hh_i8)
      refine open_call kn (fun he => ?_) (fun k hv => ?_)
      · obtain ⟨e, ev⟩ := bad he
        simp only [vsAll, loadA, loadRow, partA, partOk, resA, retA.eq_2, Nat.reduceEqDiff, ↓reduceIte, eq_self, wtAll, Tryd.results25, hh_i8, CutG_pan]
        refine ⟨errE s (shipB s n), i7, _, rfl, rfl, by simp only [↓reduceIte, eq_self, hh_i8]; try rfl, ?_⟩
        simp only [vsAll, Nat.reduceLT, ↓reduceIte, eq_self]
        refine dropR_pure ?_ (by (repeat (first | exact HSub_rfl | refine HSub_put_eq (by simp only [vsAll, binA, binLitA, intA, aggA, aggV, boolA, nilA2, isConst, unA, loadA, loadRow, partA, partOk, fieldAddrA, indexAddrA, indexA, fieldA, extractA, lenA, nilCheckA, boxA, boxZ, cellA, cellsA, fillA, okParts, buildSliceA, buildMutA, makeSliceA, partIdx, elemsA, lensA, ifaceA, convA, mmA, pickA, okAll, stAll, opsA, partsA, partsOk, opA, allocA, boxMutA, newCells, okCells, storeObj, appendA, guardV, taA, nM, mapUpA, lookA, sliceA, sliceS, boundsA, opO, okO, copyA, dstOk, nilA, quietOk, nilSliceOp, deferV, panA, resA, argFr, retA.eq_1, retA.eq_2, Nat.reduceAdd, Nat.reduceSub, Nat.reduceMul, Nat.reduceLT, Nat.reduceLeDiff, Nat.reduceEqDiff, Nat.reduceBEq, Int.reduceAdd, Int.reduceSub, Int.reduceMul, Int.reduceNeg, Int.reduceLE, Int.reduceLT, Int.reduceEq, Int.reduceNe, Int.reduceToNat, ↓reduceIte, reduceCtorEq, implies_true, forall_const, eq_self, ne_eq, wtAll, Tryd.ntmps25, Tryd.results25, hh_i7, hh_i8]) ?_ | refine HSub_drop2 (by simp only [eq_self, hh_i7, hh_i8]) ?_ | refine HSub_keep_eq (by simp only [vsAll, binA, binLitA, intA, aggA, aggV, boolA, nilA2, isConst, unA, loadA, loadRow, partA, partOk, fieldAddrA, indexAddrA, indexA, fieldA, extractA, lenA, nilCheckA, boxA, boxZ, cellA, cellsA, fillA, okParts, buildSliceA, buildMutA, makeSliceA, partIdx, elemsA, lensA, ifaceA, convA, mmA, pickA, okAll, stAll, opsA, partsA, partsOk, opA, allocA, boxMutA, newCells, okCells, storeObj, appendA, guardV, taA, nM, mapUpA, lookA, sliceA, sliceS, boundsA, opO, okO, copyA, dstOk, nilA, quietOk, nilSliceOp, deferV, panA, resA, argFr, retA.eq_1, retA.eq_2, Nat.reduceAdd, Nat.reduceSub, Nat.reduceMul, Nat.reduceLT, Nat.reduceLeDiff, Nat.reduceEqDiff, Nat.reduceBEq, Int.reduceAdd, Int.reduceSub, Int.reduceMul, Int.reduceNeg, Int.reduceLE, Int.reduceLT, Int.reduceEq, Int.reduceNe, Int.reduceToNat, ↓reduceIte, reduceCtorEq, implies_true, forall_const, eq_self, ne_eq, wtAll, Tryd.ntmps25, Tryd.results25, hh_i7, hh_i8]) ?_)))
        simp only [eq_self, ev, e]
      · simp only [vsAll, cellA, cellsA, opA, newCells, okCells, storeObj, dstOk, Nat.reduceLT, Nat.reduceEqDiff, ↓reduceIte, eq_self, wtAll]
        exact cutG_of (i7, i8) ⟨⟨hh_i7, hh_i8.2, hh_i8.1.1, hh_i8.1.2⟩, k, hv⟩ (by simp only [vsAll, Nat.reduceEqDiff, ↓reduceIte, eq_self]) rfl (by (repeat (first | exact HSub_rfl | refine HSub_put_eq (by simp only [vsAll, ↓reduceIte, eq_self, hh_i8]) ?_ | refine HSub_drop2 (by simp only [eq_self, hh_i7, hh_i8]) ?_ | refine HSub_keep_eq (by simp only [vsAll, binA, binLitA, intA, aggA, aggV, boolA, nilA2, isConst, unA, loadA, loadRow, partA, partOk, fieldAddrA, indexAddrA, indexA, fieldA, extractA, lenA, nilCheckA, boxA, boxZ, cellA, cellsA, fillA, okParts, buildSliceA, buildMutA, makeSliceA, partIdx, elemsA, lensA, ifaceA, convA, mmA, pickA, okAll, stAll, opsA, partsA, partsOk, opA, allocA, boxMutA, newCells, okCells, storeObj, appendA, guardV, taA, nM, mapUpA, lookA, sliceA, sliceS, boundsA, opO, okO, copyA, dstOk, nilA, quietOk, nilSliceOp, deferV, panA, resA, argFr, retA.eq_1, retA.eq_2, Nat.reduceAdd, Nat.reduceSub, Nat.reduceMul, Nat.reduceLT, Nat.reduceLeDiff, Nat.reduceEqDiff, Nat.reduceBEq, Int.reduceAdd, Int.reduceSub, Int.reduceMul, Int.reduceNeg, Int.reduceLE, Int.reduceLT, Int.reduceEq, Int.reduceNe, Int.reduceToNat, ↓reduceIte, reduceCtorEq, implies_true, forall_const, eq_self, ne_eq, wtAll, Tryd.ntmps25, Tryd.results25, hh_i7, hh_i8]) ?_)))
    · simp only [vsAll, loadA, loadRow, partA, partOk, okAll, stAll, opsA, opA, allocA, dstOk, argFr, Nat.reduceLT, Nat.reduceEqDiff, ↓reduceIte, eq_self, wtAll]
      intro i8 hh_i8; (try simp only [ite_none] at hh_i8)
      refine callK_pure (isShip_tri s n _ kn) ?_
      simp only [vsAll, loadA, loadRow, partA, partOk, okAll, stAll, opsA, opA, dstOk, Nat.reduceLT, Nat.reduceEqDiff, ↓reduceIte, eq_self, wtAll]
      refine open_call kn (fun he => ?_) (fun k hv => ?_)
      · obtain ⟨e, ev⟩ := bad he
        simp only [vsAll, loadA, loadRow, partA, partOk, resA, retA.eq_2, Nat.reduceEqDiff, ↓reduceIte, eq_self, wtAll, Tryd.results25, hh_i8, CutG_pan]
        refine ⟨errE s (shipB s n), i7, _, rfl, rfl, by simp only [↓reduceIte, eq_self, hh_i8]; try rfl, ?_⟩
        simp only [vsAll, Nat.reduceLT, ↓reduceIte, eq_self]
        refine dropR_pure ?_ (by (repeat (first | exact HSub_rfl | refine HSub_put_eq (by simp only [vsAll, binA, binLitA, intA, aggA, aggV, boolA, nilA2, isConst, unA, loadA, loadRow, partA, partOk, fieldAddrA, indexAddrA, indexA, fieldA, extractA, lenA, nilCheckA, boxA, boxZ, cellA, cellsA, fillA, okParts, buildSliceA, buildMutA, makeSliceA, partIdx, elemsA, lensA, ifaceA, convA, mmA, pickA, okAll, stAll, opsA, partsA, partsOk, opA, allocA, boxMutA, newCells, okCells, storeObj, appendA, guardV, taA, nM, mapUpA, lookA, sliceA, sliceS, boundsA, opO, okO, copyA, dstOk, nilA, quietOk, nilSliceOp, deferV, panA, resA, argFr, retA.eq_1, retA.eq_2, Nat.reduceAdd, Nat.reduceSub, Nat.reduceMul, Nat.reduceLT, Nat.reduceLeDiff, Nat.reduceEqDiff, Nat.reduceBEq, Int.reduceAdd, Int.reduceSub, Int.reduceMul, Int.reduceNeg, Int.reduceLE, Int.reduceLT, Int.reduceEq, Int.reduceNe, Int.reduceToNat, ↓reduceIte, reduceCtorEq, implies_true, forall_const, eq_self, ne_eq, wtAll, Tryd.ntmps25, Tryd.results25, hh_i7, hh_i8]) ?_ | refine HSub_drop2 (by simp only [eq_self, hh_i7, hh_i8]) ?_ | refine HSub_keep_eq (by simp only [vsAll, binA, binLitA, intA, aggA, aggV, boolA, nilA2, isConst, unA, loadA, loadRow, partA, partOk, fieldAddrA, indexAddrA, indexA, fieldA, extractA, lenA, nilCheckA, boxA, boxZ, cellA, cellsA, fillA, okParts, buildSliceA, buildMutA, makeSliceA, partIdx, elemsA, lensA, ifaceA, convA, mmA, pickA, okAll, stAll, opsA, partsA, partsOk, opA, allocA, boxMutA, newCells, okCells, storeObj, appendA, guardV, taA, nM, mapUpA, lookA, sliceA, sliceS, boundsA, opO, okO, copyA, dstOk, nilA, quietOk, nilSliceOp, deferV, panA, resA, argFr, retA.eq_1, retA.eq_2, Nat.reduceAdd, Nat.reduceSub, Nat.reduceMul, Nat.reduceLT, Nat.reduceLeDiff, Nat.reduceEqDiff, Nat.reduceBEq, Int.reduceAdd, Int.reduceSub, Int.reduceMul, Int.reduceNeg, Int.reduceLE, Int.reduceLT, Int.reduceEq, Int.reduceNe, Int.reduceToNat, ↓reduceIte, reduceCtorEq, implies_true, forall_const, eq_self, ne_eq, wtAll, Tryd.ntmps25, Tryd.results25, hh_i7, hh_i8]) ?_)))
        simp only [eq_self, ev, e]
      · simp only [vsAll, cellA, cellsA, opA, newCells, okCells, storeObj, dstOk, Nat.reduceLT, Nat.reduceEqDiff, ↓reduceIte, eq_self, wtAll]
        exact cutG_of (i7, i8) ⟨⟨hh_i7, hh_i8.2, hh_i8.1.1, hh_i8.1.2⟩, k, hv⟩ (by simp only [vsAll, Nat.reduceEqDiff, ↓reduceIte, eq_self]) rfl (by (repeat (first | exact HSub_rfl | refine HSub_put_eq (by simp only [vsAll, ↓reduceIte, eq_self, hh_i8]) ?_ | refine HSub_drop2 (by simp only [eq_self, hh_i7, hh_i8]) ?_ | refine HSub_keep_eq (by simp only [vsAll, binA, binLitA, intA, aggA, aggV, boolA, nilA2, isConst, unA, loadA, loadRow, partA, partOk, fieldAddrA, indexAddrA, indexA, fieldA, extractA, lenA, nilCheckA, boxA, boxZ, cellA, cellsA, fillA, okParts, buildSliceA, buildMutA, makeSliceA, partIdx, elemsA, lensA, ifaceA, convA, mmA, pickA, okAll, stAll, opsA, partsA, partsOk, opA, allocA, boxMutA, newCells, okCells, storeObj, appendA, guardV, taA, nM, mapUpA, lookA, sliceA, sliceS, boundsA, opO, okO, copyA, dstOk, nilA, quietOk, nilSliceOp, deferV, panA, resA, argFr, retA.eq_1, retA.eq_2, Nat.reduceAdd, Nat.reduceSub, Nat.reduceMul, Nat.reduceLT, Nat.reduceLeDiff, Nat.reduceEqDiff, Nat.reduceBEq, Int.reduceAdd, Int.reduceSub, Int.reduceMul, Int.reduceNeg, Int.reduceLE, Int.reduceLT, Int.reduceEq, Int.reduceNe, Int.reduceToNat, ↓reduceIte, reduceCtorEq, implies_true, forall_const, eq_self, ne_eq, wtAll, Tryd.ntmps25, Tryd.results25, hh_i7, hh_i8]) ?_)))
  · obtain ⟨i7, i8⟩ := y
    obtain ⟨hids, k, hv⟩ := hy
    simp only [] at hids hv
    skip
    have he : errE s (shipB s n) = 0 := by rw [hv]; exact errE_ok k
    rw [shipB_iff] at hv
    have nS := k.nS
    obtain ⟨q, rfl⟩ : ∃ q : Nat, n = (q : Int) := ⟨n.toNat, by ((try clear hids); omega)⟩
    have hq : q < s.sh.length := by ((try clear hids); omega)
    have hks := k.s q hq
    unfold okS at hks
    generalize hb : wfavB s u q = b
    have e : wfavE s u q = if b < 0 then 4 else 0 := by rw [wfavE, if_pos he, Int.toNat_natCast, hb]
    have ev : wfavV s u q = if b < 0 then 0 else b := by
      rw [wfavV, e, Int.toNat_natCast, hb]
      by_cases hbn : b < 0
      · rw [if_pos hbn, if_pos hbn]; rfl
      · rw [if_neg hbn, if_neg hbn]; rfl
    clear bad
    refine wps_vs (m := fun _ => false) ?_
    simp only [vsAll, cellA, cellsA, opA, allocA, newCells, okCells, storeObj, dstOk, Nat.reduceLT, Int.reduceNeg, ↓reduceIte, eq_self, wtAll, Tryd.ntmps25]
    intro i9 hh_i9; (try simp only [ite_none] at hh_i9)
    refine vs_draw2 [0, 0, 0, 0, 0, 0, 1] [([0, 1, 2, 3, 4, 5], [], 6)] [] (by decide +kernel) ?_
    simp only [vsAll, loadA, loadRow, partA, partOk, fieldAddrA, indexAddrA, nilCheckA, okAll, stAll, opsA, opA, dstOk, Nat.reduceLT, Nat.reduceEqDiff, Int.reduceNeg, ↓reduceIte, eq_self, wtAll, hh_i9]
    rw [bth_get s u _ q (by ((try clear hids); (try clear hh_i9); omega))]
    refine ⟨⟨by ((try clear hids); (try clear hh_i9); omega), by ((try clear hids); (try clear hh_i9); omega)⟩, by ((try clear hids); (try clear hh_i9); omega), trivial, callK_pure (all_tri (tdA s u q) _) ?_⟩
    have hmb := tdA_b k u q
    generalize hx : lngF s (tdA s u) = x
    have hfrE : x.fr q = (s.sh.getD q sh0).fr := by rw [← hx]; rfl
    have htdE : x.td q = (s.sh.getD q sh0).td := by rw [← hx]; rfl
    have hp : 2 ^ s.sh.length ≤ 2 ^ 5 := Nat.pow_le_pow_right (by decide) nS
    have hpw : (1 : Int) * 2 ^ q = ((2 ^ q : Nat) : Int) := by rw [Int.one_mul]; simp
    have hpq : 2 ^ q < 2 ^ s.sh.length := Nat.pow_lt_pow_right (by decide) hq
    have hfi := fun (fr : Int) (hfr : -100 ≤ fr ∧ fr ≤ 100) H' => find_tri s u (tdA s u) 0 max min (.func 84) (.func 85) [] [] (2 ^ q) fr H' k (tdA_b k u) (lngG s (tdA s u)) hpq hfr
    have hV : ∀ fr, VO (lngG s (tdA s u)).V (cnt s.sh.length (2 ^ q)) (80 ^ cnt s.sh.length (2 ^ q)) (x.fnd (2 ^ q) fr) := fun fr => by
      rw [← hx]; exact fd_V (lngG s (tdA s u)).vd (fiS_bd k (tdA_b k u) _ _ _) _ _ _
    have hb2 : x.favP q (bitsL (tdA s u q)) = b := by rw [← hx, ← hb]; rfl
    simp only [hx] at hfi
    generalize hbp : (fun j => x.favP q ((bitsL (tdA s u q)).take j)) = bp
    have hb0 : bp 0 = -1 := by rw [← hbp]; rfl
    have hbe : bp (bitsL (tdA s u q)).length = b := by rw [← hb2, ← hbp]; simp only [List.take_length]
    have hbb : ∀ j, j ≤ (bitsL (tdA s u q)).length → -1 ≤ bp j ∧ bp j ≤ 100 := by
      intro j
      induction j with
      | zero => intro _; ((try clear hids); (try clear hh_i9); omega)
      | succ j ih =>
        intro hj
        have h1 := ih (by ((try clear hids); (try clear hh_i9); omega))
        have h2 : bp (j + 1) = favS (bp j) (x.favO q ((bitsL (tdA s u q)).getD j 0)) := by rw [← hbp]; exact favP_take x q _ j (by ((try clear hids); (try clear hh_i9); omega))
        have h3 := bitsL_lt hmb (mem_getD (bitsL (tdA s u q)) j 0 (by ((try clear hids); (try clear hh_i9); omega)))
        rw [h2]
        unfold Fi.favO
        cases hf : x.fnd (2 ^ q) (((bitsL (tdA s u q)).getD j 0 : Nat) + x.td q) with
        | none => exact h1
        | some r =>
          have h4 : 0 ≤ r ∧ r ≤ 16 := hV _ r hf
          have h5 : 0 ≤ (s.sh.getD q sh0).fr := by ((try clear hids); (try clear hh_i9); omega)
          simp only [Option.map_some, favS, hfrE]
          split <;> ((try clear hids); (try clear hh_i9); omega)
    simp only [vsAll, Int.reduceNeg]
    refine vs_rangeS (σ := Unit) (bitsA (tdA s u q)) (fun _ _ => True)
      (fun j _ => ((H.set i7 (.box 1 1 fun _ => [i64 0])).set i8 (.box 1 1 fun _ => [opP s u])).set i9 (.box 1 1 fun _ => [i64 (bp j)])) () (fun _ => True) Tryd.func88 (by kernel_rfl) rfl (by simp only [vsAll, opA, ↓reduceIte, eq_self]) (by simp only [vsAll, opA, ↓reduceIte, eq_self]) (by decide) (fun v hv => by obtain ⟨p, _, rfl⟩ := List.mem_map.1 hv; rfl)
      (fun yf H K hi => all1_tri (tdA s u q) (by ((try clear hids); (try clear hh_i9); omega)) yf H _ K hi) trivial ?_ ?_ ?_ ?_ ?_
    · rw [hb0]
      (repeat (first | exact HSub_rfl | refine HSub_put_eq (by simp only [vsAll, Int.reduceNeg, ↓reduceIte, eq_self, hids, hh_i9]) ?_ | refine HSub_drop2 (by simp only [eq_self, hids, hh_i9]) ?_ | refine HSub_keep_eq (by simp only [vsAll, binA, binLitA, intA, aggA, aggV, boolA, nilA2, isConst, unA, loadA, loadRow, partA, partOk, fieldAddrA, indexAddrA, indexA, fieldA, extractA, lenA, nilCheckA, boxA, boxZ, cellA, cellsA, fillA, okParts, buildSliceA, buildMutA, makeSliceA, partIdx, elemsA, lensA, ifaceA, convA, mmA, pickA, okAll, stAll, opsA, partsA, partsOk, opA, allocA, boxMutA, newCells, okCells, storeObj, appendA, guardV, taA, nM, mapUpA, lookA, sliceA, sliceS, boundsA, opO, okO, copyA, dstOk, nilA, quietOk, nilSliceOp, deferV, panA, resA, argFr, retA.eq_1, retA.eq_2, Nat.reduceAdd, Nat.reduceSub, Nat.reduceMul, Nat.reduceLT, Nat.reduceLeDiff, Nat.reduceEqDiff, Nat.reduceBEq, Int.reduceAdd, Int.reduceSub, Int.reduceMul, Int.reduceNeg, Int.reduceLE, Int.reduceLT, Int.reduceEq, Int.reduceNe, Int.reduceToNat, ↓reduceIte, reduceCtorEq, implies_true, forall_const, eq_self, ne_eq, wtAll, Tryd.ntmps25, Tryd.results25, hids, hh_i9]) ?_))
    · intro j _ _ q hq; simp only [Hp.set_none] at hq ⊢; exact hq
    · intros; trivial
    · rintro j v ⟨⟩ hv _ lid did l lo h1 h2 h3'
      simp only [Hp.set_none] at h1 h2
      have h4 : ¬ did = lid := fun e => h3' e.symm
      skip
      obtain ⟨hj, rfl⟩ := bits_get hv
      have ht16 : (bitsL (tdA s u q)).getD j 0 < 16 := bitsL_lt hmb (mem_getD _ j 0 hj)
      have hqn : bp (j + 1) = favS (bp j) (x.favO q ((bitsL (tdA s u q)).getD j 0)) := by rw [← hbp]; exact favP_take x q _ j hj
      have hbj := hbb j (by ((try clear hids); (try clear hh_i9); (try clear h1); (try clear h2); (try clear h3'); (try clear h4); omega))
      generalize hgt : (bitsL (tdA s u q)).getD j 0 = t at ht16 hqn ⊢
      unfold Fi.favO at hqn
      rw [htdE, hfrE] at hqn
      simp only [vsAll, loadA, loadRow, partA, partOk, fieldAddrA, indexAddrA, cellA, cellsA, opA, allocA, newCells, okCells, storeObj, dstOk, quietOk, nilSliceOp, Nat.reduceAdd, Nat.reduceLT, Nat.reduceEqDiff, ↓reduceIte, eq_self, wtAll, shF_at]
      refine ⟨⟨by ((try clear hids); (try clear hh_i9); (try clear h1); (try clear h2); (try clear h3'); (try clear h4); omega), by ((try clear hids); (try clear hh_i9); (try clear h1); (try clear h2); (try clear h3'); (try clear h4); omega)⟩, hq, ?_⟩
      intro i11 hh_i11; (try simp only [ite_none] at hh_i11)
      refine vs_draw2R [0, 0, 0, 0, 0, 1, 0, 0, 0, 0, 0, 0, 0, 3, 4, 4, 4, 4, 4] [([0, 1, 2, 3, 4, 6, 7, 8, 9, 10, 11, 12], [0, 1, 4, 6, 10], 5), ([], [], 13)] [14, 15, 16, 17, 18] (by repeat' constructor) (by decide +kernel) ?_
      generalize hpp : 2 ^ q = p2 at hpw hpq hfi hqn hV
      simp only [vsAll, binA, binLitA, intA, loadA, loadRow, partA, partOk, fieldAddrA, nilCheckA, cellA, cellsA, fillA, okParts, okAll, stAll, opsA, partsA, partsOk, opA, dstOk, Nat.reduceAdd, Nat.reduceMul, Nat.reduceLT, Nat.reduceLeDiff, Nat.reduceEqDiff, ↓reduceIte, eq_self, wtAll, hh_i9, h1, h2, hh_i11, hpw, bth_cells]
      refine ⟨⟨by ((try clear hids); (try clear hh_i9); (try clear h1); (try clear h2); (try clear h3'); (try clear h4); (try clear hh_i11); omega), by ((try clear hids); (try clear hh_i9); (try clear h1); (try clear h2); (try clear h3'); (try clear h4); (try clear hh_i11); omega), by simp only [InR_i64]; ((try clear hids); (try clear hh_i9); (try clear h1); (try clear h2); (try clear h3'); (try clear h4); (try clear hh_i11); omega)⟩, by simp only [InR_i64]; ((try clear hids); (try clear hh_i9); (try clear h1); (try clear h2); (try clear h3'); (try clear h4); (try clear hh_i11); omega), callK_pure (longest_tri _) ?_⟩
      simp only [vsAll, loadA, loadRow, partA, partOk, okAll, stAll, opsA, opA, dstOk, Nat.reduceAdd, Nat.reduceMul, Nat.reduceLT, Nat.reduceEqDiff, ↓reduceIte, eq_self, wtAll, hh_i9, h1, h2, hh_i11]
      refine ⟨by rw [bth_cells], ?_⟩
      refine callK_pure (hfi (t + (s.sh.getD q sh0).td) (by ((try clear hids); (try clear hh_i9); (try clear h1); (try clear h2); (try clear h3'); (try clear h4); (try clear hh_i11); omega)) _) ?_
      have hV2 := hV (t + (s.sh.getD q sh0).td)
      generalize x.fnd p2 (t + (s.sh.getD q sh0).td) = o at hqn hV2
      cases o with
      | none =>
        simp only [Option.map_none, favS] at hqn
        simp only [vsAll, binA, binLitA, intA, loadA, loadRow, partA, partOk, fieldAddrA, extractA, mmA, pickA, okAll, stAll, opsA, opA, guardV, dstOk, quietOk, nilSliceOp, Nat.reduceAdd, Nat.reduceLT, Nat.reduceEqDiff, ↓reduceIte, implies_true, eq_self, wtAll, h1, h2, hh_i11, Option.getD_none]
        refine ⟨by simp only [InR_i64]; ((try clear hids); (try clear hh_i9); (try clear h1); (try clear h2); (try clear h3'); (try clear h4); (try clear hh_i11); omega), ⟨_, _, rfl⟩, _, ⟨(), rfl⟩, ?_⟩
        rw [hqn]
        (repeat (first | exact HSub_rfl | refine HSub_put_eq (by simp only [vsAll, ↓reduceIte, eq_self, hids, hh_i9, h1, h2, h4, hh_i11]) ?_ | refine HSub_drop2 (by simp only [eq_self, hids, hh_i9, h1, h2, hh_i11]) ?_ | refine HSub_keep_eq (by simp only [vsAll, binA, binLitA, intA, aggA, aggV, boolA, nilA2, isConst, unA, loadA, loadRow, partA, partOk, fieldAddrA, indexAddrA, indexA, fieldA, extractA, lenA, nilCheckA, boxA, boxZ, cellA, cellsA, fillA, okParts, buildSliceA, buildMutA, makeSliceA, partIdx, elemsA, lensA, ifaceA, convA, mmA, pickA, okAll, stAll, opsA, partsA, partsOk, opA, allocA, boxMutA, newCells, okCells, storeObj, appendA, guardV, taA, nM, mapUpA, lookA, sliceA, sliceS, boundsA, opO, okO, copyA, dstOk, nilA, quietOk, nilSliceOp, deferV, panA, resA, argFr, retA.eq_1, retA.eq_2, Nat.reduceAdd, Nat.reduceSub, Nat.reduceMul, Nat.reduceLT, Nat.reduceLeDiff, Nat.reduceEqDiff, Nat.reduceBEq, Int.reduceAdd, Int.reduceSub, Int.reduceMul, Int.reduceNeg, Int.reduceLE, Int.reduceLT, Int.reduceEq, Int.reduceNe, Int.reduceToNat, ↓reduceIte, reduceCtorEq, implies_true, forall_const, eq_self, ne_eq, wtAll, Tryd.ntmps25, Tryd.results25, hids, hh_i9, h1, h2, h3', h4, hh_i11]) ?_))
      | some r =>
        simp only [Option.map_some, favS] at hqn
        have hr : 0 ≤ r ∧ r ≤ 16 := hV2 r rfl
        simp only [vsAll, binA, binLitA, intA, loadA, loadRow, partA, partOk, fieldAddrA, extractA, mmA, pickA, okAll, stAll, opsA, opA, guardV, dstOk, quietOk, nilSliceOp, Nat.reduceAdd, Nat.reduceLT, Nat.reduceEqDiff, ↓reduceIte, implies_true, eq_self, wtAll, h1, h2, hh_i11, Option.getD_some]
        refine ⟨by simp only [InR_i64]; ((try clear hids); (try clear hh_i9); (try clear h1); (try clear h2); (try clear h3'); (try clear h4); (try clear hh_i11); omega), condV (fun hc => ?_) (fun hc => ?_)⟩
        · rw [Bool.or_eq_true, decide_eq_true_eq, decide_eq_true_eq] at hc
          rw [if_pos hc] at hqn
          simp only [vsAll, cellA, cellsA, opA, newCells, okCells, storeObj, dstOk, quietOk, Nat.reduceLT, Nat.reduceEqDiff, ↓reduceIte, eq_self, wtAll, h1, h2, hh_i11]
          refine ⟨⟨_, _, rfl⟩, _, ⟨(), rfl⟩, ?_⟩
          rw [hqn]
          (repeat (first | exact HSub_rfl | refine HSub_put_eq (by simp only [vsAll, ↓reduceIte, eq_self, hids, hh_i9, h1, h2, h4, hh_i11]) ?_ | refine HSub_drop2 (by simp only [eq_self, hids, hh_i9, h1, h2, hh_i11]) ?_ | refine HSub_keep_eq (by simp only [vsAll, binA, binLitA, intA, aggA, aggV, boolA, nilA2, isConst, unA, loadA, loadRow, partA, partOk, fieldAddrA, indexAddrA, indexA, fieldA, extractA, lenA, nilCheckA, boxA, boxZ, cellA, cellsA, fillA, okParts, buildSliceA, buildMutA, makeSliceA, partIdx, elemsA, lensA, ifaceA, convA, mmA, pickA, okAll, stAll, opsA, partsA, partsOk, opA, allocA, boxMutA, newCells, okCells, storeObj, appendA, guardV, taA, nM, mapUpA, lookA, sliceA, sliceS, boundsA, opO, okO, copyA, dstOk, nilA, quietOk, nilSliceOp, deferV, panA, resA, argFr, retA.eq_1, retA.eq_2, Nat.reduceAdd, Nat.reduceSub, Nat.reduceMul, Nat.reduceLT, Nat.reduceLeDiff, Nat.reduceEqDiff, Nat.reduceBEq, Int.reduceAdd, Int.reduceSub, Int.reduceMul, Int.reduceNeg, Int.reduceLE, Int.reduceLT, Int.reduceEq, Int.reduceNe, Int.reduceToNat, ↓reduceIte, reduceCtorEq, implies_true, forall_const, eq_self, ne_eq, wtAll, Tryd.ntmps25, Tryd.results25, hids, hh_i9, h1, h2, h3', h4, hh_i11]) ?_))
        · have hc2 : ¬ (bp j < 0 ∨ max r (t - (s.sh.getD q sh0).fr) < bp j) := by
            rw [← decide_eq_true_eq (p := bp j < 0), ← decide_eq_true_eq (p := max r (t - (s.sh.getD q sh0).fr) < bp j), ← Bool.or_eq_true, hc]; decide
          rw [if_neg hc2] at hqn
          simp only [vsAll, ↓reduceIte, eq_self, hh_i11]
          refine ⟨⟨_, _, rfl⟩, _, ⟨(), rfl⟩, ?_⟩
          rw [hqn]
          (repeat (first | exact HSub_rfl | refine HSub_put_eq (by simp only [vsAll, ↓reduceIte, eq_self, hids, hh_i9, h1, h2, h4, hh_i11]) ?_ | refine HSub_drop2 (by simp only [eq_self, hids, hh_i9, h1, h2, hh_i11]) ?_ | refine HSub_keep_eq (by simp only [vsAll, binA, binLitA, intA, aggA, aggV, boolA, nilA2, isConst, unA, loadA, loadRow, partA, partOk, fieldAddrA, indexAddrA, indexA, fieldA, extractA, lenA, nilCheckA, boxA, boxZ, cellA, cellsA, fillA, okParts, buildSliceA, buildMutA, makeSliceA, partIdx, elemsA, lensA, ifaceA, convA, mmA, pickA, okAll, stAll, opsA, partsA, partsOk, opA, allocA, boxMutA, newCells, okCells, storeObj, appendA, guardV, taA, nM, mapUpA, lookA, sliceA, sliceS, boundsA, opO, okO, copyA, dstOk, nilA, quietOk, nilSliceOp, deferV, panA, resA, argFr, retA.eq_1, retA.eq_2, Nat.reduceAdd, Nat.reduceSub, Nat.reduceMul, Nat.reduceLT, Nat.reduceLeDiff, Nat.reduceEqDiff, Nat.reduceBEq, Int.reduceAdd, Int.reduceSub, Int.reduceMul, Int.reduceNeg, Int.reduceLE, Int.reduceLT, Int.reduceEq, Int.reduceNe, Int.reduceToNat, ↓reduceIte, reduceCtorEq, implies_true, forall_const, eq_self, ne_eq, wtAll, Tryd.ntmps25, Tryd.results25, hids, hh_i9, h1, h2, h3', h4, hh_i11]) ?_))
    · rintro ⟨⟩ _ lid did lo h1 h2 h3'
      simp only [Hp.set_none] at h1 h2
      have h4 : ¬ did = lid := fun e => h3' e.symm
      skip
      have el : (bitsA (tdA s u q)).length = (bitsL (tdA s u q)).length := by simp [bitsA]
      rw [el, hbe]
      simp only [vsAll, binA, binLitA, intA, loadA, loadRow, partA, partOk, okAll, stAll, opsA, opA, dstOk, Nat.reduceLT, Nat.reduceEqDiff, ↓reduceIte, eq_self, wtAll, h1, h2]
      refine want_call (fun hc => ?_) (fun hc => ?_)
      · have hbn : ¬ b < 0 := by have := of_decide_eq_true hc; ((try clear hids); (try clear hh_i9); (try clear h1); (try clear h2); (try clear h3'); (try clear h4); omega)
        rw [if_neg hbn] at e ev
        simp only [vsAll, loadA, loadRow, partA, partOk, cellA, cellsA, opA, newCells, okCells, storeObj, dstOk, nilSliceOp, resA, retA.eq_2, Nat.reduceLT, Nat.reduceEqDiff, ↓reduceIte, eq_self, wtAll, Tryd.results25, hids, hh_i9, h1, h2, h4]
        refine ⟨i7, _, rfl, by simp only [↓reduceIte, eq_self, h2]; try rfl, ?_⟩
        refine dropR_pure ?_ (by (repeat (first | exact HSub_rfl | refine HSub_put_eq (by simp only [vsAll, binA, binLitA, intA, aggA, aggV, boolA, nilA2, isConst, unA, loadA, loadRow, partA, partOk, fieldAddrA, indexAddrA, indexA, fieldA, extractA, lenA, nilCheckA, boxA, boxZ, cellA, cellsA, fillA, okParts, buildSliceA, buildMutA, makeSliceA, partIdx, elemsA, lensA, ifaceA, convA, mmA, pickA, okAll, stAll, opsA, partsA, partsOk, opA, allocA, boxMutA, newCells, okCells, storeObj, appendA, guardV, taA, nM, mapUpA, lookA, sliceA, sliceS, boundsA, opO, okO, copyA, dstOk, nilA, quietOk, nilSliceOp, deferV, panA, resA, argFr, retA.eq_1, retA.eq_2, Nat.reduceAdd, Nat.reduceSub, Nat.reduceMul, Nat.reduceLT, Nat.reduceLeDiff, Nat.reduceEqDiff, Nat.reduceBEq, Int.reduceAdd, Int.reduceSub, Int.reduceMul, Int.reduceNeg, Int.reduceLE, Int.reduceLT, Int.reduceEq, Int.reduceNe, Int.reduceToNat, ↓reduceIte, reduceCtorEq, implies_true, forall_const, eq_self, ne_eq, wtAll, Tryd.ntmps25, Tryd.results25, hids, hh_i9, h1, h2, h3', h4]) ?_ | refine HSub_drop2 (by simp only [eq_self, hids, hh_i9, h1, h2]) ?_ | refine HSub_keep_eq (by simp only [vsAll, binA, binLitA, intA, aggA, aggV, boolA, nilA2, isConst, unA, loadA, loadRow, partA, partOk, fieldAddrA, indexAddrA, indexA, fieldA, extractA, lenA, nilCheckA, boxA, boxZ, cellA, cellsA, fillA, okParts, buildSliceA, buildMutA, makeSliceA, partIdx, elemsA, lensA, ifaceA, convA, mmA, pickA, okAll, stAll, opsA, partsA, partsOk, opA, allocA, boxMutA, newCells, okCells, storeObj, appendA, guardV, taA, nM, mapUpA, lookA, sliceA, sliceS, boundsA, opO, okO, copyA, dstOk, nilA, quietOk, nilSliceOp, deferV, panA, resA, argFr, retA.eq_1, retA.eq_2, Nat.reduceAdd, Nat.reduceSub, Nat.reduceMul, Nat.reduceLT, Nat.reduceLeDiff, Nat.reduceEqDiff, Nat.reduceBEq, Int.reduceAdd, Int.reduceSub, Int.reduceMul, Int.reduceNeg, Int.reduceLE, Int.reduceLT, Int.reduceEq, Int.reduceNe, Int.reduceToNat, ↓reduceIte, reduceCtorEq, implies_true, forall_const, eq_self, ne_eq, wtAll, Tryd.ntmps25, Tryd.results25, hids, hh_i9, h1, h2, h3', h4]) ?_)))
        simp only [eq_self, ev, e]
      · have hbn : b < 0 := by have := of_decide_eq_false hc; ((try clear hids); (try clear hh_i9); (try clear h1); (try clear h2); (try clear h3'); (try clear h4); omega)
        rw [if_pos hbn] at e ev
        simp only [vsAll, loadA, loadRow, partA, partOk, resA, retA.eq_2, Nat.reduceEqDiff, ↓reduceIte, eq_self, wtAll, Tryd.results25, hids, hh_i9, h1, h2, h4]
        refine ⟨4, i7, _, rfl, rfl, by simp only [↓reduceIte, eq_self, hids, hh_i9, h1, h2]; try rfl, ?_⟩
        simp only [vsAll, Nat.reduceLT, ↓reduceIte, eq_self]
        refine dropR_pure ?_ (by (repeat (first | exact HSub_rfl | refine HSub_put_eq (by simp only [vsAll, binA, binLitA, intA, aggA, aggV, boolA, nilA2, isConst, unA, loadA, loadRow, partA, partOk, fieldAddrA, indexAddrA, indexA, fieldA, extractA, lenA, nilCheckA, boxA, boxZ, cellA, cellsA, fillA, okParts, buildSliceA, buildMutA, makeSliceA, partIdx, elemsA, lensA, ifaceA, convA, mmA, pickA, okAll, stAll, opsA, partsA, partsOk, opA, allocA, boxMutA, newCells, okCells, storeObj, appendA, guardV, taA, nM, mapUpA, lookA, sliceA, sliceS, boundsA, opO, okO, copyA, dstOk, nilA, quietOk, nilSliceOp, deferV, panA, resA, argFr, retA.eq_1, retA.eq_2, Nat.reduceAdd, Nat.reduceSub, Nat.reduceMul, Nat.reduceLT, Nat.reduceLeDiff, Nat.reduceEqDiff, Nat.reduceBEq, Int.reduceAdd, Int.reduceSub, Int.reduceMul, Int.reduceNeg, Int.reduceLE, Int.reduceLT, Int.reduceEq, Int.reduceNe, Int.reduceToNat, ↓reduceIte, reduceCtorEq, implies_true, forall_const, eq_self, ne_eq, wtAll, Tryd.ntmps25, Tryd.results25, hids, hh_i9, h1, h2, h3', h4]) ?_ | refine HSub_drop2 (by simp only [eq_self, hids, hh_i9, h1, h2]) ?_ | refine HSub_keep_eq (by simp only [vsAll, binA, binLitA, intA, aggA, aggV, boolA, nilA2, isConst, unA, loadA, loadRow, partA, partOk, fieldAddrA, indexAddrA, indexA, fieldA, extractA, lenA, nilCheckA, boxA, boxZ, cellA, cellsA, fillA, okParts, buildSliceA, buildMutA, makeSliceA, partIdx, elemsA, lensA, ifaceA, convA, mmA, pickA, okAll, stAll, opsA, partsA, partsOk, opA, allocA, boxMutA, newCells, okCells, storeObj, appendA, guardV, taA, nM, mapUpA, lookA, sliceA, sliceS, boundsA, opO, okO, copyA, dstOk, nilA, quietOk, nilSliceOp, deferV, panA, resA, argFr, retA.eq_1, retA.eq_2, Nat.reduceAdd, Nat.reduceSub, Nat.reduceMul, Nat.reduceLT, Nat.reduceLeDiff, Nat.reduceEqDiff, Nat.reduceBEq, Int.reduceAdd, Int.reduceSub, Int.reduceMul, Int.reduceNeg, Int.reduceLE, Int.reduceLT, Int.reduceEq, Int.reduceNe, Int.reduceToNat, ↓reduceIte, reduceCtorEq, implies_true, forall_const, eq_self, ne_eq, wtAll, Tryd.ntmps25, Tryd.results25, hids, hh_i9, h1, h2, h3', h4]) ?_)))
        simp only [eq_self, ev, e]
end Go.Proofs.YtnmgegodkmgdeaaDoor
end
