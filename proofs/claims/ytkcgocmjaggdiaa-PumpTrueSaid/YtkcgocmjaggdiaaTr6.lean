/- WHAT IS PROVED: the given statement of this claim. Conditions: none beyond the given row. -/
import Derived.Test.YtkcgocmjaggdiaaTr5
section
set_option linter.unusedVariables false
set_option linter.unusedSimpArgs false
set_option maxHeartbeats 4000000
set_option maxRecDepth 100000
namespace Go.Proofs.Ytkcgocmjaggdiaa
open Go.V Wl
theorem fine_tri (p : Pu) (H : Hp) : PTri Try.prog (fnA 24) [p.av] H (boo (!farB p 0 && decide (Ok p))) := by
  refine tri_v0 (fun _ => false) Try.func24 (by kernel_rfl) rfl (by simp only [List.length_append, List.length_cons, List.length_nil, Try.ntmps24]; decide) ?_
  simp only [vsAll, loadA, loadRow, partA, partOk, boxA, boxZ, okAll, stAll, opsA, opA, dstOk, nilSliceOp, argFr, Nat.reduceAdd, Nat.reduceLT, Nat.reduceEqDiff, ↓reduceIte, eq_self, wtAll, Try.ntmps24]
  refine callK_pure (far0_tri p _) ?_
  simp only [vsAll, unA, loadA, loadRow, partA, partOk, opA, guardV, dstOk, Nat.reduceLT, Nat.reduceEqDiff, ↓reduceIte, implies_true, eq_self, wtAll]
  refine gcall (boo (decide (Ok p))) (fun g => ⟨by simp only [vsAll, opA], by simp only [vsAll, okAll, opsA, opA, ↓reduceIte, eq_self, g], rpump_tri p _ (far_near (by simpa using g)).1⟩) ?_
  simp only [vsAll, pickA, opA, dstOk, nilSliceOp, resA, retA.eq_1, Nat.reduceLT, Nat.reduceEqDiff, ↓reduceIte, implies_true, eq_self, Try.results24]
theorem fine_ok {p : Pu} (h : (!farB p 0 && decide (Ok p)) = true) : Ok p ∧ Near p := by
  rw [Bool.and_eq_true, decide_eq_true_eq] at h
  exact ⟨h.2, h.2.near⟩
def madeR (p : Pu) (H : Hp) : Res → Hp → Prop := fun r H' => H' = H ∧ ∃ l, planB p l = true ∧ r = .ret (intsAV l)
theorem made_tri (p : Pu) (N : Nat) (b : Nat → Int) (H : Hp) (k : Ok p) (hN : N < 2 ^ 63) (hb : ∀ i, i < N → 0 ≤ b i ∧ b i ≤ 255) : Tri Try.prog (fnA 25) [p.av, .rsl N 1 (byF b)] H (madeR p H) := by
  have nF := k.nF
  have nW := k.nW
  refine tri_vs (m := mset [5]) Try.func25 (by kernel_rfl) rfl (by simp only [List.length_append, List.length_cons, List.length_nil, Try.ntmps25]; decide) ?_
  simp only [vsAll, loadA, loadRow, partA, partOk, fieldAddrA, lenA, boxA, boxZ, opA, dstOk, nilA, nilSliceOp, argFr, Nat.reduceAdd, Nat.reduceLT, Nat.reduceEqDiff, Nat.reduceBEq, Int.reduceNeg, ↓reduceIte, eq_self, wtAll, Try.ntmps25]
  intro il hh_il; (try simp only [Hp.set_none, ite_none] at hh_il)
  refine vs_loop (σ := Nat × List Int) (fun y => y.1 ≤ p.fl.length ∧ y.2.length = y.1 ∧ ∀ w ∈ y.2, -1 ≤ w ∧ w < p.ws.length) (fun y => [(1, .rsl N 1 (byF b)), (2, pptr p), (5, .sl il 1 y.1), (10, i64 p.fl.length), (11, i64 y.1)])
    (fun y => H.set il (.row 1 y.1 (intF y.2))) (fun y => p.fl.length - y.1) (0, []) ⟨Nat.zero_le _, rfl, fun x hx => by cases hx⟩ ?_ ?_ fun y hy => ?_
  · simp only [vsAll, argFr, Nat.reduceEqDiff, ↓reduceIte, eq_self, Int.natCast_zero]
  · exact HSub.set HSub_rfl (row_ext fun q hq => absurd hq (Nat.not_lt_zero q))
  · obtain ⟨i, l⟩ := y
    obtain ⟨hi, hll, hl⟩ := hy
    simp only [] at hi hll hl
    have happ : ∀ w : Int, appF i 1 (intF l) (fun q => [[i64 w]].getD q []) = intF (l ++ [w]) := fun w => app_ints' hll w _ rfl
    simp only [vsAll, binA, binLitA, intA, opA, dstOk, Nat.reduceLT, Nat.reduceEqDiff, Int.reduceNeg, ↓reduceIte, eq_self]
    refine condD (fun hd => ?_) (fun hd => ?_)
    · have his : i < p.fl.length := by ((try clear hh_il); omega)
      simp only [vsAll, binA, binLitA, intA, lenA, opA, dstOk, nilSliceOp, Nat.reduceLT, Nat.reduceEqDiff, Nat.reduceBEq, Int.reduceNeg, ↓reduceIte, eq_self, wtAll]
      refine condV (fun hc2 => ?_) (fun hc2 => ?_)
      · have hN0 : 0 < N := by
          have := of_decide_eq_true hc2
          ((try clear hh_il); omega)
        refine vs_draw2 [0, 0, 0, 0, 0, 0, 0, 0, 0, 0, 0, 0, 0, 0, 0] [] [0, 1, 2, 3, 4, 5, 6, 7, 8, 9, 10, 11, 12, 13, 14] (by decide +kernel) ?_
        simp only [vsAll, binA, binLitA, intA, loadA, loadRow, partA, partOk, fieldAddrA, indexAddrA, lenA, cellA, cellsA, okParts, buildSliceA, partIdx, elemsA, lensA, convA, partsA, partsOk, opA, appendA, dstOk, nilSliceOp, Nat.reduceMul, Nat.reduceLT, Nat.reduceLeDiff, Nat.reduceEqDiff, Nat.reduceBEq, Int.reduceNeg, ↓reduceIte, eq_self, ne_eq, wtAll, byF_at]
        have hm0 : 0 ≤ (i : Int).tmod N := Int.tmod_nonneg _ (by ((try clear hh_il); omega))
        have hm1 : (i : Int).tmod N < N := Int.tmod_lt_of_pos _ (by ((try clear hh_il); omega))
        generalize (i : Int).tmod N = r at hm0 hm1 ⊢
        have hbr := hb r.toNat (by ((try clear hh_il); omega))
        generalize b r.toNat = br at hbr ⊢
        have hq0 : 0 ≤ br.tmod ((p.ws.length : Int) + 1) := Int.tmod_nonneg _ (by ((try clear hh_il); omega))
        have hq1 : br.tmod ((p.ws.length : Int) + 1) < (p.ws.length : Int) + 1 := Int.tmod_lt_of_pos _ (by ((try clear hh_il); omega))
        generalize br.tmod ((p.ws.length : Int) + 1) = q at hq0 hq1 ⊢
        refine ⟨by ((try clear hh_il); omega), ⟨hm0, hm1⟩, by ((try clear hh_il); omega), by simp only [InR_i64]; ((try clear hh_il); omega), by simp only [InR_i64]; ((try clear hh_il); omega), by ((try clear hh_il); omega), by simp only [InR_i64]; ((try clear hh_il); omega), fun q hq => by (have : q = 0 := by ((try clear hh_il); omega)); subst this; exact ⟨rfl, trivial⟩, by ((try clear hh_il); omega), by ((try clear hh_il); omega), by simp only [InR_i64]; ((try clear hh_il); omega), loop_next (i + 1, l ++ [q - 1]) ⟨by simp only []; ((try clear hh_il); omega), by simp [hll], fun w hw => ?_⟩ (by simp only []; ((try clear hh_il); omega)) ?_ ?_⟩
        · rcases List.mem_append.1 hw with h | h
          · exact hl w h
          · rw [List.mem_singleton] at h
            subst h
            ((try clear hh_il); omega)
        · simp only [vsAll, Nat.reduceEqDiff, Int.reduceNeg, ↓reduceIte, eq_self, Int.natCast_add, Int.natCast_one]
        · rw [happ]
          (repeat (first | exact HSub_rfl | refine HSub_put_eq (by simp only [vsAll, ↓reduceIte, eq_self]) ?_ | refine HSub_drop2 (by simp only [eq_self, hh_il]) ?_ | refine HSub_keep_eq (by simp only [vsAll, binA, binLitA, intA, aggA, aggV, boolA, nilA2, isConst, unA, loadA, loadRow, partA, partOk, fieldAddrA, indexAddrA, indexA, fieldA, extractA, lenA, nilCheckA, boxA, boxZ, cellA, cellsA, fillA, okParts, buildSliceA, buildMutA, makeSliceA, partIdx, elemsA, lensA, ifaceA, convA, mmA, pickA, okAll, stAll, opsA, partsA, partsOk, opA, allocA, boxMutA, newCells, okCells, storeObj, appendA, guardV, taA, nM, mapUpA, lookA, sliceA, sliceS, boundsA, opO, okO, copyA, dstOk, nilA, quietOk, nilSliceOp, deferV, panA, resA, argFr, retA.eq_1, retA.eq_2, Nat.reduceAdd, Nat.reduceSub, Nat.reduceMul, Nat.reduceLT, Nat.reduceLeDiff, Nat.reduceEqDiff, Nat.reduceBEq, Int.reduceAdd, Int.reduceSub, Int.reduceMul, Int.reduceNeg, Int.reduceLE, Int.reduceLT, Int.reduceEq, Int.reduceNe, Int.reduceToNat, ↓reduceIte, reduceCtorEq, implies_true, forall_const, eq_self, ne_eq, wtAll, Try.ntmps25, Try.results25, hh_il]) ?_))
      · simp only [vsAll, binA, binLitA, intA, cellA, cellsA, okParts, buildSliceA, partIdx, elemsA, lensA, partsA, partsOk, opA, appendA, dstOk, nilSliceOp, Nat.reduceMul, Nat.reduceLT, Nat.reduceLeDiff, Nat.reduceEqDiff, Nat.reduceBEq, Int.reduceNeg, ↓reduceIte, eq_self, wtAll]
        refine ⟨fun q hq => by (have : q = 0 := by ((try clear hh_il); omega)); subst this; exact ⟨rfl, trivial⟩, by ((try clear hh_il); omega), by ((try clear hh_il); omega), by simp only [InR_i64]; ((try clear hh_il); omega), loop_next (i + 1, l ++ [-1]) ⟨by simp only []; ((try clear hh_il); omega), by simp [hll], fun w hw => ?_⟩ (by simp only []; ((try clear hh_il); omega)) ?_ ?_⟩
        · rcases List.mem_append.1 hw with h | h
          · exact hl w h
          · rw [List.mem_singleton] at h
            subst h
            ((try clear hh_il); omega)
        · simp only [vsAll, Nat.reduceEqDiff, Int.reduceNeg, ↓reduceIte, eq_self, Int.natCast_add, Int.natCast_one]
        · rw [happ]
          (repeat (first | exact HSub_rfl | refine HSub_put_eq (by simp only [vsAll, Int.reduceNeg, ↓reduceIte, eq_self]) ?_ | refine HSub_drop2 (by simp only [eq_self, hh_il]) ?_ | refine HSub_keep_eq (by simp only [vsAll, binA, binLitA, intA, aggA, aggV, boolA, nilA2, isConst, unA, loadA, loadRow, partA, partOk, fieldAddrA, indexAddrA, indexA, fieldA, extractA, lenA, nilCheckA, boxA, boxZ, cellA, cellsA, fillA, okParts, buildSliceA, buildMutA, makeSliceA, partIdx, elemsA, lensA, ifaceA, convA, mmA, pickA, okAll, stAll, opsA, partsA, partsOk, opA, allocA, boxMutA, newCells, okCells, storeObj, appendA, guardV, taA, nM, mapUpA, lookA, sliceA, sliceS, boundsA, opO, okO, copyA, dstOk, nilA, quietOk, nilSliceOp, deferV, panA, resA, argFr, retA.eq_1, retA.eq_2, Nat.reduceAdd, Nat.reduceSub, Nat.reduceMul, Nat.reduceLT, Nat.reduceLeDiff, Nat.reduceEqDiff, Nat.reduceBEq, Int.reduceAdd, Int.reduceSub, Int.reduceMul, Int.reduceNeg, Int.reduceLE, Int.reduceLT, Int.reduceEq, Int.reduceNe, Int.reduceToNat, ↓reduceIte, reduceCtorEq, implies_true, forall_const, eq_self, ne_eq, wtAll, Try.ntmps25, Try.results25, hh_il]) ?_))
    · have ei : i = p.fl.length := by ((try clear hh_il); omega)
      subst ei
      simp only [vsAll, opA, dstOk, nilSliceOp, Nat.reduceLT, Nat.reduceEqDiff, Nat.reduceBEq, Int.reduceNeg, ↓reduceIte, eq_self]
      rw [← hll]
      refine ret_freeze (by rw [Try.results25]) rfl (Hp.set_same _ _ _) ?_
      rw [set_del hh_il]
      exact ⟨H, HSub_rfl, rfl, l, plan_okw.2 ⟨hll, hl⟩, rfl⟩
theorem updF_same {n i : Nat} (hi : i < n) (f : Nat → List AV) (c : List AV) : updF n i f c i = c := by rw [updF_at hi hi, if_pos rfl]
def wnF (p : Pu) (l : List Int) (i q : Nat) : Nat → List AV := fun w => [i64 ((doneW (p.wt w).re l w (if w < q then i + 1 else i)).1 : Nat)]
def idF (p : Pu) (l : List Int) (i q : Nat) : Nat → List AV := fun w => [i64 ((doneW (p.wt w).re l w (if w < q then i + 1 else i)).2 : Nat)]
theorem wn_at (p : Pu) (l : List Int) (i q w : Nat) : wnF p l i q w = [i64 ((doneW (p.wt w).re l w (if w < q then i + 1 else i)).1 : Nat)] := rfl
theorem id_at (p : Pu) (l : List Int) (i q w : Nat) : idF p l i q w = [i64 ((doneW (p.wt w).re l w (if w < q then i + 1 else i)).2 : Nat)] := rfl
structure TruI (p : Pu) (H : Hp) (ids : Nat × Nat × Nat) : Prop where
  a : H ids.1 = none
  b : H ids.2.1 = none
  c : H ids.2.2 = none
  ab : ¬ ids.1 = ids.2.1
  ac : ¬ ids.1 = ids.2.2
  bc : ¬ ids.2.1 = ids.2.2
theorem trS_nn (p : Pu) (l : List Int) (st : Nat → Int) (i : Nat) : 0 ≤ trS p l st i := by unfold trS; split <;> omega
theorem tr_bound (p : Pu) (l : List Int) (w : Int) (f st : Nat → Int) {n : Nat} (hw : 0 ≤ w ∧ w ≤ 100) (hf : ∀ i, i < n → 0 ≤ f i ∧ f i ≤ 40) : ∀ i, i ≤ n → 0 ≤ trV p l w f st i ∧ trV p l w f st i ≤ 100 + 40 * i := by
  intro i
  induction i with
  | zero => intro _; simp only [trV]; omega
  | succ i ih =>
    intro hi
    have h1 := ih (by omega)
    have h2 := hf i (by omega)
    have h3 := trS_nn p l st i
    simp only [trV]
    omega
theorem done_row (re : Int) (l : List Int) (w i : Nat) (x : Int) (hx : l.getD i (-1) = x) : doneW re l w (i + 1) = stepW re (decide (x = (w : Int))) (doneW re l w i) := by
  rw [doneW, hx]
theorem truly_tri (p : Pu) (l : List Int) (w : Int) (f st : List Int) (H : Hp) (k : Ok p) (hl : planB p l = true) (hw : 0 ≤ w ∧ w ≤ 100) (hfl : f.length = p.fl.length) (hf : ∀ i, i < f.length → 0 ≤ f.getD i 0 ∧ f.getD i 0 ≤ 40) (hsl : st.length = p.ws.length) (hs : ∀ i, i < st.length → 0 ≤ st.getD i 0 ∧ st.getD i 0 ≤ 40) :
    PTri Try.prog (fnA 29) [p.av, intsAV l, i64 w, intsAV f, intsAV st] H (intsAV (truL p l w (fun i => f.getD i 0) (fun i => st.getD i 0) l.length)) := by
  refine Tri.thawD (R1 := fun r H' => ∃ id, H id = none ∧ r = .ret (.sl id 1 l.length) ∧ H' = H.set id (.row 1 l.length (intF (truL p l w (fun i => f.getD i 0) (fun i => st.getD i 0) l.length)))) ?_ ?_
  case refine_2 =>
    rintro r H' ⟨id, hid, rfl, rfl⟩
    right
    refine ⟨_, _, id, 1, l.length, _, rfl, Hp.set_same _ _ _, .hit fun _ _ => rfl, ?_, set_del hid⟩
    rw [intsAV, tru_len]
  have nF := k.nF
  have nW := k.nW
  obtain ⟨ell, hlr⟩ := plan_rng hl
  refine Tri.drop ?_
  refine tri_w0 Try.func29 (by kernel_rfl) rfl (by simp only [List.length_append, List.length_cons, List.length_nil, Try.ntmps29]; decide) ?_
  refine wps_cutG2 (m := mset [20, 24]) (σ := Nat × Nat) (fun y => H y.1 = none ∧ H y.2 = none ∧ ¬ y.1 = y.2)
    (fun y => [(1, intsAV l), (2, i64 w), (3, intsAV f), (4, intsAV st), (5, pptr p), (11, .sl y.1 1 p.ws.length), (12, .sl y.2 1 p.ws.length)])
    (fun y => (H.set y.1 (.row 1 p.ws.length (wnF p l 0 0))).set y.2 (.row 1 p.ws.length (idF p l 0 0))) (fun _ => []) ?_ fun y hy => ?_
  · have e1 : (fun _ => [i64 0]) = wnF p l 0 0 := by funext q; simp [wnF, doneW]
    have e2 : (fun _ => [i64 0]) = idF p l 0 0 := by funext q; simp [idF, doneW]
    simp only [vsAll, boxA, boxZ, opA, dstOk, nilSliceOp, argFr, Nat.reduceAdd, Nat.reduceLT, Nat.reduceBEq, eq_self, wtAll, Try.ntmps29]
    refine vs_draw3 [3, 7] [([0, 0, 0, 1, 0, 0, 0, 3, 2, 4], [([0, 1, 2, 4, 5, 6], [5], 3), ([8], [], 7)], [9]), ([0, 0, 0, 3, 0, 0, 0, 1, 4, 4], [([0, 1, 2, 4, 5, 6], [1], 7), ([], [], 3)], [8, 9])] (by decide +kernel) fun pn hpn => ?_
    simp only [List.mem_cons, List.not_mem_nil, or_false] at hpn
    rcases hpn with rfl | rfl
    · simp only [vsAll, loadA, loadRow, partA, partOk, fieldAddrA, lenA, makeSliceA, opA, dstOk, Nat.reduceLT, Nat.reduceEqDiff, Nat.reduceBEq, ↓reduceIte, eq_self, wtAll]
      refine ⟨by omega, by omega, by omega, ?_⟩
      intro ia hh_ia; (try simp only [Hp.set_none, ite_none] at hh_ia)
      refine ⟨by ((try clear hh_ia); omega), by ((try clear hh_ia); omega), by ((try clear hh_ia); omega), ?_⟩
      intro ib hh_ib; (try simp only [ite_none] at hh_ib)
      have q1 : H ib = none ∧ ¬ ib = ia := by simp_all
      refine cutG_of (ia, ib) ⟨hh_ia, q1.1, fun e => q1.2 e.symm⟩ (by simp only [vsAll, argFr, Nat.reduceEqDiff, ↓reduceIte, eq_self]) rfl ?_
      simp only []
      rw [← e1, ← e2]
      (repeat (first | exact HSub_rfl | refine HSub_put_eq (by simp only [vsAll, binA, binLitA, intA, aggA, aggV, boolA, nilA2, isConst, unA, loadA, loadRow, partA, partOk, fieldAddrA, indexAddrA, indexA, fieldA, extractA, lenA, nilCheckA, boxA, boxZ, cellA, cellsA, fillA, okParts, buildSliceA, buildMutA, makeSliceA, partIdx, elemsA, lensA, ifaceA, convA, mmA, pickA, okAll, stAll, opsA, partsA, partsOk, opA, allocA, boxMutA, newCells, okCells, storeObj, appendA, guardV, taA, nM, mapUpA, lookA, sliceA, sliceS, boundsA, opO, okO, copyA, dstOk, nilA, quietOk, nilSliceOp, deferV, panA, resA, argFr, retA.eq_1, retA.eq_2, Nat.reduceAdd, Nat.reduceSub, Nat.reduceMul, Nat.reduceLT, Nat.reduceLeDiff, Nat.reduceEqDiff, Nat.reduceBEq, Int.reduceAdd, Int.reduceSub, Int.reduceMul, Int.reduceNeg, Int.reduceLE, Int.reduceLT, Int.reduceEq, Int.reduceNe, Int.reduceToNat, ↓reduceIte, reduceCtorEq, implies_true, forall_const, eq_self, ne_eq, wtAll, Try.ntmps29, Try.results29, hh_ia, hh_ib]) ?_ | refine HSub_drop2 (by simp only [vsAll, binA, binLitA, intA, aggA, aggV, boolA, nilA2, isConst, unA, loadA, loadRow, partA, partOk, fieldAddrA, indexAddrA, indexA, fieldA, extractA, lenA, nilCheckA, boxA, boxZ, cellA, cellsA, fillA, okParts, buildSliceA, buildMutA, makeSliceA, partIdx, elemsA, lensA, ifaceA, convA, mmA, pickA, okAll, stAll, opsA, partsA, partsOk, opA, allocA, boxMutA, newCells, okCells, storeObj, appendA, guardV, taA, nM, mapUpA, lookA, sliceA, sliceS, boundsA, opO, okO, copyA, dstOk, nilA, quietOk, nilSliceOp, deferV, panA, resA, argFr, retA.eq_1, retA.eq_2, Nat.reduceAdd, Nat.reduceSub, Nat.reduceMul, Nat.reduceLT, Nat.reduceLeDiff, Nat.reduceEqDiff, Nat.reduceBEq, Int.reduceAdd, Int.reduceSub, Int.reduceMul, Int.reduceNeg, Int.reduceLE, Int.reduceLT, Int.reduceEq, Int.reduceNe, Int.reduceToNat, ↓reduceIte, reduceCtorEq, implies_true, forall_const, eq_self, ne_eq, wtAll, Try.ntmps29, Try.results29, hh_ia, hh_ib]) ?_ | refine HSub_keep_eq (by simp only [vsAll, binA, binLitA, intA, aggA, aggV, boolA, nilA2, isConst, unA, loadA, loadRow, partA, partOk, fieldAddrA, indexAddrA, indexA, fieldA, extractA, lenA, nilCheckA, boxA, boxZ, cellA, cellsA, fillA, okParts, buildSliceA, buildMutA, makeSliceA, partIdx, elemsA, lensA, ifaceA, convA, mmA, pickA, okAll, stAll, opsA, partsA, partsOk, opA, allocA, boxMutA, newCells, okCells, storeObj, appendA, guardV, taA, nM, mapUpA, lookA, sliceA, sliceS, boundsA, opO, okO, copyA, dstOk, nilA, quietOk, nilSliceOp, deferV, panA, resA, argFr, retA.eq_1, retA.eq_2, Nat.reduceAdd, Nat.reduceSub, Nat.reduceMul, Nat.reduceLT, Nat.reduceLeDiff, Nat.reduceEqDiff, Nat.reduceBEq, Int.reduceAdd, Int.reduceSub, Int.reduceMul, Int.reduceNeg, Int.reduceLE, Int.reduceLT, Int.reduceEq, Int.reduceNe, Int.reduceToNat, ↓reduceIte, reduceCtorEq, implies_true, forall_const, eq_self, ne_eq, wtAll, Try.ntmps29, Try.results29, hh_ia, hh_ib]) ?_))
    · simp only [vsAll, loadA, loadRow, partA, partOk, fieldAddrA, lenA, makeSliceA, opA, dstOk, Nat.reduceLT, Nat.reduceEqDiff, Nat.reduceBEq, ↓reduceIte, eq_self, wtAll]
      refine ⟨by omega, by omega, by omega, ?_⟩
      intro ib hh_ib; (try simp only [Hp.set_none, ite_none] at hh_ib)
      refine ⟨by ((try clear hh_ib); omega), by ((try clear hh_ib); omega), by ((try clear hh_ib); omega), ?_⟩
      intro ia hh_ia; (try simp only [ite_none] at hh_ia)
      have q1 : H ia = none ∧ ¬ ia = ib := by simp_all
      refine cutG_of (ia, ib) ⟨q1.1, hh_ib, q1.2⟩ (by simp only [vsAll, argFr, Nat.reduceEqDiff, ↓reduceIte, eq_self]) rfl ?_
      simp only []
      rw [← e1, ← e2]
      (repeat (first | exact HSub_rfl | refine HSub_put_eq (by simp only [vsAll, ↓reduceIte, eq_self, hh_ia]) ?_ | refine HSub_drop2 (by simp only [eq_self, hh_ib, hh_ia]) ?_ | refine HSub_keep_eq (by simp only [vsAll, binA, binLitA, intA, aggA, aggV, boolA, nilA2, isConst, unA, loadA, loadRow, partA, partOk, fieldAddrA, indexAddrA, indexA, fieldA, extractA, lenA, nilCheckA, boxA, boxZ, cellA, cellsA, fillA, okParts, buildSliceA, buildMutA, makeSliceA, partIdx, elemsA, lensA, ifaceA, convA, mmA, pickA, okAll, stAll, opsA, partsA, partsOk, opA, allocA, boxMutA, newCells, okCells, storeObj, appendA, guardV, taA, nM, mapUpA, lookA, sliceA, sliceS, boundsA, opO, okO, copyA, dstOk, nilA, quietOk, nilSliceOp, deferV, panA, resA, argFr, retA.eq_1, retA.eq_2, Nat.reduceAdd, Nat.reduceSub, Nat.reduceMul, Nat.reduceLT, Nat.reduceLeDiff, Nat.reduceEqDiff, Nat.reduceBEq, Int.reduceAdd, Int.reduceSub, Int.reduceMul, Int.reduceNeg, Int.reduceLE, Int.reduceLT, Int.reduceEq, Int.reduceNe, Int.reduceToNat, ↓reduceIte, reduceCtorEq, implies_true, forall_const, eq_self, ne_eq, wtAll, Try.ntmps29, Try.results29, hh_ib, hh_ia]) ?_))
  · obtain ⟨ia, ib⟩ := y
    obtain ⟨hia, hib, hab⟩ := hy
    simp only [] at hia hib hab
    have hba : ¬ ib = ia := fun e => hab e.symm
    skip
    refine wps_vs (m := mset [13]) ?_
    simp only [vsAll, lenA, opA, dstOk, nilA, Nat.reduceLT, Nat.reduceEqDiff, Nat.reduceBEq, ↓reduceIte, eq_self, wtAll, Try.ntmps29]
    intro ic hh_ic; (try simp only [ite_none] at hh_ic)
    refine vs_loop (σ := Nat) (fun i => i ≤ l.length)
      (fun i => [(2, i64 (trV p l w (fun i => f.getD i 0) (fun i => st.getD i 0) i)), (3, intsAV f), (4, intsAV st), (5, pptr p), (11, .sl ia 1 p.ws.length), (12, .sl ib 1 p.ws.length), (13, .sl ic 1 i), (25, intsAV l), (26, i64 l.length), (27, i64 i)])
      (fun i => ((H.set ia (.row 1 p.ws.length (wnF p l i 0))).set ib (.row 1 p.ws.length (idF p l i 0))).set ic (.row 1 i (intF (truL p l w (fun i => f.getD i 0) (fun i => st.getD i 0) i))))
      (fun i => l.length - i) 0 (Nat.zero_le _) ?_ ?_ fun i hi => ?_
    · simp only [vsAll, Nat.reduceEqDiff, ↓reduceIte, eq_self, Int.natCast_zero, trV]
    · exact HSub.set HSub_rfl (row_ext fun q hq => absurd hq (Nat.not_lt_zero q))
    · generalize hT : trV p l w (fun i => f.getD i 0) (fun i => st.getD i 0) = T
      have hTn : T (i + 1) = max 0 (T i + f.getD i 0 - trS p l (fun i => st.getD i 0) i) := by rw [← hT]; rfl
      have hLn : truL p l w (fun i => f.getD i 0) (fun i => st.getD i 0) (i + 1) = truL p l w (fun i => f.getD i 0) (fun i => st.getD i 0) i ++ [T (i + 1)] := by rw [← hT]; exact tru_succ _ _ _ _ _ _
      have hTb := tr_bound p l w (fun i => f.getD i 0) (fun i => st.getD i 0) (n := l.length) hw (fun j hj => hf j (by ((try clear hia); (try clear hib); (try clear hab); (try clear hba); (try clear hh_ic); omega))) i hi
      rw [hT] at hTb
      have hLl := tru_len p l w (fun i => f.getD i 0) (fun i => st.getD i 0) i
      simp only [vsAll, binA, binLitA, intA, opA, dstOk, Nat.reduceLT, Nat.reduceEqDiff, ↓reduceIte, eq_self]
      refine condD (fun hd => ?_) (fun hd => ?_)
      · have his : i < l.length := by ((try clear hia); (try clear hib); (try clear hab); (try clear hba); (try clear hh_ic); omega)
        have hx := hlr i (by ((try clear hia); (try clear hib); (try clear hab); (try clear hba); (try clear hh_ic); omega))
        have e0 : l.getD i 0 = l.getD i (-1) := by simp [List.getD_eq_getElem?_getD, his]
        have hfi := hf i (by ((try clear hia); (try clear hib); (try clear hab); (try clear hba); (try clear hh_ic); omega))
        have eS : trS p l (fun i => st.getD i 0) i = if l.getD i (-1) < 0 then 0 else max 0 (st.getD (l.getD i (-1)).toNat 0 - (p.wt (l.getD i (-1)).toNat).ti * (wornV p l (l.getD i (-1)).toNat i : Nat)) := rfl
        have hdr := fun re (v : Nat) => done_row re l v i (l.getD i (-1)) rfl
        generalize l.getD i (-1) = x at hx e0 eS hdr
        simp only [vsAll, binA, binLitA, intA, loadA, loadRow, partA, partOk, indexAddrA, opA, dstOk, nilSliceOp, Nat.reduceLT, Nat.reduceEqDiff, Nat.reduceBEq, ↓reduceIte, eq_self, wtAll, intF_at, e0]
        refine ⟨⟨by ((try clear hia); (try clear hib); (try clear hab); (try clear hba); (try clear hh_ic); omega), by ((try clear hia); (try clear hib); (try clear hab); (try clear hba); (try clear hh_ic); omega)⟩, his, ⟨by ((try clear hia); (try clear hib); (try clear hab); (try clear hba); (try clear hh_ic); omega), by ((try clear hia); (try clear hib); (try clear hab); (try clear hba); (try clear hh_ic); omega)⟩, by ((try clear hia); (try clear hib); (try clear hab); (try clear hba); (try clear hh_ic); omega), by simp only [InR_i64]; ((try clear hia); (try clear hib); (try clear hab); (try clear hba); (try clear hh_ic); omega), condV (fun hc => ?_) (fun hc => ?_)⟩
        · have hx0 := of_decide_eq_true hc
          obtain ⟨v, rfl⟩ : ∃ v : Nat, x = (v : Int) := ⟨x.toNat, by ((try clear hia); (try clear hib); (try clear hab); (try clear hba); (try clear hh_ic); omega)⟩
          have hv : v < p.ws.length := by ((try clear hia); (try clear hib); (try clear hab); (try clear hba); (try clear hh_ic); omega)
          have hkw := k.m.wt hv
          have hle := (doneW_le (p.wt v).re l v i).1
          have hp := wt_prod (n := (doneW (p.wt v).re l v i).1) hkw.2.1 (by ((try clear hia); (try clear hib); (try clear hab); (try clear hba); (try clear hh_ic); omega))
          have hsv := hs v (by ((try clear hia); (try clear hib); (try clear hab); (try clear hba); (try clear hh_ic); omega))
          have ewt : p.ws.getD v wt0 = p.wt v := rfl
          rw [if_neg (by ((try clear hia); (try clear hib); (try clear hab); (try clear hba); (try clear hh_ic); omega)), Int.toNat_natCast] at eS
          have eS2 : trS p l (fun i => st.getD i 0) i = max 0 (st.getD v 0 - (p.wt v).ti * ((doneW (p.wt v).re l v i).1 : Nat)) := eS
          refine vs_draw2 [0, 0, 0, 0, 0, 0, 0, 0, 0, 0, 0, 0, 0, 0, 0, 0, 0, 0, 0, 1] [([0, 1, 2, 3, 4, 5, 6, 7, 8, 9, 10, 11, 12, 13, 14, 15, 16, 17, 18], [], 19)] [] (by decide +kernel) ?_
          simp only [vsAll, binA, binLitA, intA, loadA, loadRow, partA, partOk, fieldAddrA, indexAddrA, lenA, mmA, okAll, stAll, opsA, opA, dstOk, nilSliceOp, Nat.reduceLT, Nat.reduceEqDiff, Nat.reduceBEq, ↓reduceIte, eq_self, wtAll, hab, hh_ic, intF_at, wsF_at, wn_at, ewt, Nat.not_lt_zero]
          refine ⟨⟨by ((try clear hia); (try clear hib); (try clear hab); (try clear hba); (try clear hh_ic); omega), by ((try clear hia); (try clear hib); (try clear hab); (try clear hba); (try clear hh_ic); omega)⟩, by ((try clear hia); (try clear hib); (try clear hab); (try clear hba); (try clear hh_ic); omega), ⟨by ((try clear hia); (try clear hib); (try clear hab); (try clear hba); (try clear hh_ic); omega), by ((try clear hia); (try clear hib); (try clear hab); (try clear hba); (try clear hh_ic); omega)⟩, hv, ⟨by ((try clear hia); (try clear hib); (try clear hab); (try clear hba); (try clear hh_ic); omega), by ((try clear hia); (try clear hib); (try clear hab); (try clear hba); (try clear hh_ic); omega)⟩, hv, by simp only [InR_i64]; ((try clear hia); (try clear hib); (try clear hab); (try clear hba); (try clear hh_ic); omega), by simp only [InR_i64]; ((try clear hia); (try clear hib); (try clear hab); (try clear hba); (try clear hh_ic); omega), by simp only [InR_i64]; ((try clear hia); (try clear hib); (try clear hab); (try clear hba); (try clear hh_ic); omega), ?_⟩
          rw [← show T i + f.getD i 0 - trS p l (fun i => st.getD i 0) i = T i + f.getD i 0 - max 0 (st.getD v 0 - (p.wt v).ti * ((doneW (p.wt v).re l v i).1 : Nat)) by rw [eS2]]
          generalize hy : T i + f.getD i 0 - trS p l (fun i => st.getD i 0) i = y at hTn ⊢
          try simp only [vsAll, binA, binLitA, intA, aggA, aggV, boolA, nilA2, isConst, unA, loadA, loadRow, partA, partOk, fieldAddrA, indexAddrA, indexA, fieldA, extractA, lenA, nilCheckA, boxA, boxZ, cellA, cellsA, fillA, okParts, buildSliceA, buildMutA, makeSliceA, partIdx, elemsA, lensA, ifaceA, convA, mmA, pickA, okAll, stAll, opsA, partsA, partsOk, opA, allocA, boxMutA, newCells, okCells, storeObj, appendA, guardV, taA, nM, mapUpA, lookA, sliceA, sliceS, boundsA, opO, okO, copyA, dstOk, nilA, quietOk, nilSliceOp, deferV, panA, resA, argFr, retA.eq_1, retA.eq_2, Nat.reduceAdd, Nat.reduceSub, Nat.reduceMul, Nat.reduceLT, Nat.reduceLeDiff, Nat.reduceEqDiff, Nat.reduceBEq, Int.reduceAdd, Int.reduceSub, Int.reduceMul, Int.reduceNeg, Int.reduceLE, Int.reduceLT, Int.reduceEq, Int.reduceNe, Int.reduceToNat, ↓reduceIte, reduceCtorEq, implies_true, forall_const, eq_self, ne_eq, wtAll, Try.ntmps29, Try.results29, hia, hib, hab, hba, hh_ic]
          refine vs_loop (σ := Nat) (fun q => q ≤ p.ws.length)
            (fun q => [(2, i64 (max 0 y)), (3, intsAV f), (4, intsAV st), (5, pptr p), (11, .sl ia 1 p.ws.length), (12, .sl ib 1 p.ws.length), (13, .sl ic 1 i), (15, i64 v), (25, intsAV l), (26, i64 l.length), (27, i64 i), (63, i64 p.ws.length), (64, i64 q)])
            (fun q => ((H.set ia (.row 1 p.ws.length (wnF p l i q))).set ib (.row 1 p.ws.length (idF p l i q))).set ic (.row 1 i (intF (truL p l w (fun i => f.getD i 0) (fun i => st.getD i 0) i))))
            (fun q => p.ws.length - q) 0 (Nat.zero_le _) ?_ HSub_rfl fun q hq => ?_
          · simp only [vsAll, Nat.reduceEqDiff, ↓reduceIte, eq_self, Int.natCast_zero]
          · simp only [vsAll, binA, binLitA, intA, opA, dstOk, Nat.reduceLT, Nat.reduceEqDiff, ↓reduceIte, eq_self]
            refine condD (fun hd2 => ?_) (fun hd2 => ?_)
            · have hqs : q < p.ws.length := by ((try clear hia); (try clear hib); (try clear hab); (try clear hba); (try clear hh_ic); omega)
              have hkq := k.m.wt hqs
              have hdl := doneW_le (p.wt q).re l q i
              have ewq : p.ws.getD q wt0 = p.wt q := rfl
              have hdq := hdr (p.wt q).re q
              have eu1 : ∀ (g : Nat → List AV) c, updF p.ws.length q g c q = c := fun g c => updF_same hqs g c
              have nwn : ∀ F : Nat → List AV, (∀ u, u < p.ws.length → F u = if u = q then [i64 ((doneW (p.wt q).re l q (i + 1)).1 : Nat)] else wnF p l i q u) → Obj.Le (.row 1 p.ws.length F) (.row 1 p.ws.length (wnF p l i (q + 1))) := fun F hF => row_ext fun u hu => by
                rw [hF u hu]
                by_cases e2 : u = q
                · subst e2
                  rw [if_pos rfl, wn_at, if_pos (Nat.lt_succ_self u)]
                · rw [if_neg e2, wn_at, wn_at]
                  by_cases e3 : u < q
                  · rw [if_pos e3, if_pos (by ((try clear hia); (try clear hib); (try clear hab); (try clear hba); (try clear hh_ic); omega))]
                  · rw [if_neg e3, if_neg (by ((try clear hia); (try clear hib); (try clear hab); (try clear hba); (try clear hh_ic); omega))]
              have nid : ∀ F : Nat → List AV, (∀ u, u < p.ws.length → F u = if u = q then [i64 ((doneW (p.wt q).re l q (i + 1)).2 : Nat)] else idF p l i q u) → Obj.Le (.row 1 p.ws.length F) (.row 1 p.ws.length (idF p l i (q + 1))) := fun F hF => row_ext fun u hu => by
                rw [hF u hu]
                by_cases e2 : u = q
                · subst e2
                  rw [if_pos rfl, id_at, if_pos (Nat.lt_succ_self u)]
                · rw [if_neg e2, id_at, id_at]
                  by_cases e3 : u < q
                  · rw [if_pos e3, if_pos (by ((try clear hia); (try clear hib); (try clear hab); (try clear hba); (try clear hh_ic); omega))]
                  · rw [if_neg e3, if_neg (by ((try clear hia); (try clear hib); (try clear hab); (try clear hba); (try clear hh_ic); omega))]
              simp only [vsAll, binA, binLitA, intA, opA, dstOk, nilSliceOp, Nat.reduceLT, Nat.reduceEqDiff, Nat.reduceBEq, ↓reduceIte, eq_self]
              refine condV (fun hc2 => ?_) (fun hc2 => ?_)
              · have eqv : q = v := by have := of_decide_eq_true hc2; ((try clear hia); (try clear hib); (try clear hab); (try clear hba); (try clear hh_ic); omega)
                subst eqv
                have hdt : doneW (p.wt q).re l q (i + 1) = stepW (p.wt q).re true (doneW (p.wt q).re l q i) := by rw [hdq, decide_eq_true rfl]
                have hst : stepW (p.wt q).re true (doneW (p.wt q).re l q i) = if (p.wt q).re ≤ ((0 : Nat) : Int) then (0, 0) else ((doneW (p.wt q).re l q i).1 + 1, 0) := rfl
                rw [← hdt] at hst
                simp only [vsAll, binA, binLitA, intA, loadA, loadRow, partA, partOk, indexAddrA, cellA, cellsA, opA, newCells, okCells, storeObj, dstOk, Nat.reduceLT, Nat.reduceEqDiff, ↓reduceIte, eq_self, wtAll, hab, hba, hh_ic, wn_at, id_at, Nat.lt_irrefl]
                refine ⟨⟨by ((try clear hia); (try clear hib); (try clear hab); (try clear hba); (try clear hh_ic); omega), by ((try clear hia); (try clear hib); (try clear hab); (try clear hba); (try clear hh_ic); omega)⟩, hqs, by simp only [InR_i64]; ((try clear hia); (try clear hib); (try clear hab); (try clear hba); (try clear hh_ic); omega), ⟨by ((try clear hia); (try clear hib); (try clear hab); (try clear hba); (try clear hh_ic); omega), by ((try clear hia); (try clear hib); (try clear hab); (try clear hba); (try clear hh_ic); omega)⟩, hqs, ⟨by ((try clear hia); (try clear hib); (try clear hab); (try clear hba); (try clear hh_ic); omega), by ((try clear hia); (try clear hib); (try clear hab); (try clear hba); (try clear hh_ic); omega)⟩, hqs, ?_⟩
                refine vs_draw2 [0, 0, 0, 0, 0, 0, 0, 0, 0, 0, 0] [] [0, 1, 2, 3, 4, 5, 6, 7, 8, 9, 10] (by decide +kernel) ?_
                simp only [vsAll, binA, binLitA, intA, loadA, loadRow, partA, partOk, fieldAddrA, indexAddrA, opA, dstOk, Nat.reduceLT, Nat.reduceEqDiff, ↓reduceIte, eq_self, wtAll, eu1, wsF_at, ewq]
                refine ⟨⟨by ((try clear hia); (try clear hib); (try clear hab); (try clear hba); (try clear hh_ic); omega), by ((try clear hia); (try clear hib); (try clear hab); (try clear hba); (try clear hh_ic); omega)⟩, hqs, ⟨by ((try clear hia); (try clear hib); (try clear hab); (try clear hba); (try clear hh_ic); omega), by ((try clear hia); (try clear hib); (try clear hab); (try clear hba); (try clear hh_ic); omega)⟩, hqs, condV (fun hc3 => ?_) (fun hc3 => ?_)⟩
                · have hc4 := of_decide_eq_true hc3
                  rw [if_pos (by ((try clear hia); (try clear hib); (try clear hab); (try clear hba); (try clear hh_ic); omega))] at hst
                  simp only [vsAll, binA, binLitA, intA, indexAddrA, cellA, cellsA, opA, newCells, okCells, storeObj, dstOk, Nat.reduceLT, Nat.reduceEqDiff, ↓reduceIte, eq_self, wtAll, hab]
                  refine ⟨⟨by ((try clear hia); (try clear hib); (try clear hab); (try clear hba); (try clear hh_ic); omega), by ((try clear hia); (try clear hib); (try clear hab); (try clear hba); (try clear hh_ic); omega)⟩, hqs, by simp only [InR_i64]; ((try clear hia); (try clear hib); (try clear hab); (try clear hba); (try clear hh_ic); omega), loop_next (q + 1) (by ((try clear hia); (try clear hib); (try clear hab); (try clear hba); (try clear hh_ic); omega)) (by ((try clear hia); (try clear hib); (try clear hab); (try clear hba); (try clear hh_ic); omega)) ?_ ?_⟩
                  · simp only [vsAll, Nat.reduceEqDiff, ↓reduceIte, eq_self, Int.natCast_add, Int.natCast_one]
                  · refine HSub_put_eq (by simp only [vsAll, ↓reduceIte, eq_self, hh_ic]) ?_
                    refine HSub_put (o' := .row 1 p.ws.length (updF p.ws.length q (idF p l i q) [i64 0])) (by simp only [vsAll, ↓reduceIte, eq_self, hba]; try rfl) (nid _ fun u hu => by rw [updF_at hqs hu, hst]; rfl) ?_
                    refine HSub_put (o' := .row 1 p.ws.length (updF p.ws.length q (updF p.ws.length q (wnF p l i q) [i64 (((doneW (p.wt q).re l q i).1 : Int) + 1)]) [i64 0])) (by simp only [vsAll, ↓reduceIte, eq_self, eu1]; try rfl) (nwn _ fun u hu => by rw [updF_at hqs hu, updF_at hqs hu, hst]; split <;> rfl) ?_
                    exact HSub_drop2 hia (HSub_drop2 hib (HSub_drop2 hia (HSub_drop2 hh_ic.2.2 (HSub_drop2 hib (HSub_drop2 hia (HSub_rfl))))))
                · have hc4 := of_decide_eq_false hc3
                  rw [if_neg (by ((try clear hia); (try clear hib); (try clear hab); (try clear hba); (try clear hh_ic); omega))] at hst
                  simp only [vsAll, binA, binLitA, intA, opA, dstOk, Nat.reduceLT, Nat.reduceEqDiff, ↓reduceIte, eq_self]
                  refine ⟨by simp only [InR_i64]; ((try clear hia); (try clear hib); (try clear hab); (try clear hba); (try clear hh_ic); omega), loop_next (q + 1) (by ((try clear hia); (try clear hib); (try clear hab); (try clear hba); (try clear hh_ic); omega)) (by ((try clear hia); (try clear hib); (try clear hab); (try clear hba); (try clear hh_ic); omega)) ?_ ?_⟩
                  · simp only [vsAll, Nat.reduceEqDiff, ↓reduceIte, eq_self, Int.natCast_add, Int.natCast_one]
                  · refine HSub_put_eq (by simp only [vsAll, ↓reduceIte, eq_self, hh_ic]) ?_
                    refine HSub_put (o' := .row 1 p.ws.length (updF p.ws.length q (idF p l i q) [i64 0])) (by simp only [vsAll, ↓reduceIte, eq_self]; try rfl) (nid _ fun u hu => by rw [updF_at hqs hu, hst]; rfl) ?_
                    refine HSub_put (o' := .row 1 p.ws.length (updF p.ws.length q (wnF p l i q) [i64 (((doneW (p.wt q).re l q i).1 : Int) + 1)])) (by simp only [vsAll, ↓reduceIte, eq_self, hab]; try rfl) (nwn _ fun u hu => by rw [updF_at hqs hu, hst]; rfl) ?_
                    exact HSub_drop2 hib (HSub_drop2 hia (HSub_drop2 hh_ic.2.2 (HSub_drop2 hib (HSub_drop2 hia (HSub_rfl)))))
              · have eqv : ¬ (v : Int) = (q : Int) := by have := of_decide_eq_false hc2; ((try clear hia); (try clear hib); (try clear hab); (try clear hba); (try clear hh_ic); omega)
                have hdf : doneW (p.wt q).re l q (i + 1) = stepW (p.wt q).re false (doneW (p.wt q).re l q i) := by rw [hdq, decide_eq_false eqv]
                have hst : stepW (p.wt q).re false (doneW (p.wt q).re l q i) = if (p.wt q).re ≤ (((doneW (p.wt q).re l q i).2 + 1 : Nat) : Int) then (0, (doneW (p.wt q).re l q i).2 + 1) else ((doneW (p.wt q).re l q i).1, (doneW (p.wt q).re l q i).2 + 1) := rfl
                rw [← hdf] at hst
                simp only [vsAll, binA, binLitA, intA, loadA, loadRow, partA, partOk, indexAddrA, cellA, cellsA, opA, newCells, okCells, storeObj, dstOk, Nat.reduceLT, Nat.reduceEqDiff, ↓reduceIte, eq_self, wtAll, hh_ic, id_at, Nat.lt_irrefl]
                refine ⟨⟨by ((try clear hia); (try clear hib); (try clear hab); (try clear hba); (try clear hh_ic); omega), by ((try clear hia); (try clear hib); (try clear hab); (try clear hba); (try clear hh_ic); omega)⟩, hqs, by simp only [InR_i64]; ((try clear hia); (try clear hib); (try clear hab); (try clear hba); (try clear hh_ic); omega), ⟨by ((try clear hia); (try clear hib); (try clear hab); (try clear hba); (try clear hh_ic); omega), by ((try clear hia); (try clear hib); (try clear hab); (try clear hba); (try clear hh_ic); omega)⟩, hqs, ?_⟩
                refine vs_draw2 [0, 0, 0, 0, 0, 0, 0, 0, 0, 0, 0] [] [0, 1, 2, 3, 4, 5, 6, 7, 8, 9, 10] (by decide +kernel) ?_
                simp only [vsAll, binA, binLitA, intA, loadA, loadRow, partA, partOk, fieldAddrA, indexAddrA, opA, dstOk, Nat.reduceLT, Nat.reduceEqDiff, ↓reduceIte, eq_self, wtAll, eu1, wsF_at, ewq]
                refine ⟨⟨by ((try clear hia); (try clear hib); (try clear hab); (try clear hba); (try clear hh_ic); omega), by ((try clear hia); (try clear hib); (try clear hab); (try clear hba); (try clear hh_ic); omega)⟩, hqs, ⟨by ((try clear hia); (try clear hib); (try clear hab); (try clear hba); (try clear hh_ic); omega), by ((try clear hia); (try clear hib); (try clear hab); (try clear hba); (try clear hh_ic); omega)⟩, hqs, condV (fun hc3 => ?_) (fun hc3 => ?_)⟩
                · have hc4 := of_decide_eq_true hc3
                  rw [if_pos (by ((try clear hia); (try clear hib); (try clear hab); (try clear hba); (try clear hh_ic); omega))] at hst
                  simp only [vsAll, binA, binLitA, intA, indexAddrA, cellA, cellsA, opA, newCells, okCells, storeObj, dstOk, Nat.reduceLT, Nat.reduceEqDiff, ↓reduceIte, eq_self, wtAll, hab, hh_ic]
                  refine ⟨⟨by ((try clear hia); (try clear hib); (try clear hab); (try clear hba); (try clear hh_ic); omega), by ((try clear hia); (try clear hib); (try clear hab); (try clear hba); (try clear hh_ic); omega)⟩, hqs, by simp only [InR_i64]; ((try clear hia); (try clear hib); (try clear hab); (try clear hba); (try clear hh_ic); omega), loop_next (q + 1) (by ((try clear hia); (try clear hib); (try clear hab); (try clear hba); (try clear hh_ic); omega)) (by ((try clear hia); (try clear hib); (try clear hab); (try clear hba); (try clear hh_ic); omega)) ?_ ?_⟩
                  · simp only [vsAll, Nat.reduceEqDiff, ↓reduceIte, eq_self, Int.natCast_add, Int.natCast_one]
                  · refine HSub_put_eq (by simp only [vsAll, ↓reduceIte, eq_self, hh_ic]) ?_
                    refine HSub_put (o' := .row 1 p.ws.length (updF p.ws.length q (idF p l i q) [i64 (((doneW (p.wt q).re l q i).2 : Int) + 1)])) (by simp only [vsAll, ↓reduceIte, eq_self, hba]; try rfl) (nid _ fun u hu => by rw [updF_at hqs hu, hst]; rfl) ?_
                    refine HSub_put (o' := .row 1 p.ws.length (updF p.ws.length q (wnF p l i q) [i64 0])) (by simp only [vsAll, ↓reduceIte, eq_self]; try rfl) (nwn _ fun u hu => by rw [updF_at hqs hu, hst]; rfl) ?_
                    exact HSub_drop2 hia (HSub_drop2 hib (HSub_drop2 hh_ic.2.2 (HSub_drop2 hib (HSub_drop2 hia (HSub_rfl)))))
                · have hc4 := of_decide_eq_false hc3
                  rw [if_neg (by ((try clear hia); (try clear hib); (try clear hab); (try clear hba); (try clear hh_ic); omega))] at hst
                  simp only [vsAll, binA, binLitA, intA, opA, dstOk, Nat.reduceLT, Nat.reduceEqDiff, ↓reduceIte, eq_self]
                  refine ⟨by simp only [InR_i64]; ((try clear hia); (try clear hib); (try clear hab); (try clear hba); (try clear hh_ic); omega), loop_next (q + 1) (by ((try clear hia); (try clear hib); (try clear hab); (try clear hba); (try clear hh_ic); omega)) (by ((try clear hia); (try clear hib); (try clear hab); (try clear hba); (try clear hh_ic); omega)) ?_ ?_⟩
                  · simp only [vsAll, Nat.reduceEqDiff, ↓reduceIte, eq_self, Int.natCast_add, Int.natCast_one]
                  · refine HSub_put_eq (by simp only [vsAll, ↓reduceIte, eq_self, hh_ic]) ?_
                    refine HSub_put (o' := .row 1 p.ws.length (updF p.ws.length q (idF p l i q) [i64 (((doneW (p.wt q).re l q i).2 : Int) + 1)])) (by simp only [vsAll, ↓reduceIte, eq_self]; try rfl) (nid _ fun u hu => by rw [updF_at hqs hu, hst]; rfl) ?_
                    refine HSub_put (o' := .row 1 p.ws.length (wnF p l i q)) (by simp only [vsAll, ↓reduceIte, eq_self, hab, hh_ic]; try rfl) (nwn _ fun u hu => by
                          rw [hst]
                          by_cases e : u = q
                          · subst e
                            rw [if_pos rfl, wn_at, if_neg (Nat.lt_irrefl u)]
                          · rw [if_neg e]) ?_
                    exact HSub_drop2 hib (HSub_drop2 hh_ic.2.2 (HSub_drop2 hib (HSub_drop2 hia (HSub_rfl))))
            · have eq : q = p.ws.length := by ((try clear hia); (try clear hib); (try clear hab); (try clear hba); (try clear hh_ic); omega)
              subst eq
              simp only [vsAll, binA, binLitA, intA, cellA, cellsA, okParts, buildSliceA, partIdx, elemsA, lensA, partsA, partsOk, opA, appendA, dstOk, nilSliceOp, Nat.reduceMul, Nat.reduceLT, Nat.reduceLeDiff, Nat.reduceEqDiff, Nat.reduceBEq, ↓reduceIte, eq_self, wtAll]
              refine ⟨fun u hu => by (have : u = 0 := by ((try clear hia); (try clear hib); (try clear hab); (try clear hba); (try clear hh_ic); omega)); subst this; exact ⟨rfl, trivial⟩, by ((try clear hia); (try clear hib); (try clear hab); (try clear hba); (try clear hh_ic); omega), by ((try clear hia); (try clear hib); (try clear hab); (try clear hba); (try clear hh_ic); omega), by simp only [InR_i64]; ((try clear hia); (try clear hib); (try clear hab); (try clear hba); (try clear hh_ic); omega), loop_next (i + 1) (by ((try clear hia); (try clear hib); (try clear hab); (try clear hba); (try clear hh_ic); omega)) (by ((try clear hia); (try clear hib); (try clear hab); (try clear hba); (try clear hh_ic); omega)) ?_ ?_⟩
              · simp only [vsAll, Nat.reduceEqDiff, ↓reduceIte, eq_self, Int.natCast_add, Int.natCast_one, hTn]
              · have e1 : Obj.Le (.row 1 p.ws.length (wnF p l i p.ws.length)) (.row 1 p.ws.length (wnF p l (i + 1) 0)) := row_ext fun u hu => by simp only [wn_at]; rw [if_pos hu, if_neg (Nat.not_lt_zero u)]
                have e2 : Obj.Le (.row 1 p.ws.length (idF p l i p.ws.length)) (.row 1 p.ws.length (idF p l (i + 1) 0)) := row_ext fun u hu => by simp only [id_at]; rw [if_pos hu, if_neg (Nat.not_lt_zero u)]
                have e3 : appF i 1 (intF (truL p l w (fun i => f.getD i 0) (fun i => st.getD i 0) i)) (fun q => [[i64 (max 0 y)]].getD q []) = intF (truL p l w (fun i => f.getD i 0) (fun i => st.getD i 0) (i + 1)) := by
                  rw [hLn, hTn]
                  exact app_ints' hLl _ _ rfl
                rw [e3]
                refine HSub_put_eq (by simp only [vsAll, ↓reduceIte, eq_self]) ?_
                refine HSub_put (o' := .row 1 p.ws.length (idF p l i p.ws.length)) (by simp only [vsAll, ↓reduceIte, eq_self, hh_ic]) e2 ?_
                refine HSub_put (o' := .row 1 p.ws.length (wnF p l i p.ws.length)) (by simp only [vsAll, ↓reduceIte, eq_self, hab, hh_ic]) e1 ?_
                exact HSub_drop2 hh_ic.2.2 (HSub_drop2 hh_ic.2.2 (HSub_drop2 hib (HSub_drop2 hia HSub_rfl)))
        · have hx1 : x = -1 := by have := of_decide_eq_false hc; ((try clear hia); (try clear hib); (try clear hab); (try clear hba); (try clear hh_ic); omega)
          subst hx1
          rw [if_pos (by decide)] at eS
          rw [← show T i + f.getD i 0 - trS p l (fun i => st.getD i 0) i = T i + f.getD i 0 by ((try clear hia); (try clear hib); (try clear hab); (try clear hba); (try clear hh_ic); omega)]
          generalize hy : T i + f.getD i 0 - trS p l (fun i => st.getD i 0) i = y at hTn ⊢
          try simp only [vsAll, loadA, loadRow, partA, partOk, fieldAddrA, lenA, mmA, okAll, stAll, opsA, opA, dstOk, nilSliceOp, Nat.reduceLT, Nat.reduceEqDiff, Nat.reduceBEq, Int.reduceNeg, Int.reduceLE, ↓reduceIte, eq_self, wtAll]
          refine vs_loop (σ := Nat) (fun q => q ≤ p.ws.length)
            (fun q => [(2, i64 (max 0 y)), (3, intsAV f), (4, intsAV st), (5, pptr p), (11, .sl ia 1 p.ws.length), (12, .sl ib 1 p.ws.length), (13, .sl ic 1 i), (15, i64 (-1)), (25, intsAV l), (26, i64 l.length), (27, i64 i), (63, i64 p.ws.length), (64, i64 q)])
            (fun q => ((H.set ia (.row 1 p.ws.length (wnF p l i q))).set ib (.row 1 p.ws.length (idF p l i q))).set ic (.row 1 i (intF (truL p l w (fun i => f.getD i 0) (fun i => st.getD i 0) i))))
            (fun q => p.ws.length - q) 0 (Nat.zero_le _) ?_ HSub_rfl fun q hq => ?_
          · simp only [vsAll, Nat.reduceEqDiff, Int.reduceNeg, ↓reduceIte, eq_self, Int.natCast_zero]
          · simp only [vsAll, binA, binLitA, intA, opA, dstOk, Nat.reduceLT, Nat.reduceEqDiff, Int.reduceNeg, ↓reduceIte, eq_self]
            refine condD (fun hd2 => ?_) (fun hd2 => ?_)
            · have hqs : q < p.ws.length := by ((try clear hia); (try clear hib); (try clear hab); (try clear hba); (try clear hh_ic); omega)
              have hkq := k.m.wt hqs
              have hdl := doneW_le (p.wt q).re l q i
              have ewq : p.ws.getD q wt0 = p.wt q := rfl
              have hdq := hdr (p.wt q).re q
              have eu1 : ∀ (g : Nat → List AV) c, updF p.ws.length q g c q = c := fun g c => updF_same hqs g c
              have nwn : ∀ F : Nat → List AV, (∀ u, u < p.ws.length → F u = if u = q then [i64 ((doneW (p.wt q).re l q (i + 1)).1 : Nat)] else wnF p l i q u) → Obj.Le (.row 1 p.ws.length F) (.row 1 p.ws.length (wnF p l i (q + 1))) := fun F hF => row_ext fun u hu => by
                rw [hF u hu]
                by_cases e2 : u = q
                · subst e2
                  rw [if_pos rfl, wn_at, if_pos (Nat.lt_succ_self u)]
                · rw [if_neg e2, wn_at, wn_at]
                  by_cases e3 : u < q
                  · rw [if_pos e3, if_pos (by ((try clear hia); (try clear hib); (try clear hab); (try clear hba); (try clear hh_ic); omega))]
                  · rw [if_neg e3, if_neg (by ((try clear hia); (try clear hib); (try clear hab); (try clear hba); (try clear hh_ic); omega))]
              have nid : ∀ F : Nat → List AV, (∀ u, u < p.ws.length → F u = if u = q then [i64 ((doneW (p.wt q).re l q (i + 1)).2 : Nat)] else idF p l i q u) → Obj.Le (.row 1 p.ws.length F) (.row 1 p.ws.length (idF p l i (q + 1))) := fun F hF => row_ext fun u hu => by
                rw [hF u hu]
                by_cases e2 : u = q
                · subst e2
                  rw [if_pos rfl, id_at, if_pos (Nat.lt_succ_self u)]
                · rw [if_neg e2, id_at, id_at]
                  by_cases e3 : u < q
                  · rw [if_pos e3, if_pos (by ((try clear hia); (try clear hib); (try clear hab); (try clear hba); (try clear hh_ic); omega))]
                  · rw [if_neg e3, if_neg (by ((try clear hia); (try clear hib); (try clear hab); (try clear hba); (try clear hh_ic); omega))]
              have hdf : doneW (p.wt q).re l q (i + 1) = stepW (p.wt q).re false (doneW (p.wt q).re l q i) := by rw [hdq, decide_eq_false (by ((try clear hia); (try clear hib); (try clear hab); (try clear hba); (try clear hh_ic); omega))]
              have hst : stepW (p.wt q).re false (doneW (p.wt q).re l q i) = if (p.wt q).re ≤ (((doneW (p.wt q).re l q i).2 + 1 : Nat) : Int) then (0, (doneW (p.wt q).re l q i).2 + 1) else ((doneW (p.wt q).re l q i).1, (doneW (p.wt q).re l q i).2 + 1) := rfl
              rw [← hdf] at hst
              simp only [vsAll, binA, binLitA, intA, loadA, loadRow, partA, partOk, indexAddrA, cellA, cellsA, opA, newCells, okCells, storeObj, dstOk, nilSliceOp, Nat.reduceLT, Nat.reduceEqDiff, Nat.reduceBEq, Int.reduceNeg, ↓reduceIte, reduceCtorEq, eq_self, wtAll, hh_ic, id_at, Nat.lt_irrefl]
              refine ⟨⟨by ((try clear hia); (try clear hib); (try clear hab); (try clear hba); (try clear hh_ic); omega), by ((try clear hia); (try clear hib); (try clear hab); (try clear hba); (try clear hh_ic); omega)⟩, hqs, by simp only [InR_i64]; ((try clear hia); (try clear hib); (try clear hab); (try clear hba); (try clear hh_ic); omega), ⟨by ((try clear hia); (try clear hib); (try clear hab); (try clear hba); (try clear hh_ic); omega), by ((try clear hia); (try clear hib); (try clear hab); (try clear hba); (try clear hh_ic); omega)⟩, hqs, ?_⟩
              refine vs_draw2 [0, 0, 0, 0, 0, 0, 0, 0, 0, 0, 0] [] [0, 1, 2, 3, 4, 5, 6, 7, 8, 9, 10] (by decide +kernel) ?_
              simp only [vsAll, binA, binLitA, intA, loadA, loadRow, partA, partOk, fieldAddrA, indexAddrA, opA, dstOk, Nat.reduceLT, Nat.reduceEqDiff, Int.reduceNeg, ↓reduceIte, eq_self, wtAll, eu1, wsF_at, ewq]
              refine ⟨⟨by ((try clear hia); (try clear hib); (try clear hab); (try clear hba); (try clear hh_ic); omega), by ((try clear hia); (try clear hib); (try clear hab); (try clear hba); (try clear hh_ic); omega)⟩, hqs, ⟨by ((try clear hia); (try clear hib); (try clear hab); (try clear hba); (try clear hh_ic); omega), by ((try clear hia); (try clear hib); (try clear hab); (try clear hba); (try clear hh_ic); omega)⟩, hqs, condV (fun hc3 => ?_) (fun hc3 => ?_)⟩
              · have hc4 := of_decide_eq_true hc3
                rw [if_pos (by ((try clear hia); (try clear hib); (try clear hab); (try clear hba); (try clear hh_ic); omega))] at hst
                simp only [vsAll, binA, binLitA, intA, indexAddrA, cellA, cellsA, opA, newCells, okCells, storeObj, dstOk, Nat.reduceLT, Nat.reduceEqDiff, Int.reduceNeg, ↓reduceIte, eq_self, wtAll, hab, hh_ic]
                refine ⟨⟨by ((try clear hia); (try clear hib); (try clear hab); (try clear hba); (try clear hh_ic); omega), by ((try clear hia); (try clear hib); (try clear hab); (try clear hba); (try clear hh_ic); omega)⟩, hqs, by simp only [InR_i64]; ((try clear hia); (try clear hib); (try clear hab); (try clear hba); (try clear hh_ic); omega), loop_next (q + 1) (by ((try clear hia); (try clear hib); (try clear hab); (try clear hba); (try clear hh_ic); omega)) (by ((try clear hia); (try clear hib); (try clear hab); (try clear hba); (try clear hh_ic); omega)) ?_ ?_⟩
                · simp only [vsAll, Nat.reduceEqDiff, Int.reduceNeg, ↓reduceIte, eq_self, Int.natCast_add, Int.natCast_one]
                · refine HSub_put_eq (by simp only [vsAll, ↓reduceIte, eq_self, hh_ic]) ?_
                  refine HSub_put (o' := .row 1 p.ws.length (updF p.ws.length q (idF p l i q) [i64 (((doneW (p.wt q).re l q i).2 : Int) + 1)])) (by simp only [vsAll, ↓reduceIte, eq_self, hba]; try rfl) (nid _ fun u hu => by rw [updF_at hqs hu, hst]; rfl) ?_
                  refine HSub_put (o' := .row 1 p.ws.length (updF p.ws.length q (wnF p l i q) [i64 0])) (by simp only [vsAll, ↓reduceIte, eq_self]; try rfl) (nwn _ fun u hu => by rw [updF_at hqs hu, hst]; rfl) ?_
                  exact HSub_drop2 hia (HSub_drop2 hib (HSub_drop2 hh_ic.2.2 (HSub_drop2 hib (HSub_drop2 hia (HSub_rfl)))))
              · have hc4 := of_decide_eq_false hc3
                rw [if_neg (by ((try clear hia); (try clear hib); (try clear hab); (try clear hba); (try clear hh_ic); omega))] at hst
                simp only [vsAll, binA, binLitA, intA, opA, dstOk, Nat.reduceLT, Nat.reduceEqDiff, Int.reduceNeg, ↓reduceIte, eq_self]
                refine ⟨by simp only [InR_i64]; ((try clear hia); (try clear hib); (try clear hab); (try clear hba); (try clear hh_ic); omega), loop_next (q + 1) (by ((try clear hia); (try clear hib); (try clear hab); (try clear hba); (try clear hh_ic); omega)) (by ((try clear hia); (try clear hib); (try clear hab); (try clear hba); (try clear hh_ic); omega)) ?_ ?_⟩
                · simp only [vsAll, Nat.reduceEqDiff, Int.reduceNeg, ↓reduceIte, eq_self, Int.natCast_add, Int.natCast_one]
                · refine HSub_put_eq (by simp only [vsAll, ↓reduceIte, eq_self, hh_ic]) ?_
                  refine HSub_put (o' := .row 1 p.ws.length (updF p.ws.length q (idF p l i q) [i64 (((doneW (p.wt q).re l q i).2 : Int) + 1)])) (by simp only [vsAll, ↓reduceIte, eq_self]; try rfl) (nid _ fun u hu => by rw [updF_at hqs hu, hst]; rfl) ?_
                  refine HSub_put (o' := .row 1 p.ws.length (wnF p l i q)) (by simp only [vsAll, ↓reduceIte, eq_self, hab, hh_ic]; try rfl) (nwn _ fun u hu => by
                        rw [hst]
                        by_cases e : u = q
                        · subst e
                          rw [if_pos rfl, wn_at, if_neg (Nat.lt_irrefl u)]
                        · rw [if_neg e]) ?_
                  exact HSub_drop2 hib (HSub_drop2 hh_ic.2.2 (HSub_drop2 hib (HSub_drop2 hia (HSub_rfl))))
            · have eq : q = p.ws.length := by ((try clear hia); (try clear hib); (try clear hab); (try clear hba); (try clear hh_ic); omega)
              subst eq
              simp only [vsAll, binA, binLitA, intA, cellA, cellsA, okParts, buildSliceA, partIdx, elemsA, lensA, partsA, partsOk, opA, appendA, dstOk, nilSliceOp, Nat.reduceMul, Nat.reduceLT, Nat.reduceLeDiff, Nat.reduceEqDiff, Nat.reduceBEq, Int.reduceNeg, ↓reduceIte, eq_self, wtAll]
              refine ⟨fun u hu => by (have : u = 0 := by ((try clear hia); (try clear hib); (try clear hab); (try clear hba); (try clear hh_ic); omega)); subst this; exact ⟨rfl, trivial⟩, by ((try clear hia); (try clear hib); (try clear hab); (try clear hba); (try clear hh_ic); omega), by ((try clear hia); (try clear hib); (try clear hab); (try clear hba); (try clear hh_ic); omega), by simp only [InR_i64]; ((try clear hia); (try clear hib); (try clear hab); (try clear hba); (try clear hh_ic); omega), loop_next (i + 1) (by ((try clear hia); (try clear hib); (try clear hab); (try clear hba); (try clear hh_ic); omega)) (by ((try clear hia); (try clear hib); (try clear hab); (try clear hba); (try clear hh_ic); omega)) ?_ ?_⟩
              · simp only [vsAll, Nat.reduceEqDiff, Int.reduceNeg, ↓reduceIte, eq_self, Int.natCast_add, Int.natCast_one, hTn]
              · have e1 : Obj.Le (.row 1 p.ws.length (wnF p l i p.ws.length)) (.row 1 p.ws.length (wnF p l (i + 1) 0)) := row_ext fun u hu => by simp only [wn_at]; rw [if_pos hu, if_neg (Nat.not_lt_zero u)]
                have e2 : Obj.Le (.row 1 p.ws.length (idF p l i p.ws.length)) (.row 1 p.ws.length (idF p l (i + 1) 0)) := row_ext fun u hu => by simp only [id_at]; rw [if_pos hu, if_neg (Nat.not_lt_zero u)]
                have e3 : appF i 1 (intF (truL p l w (fun i => f.getD i 0) (fun i => st.getD i 0) i)) (fun q => [[i64 (max 0 y)]].getD q []) = intF (truL p l w (fun i => f.getD i 0) (fun i => st.getD i 0) (i + 1)) := by
                  rw [hLn, hTn]
                  exact app_ints' hLl _ _ rfl
                rw [e3]
                refine HSub_put_eq (by simp only [vsAll, ↓reduceIte, eq_self]) ?_
                refine HSub_put (o' := .row 1 p.ws.length (idF p l i p.ws.length)) (by simp only [vsAll, ↓reduceIte, eq_self, hh_ic]) e2 ?_
                refine HSub_put (o' := .row 1 p.ws.length (wnF p l i p.ws.length)) (by simp only [vsAll, ↓reduceIte, eq_self, hab, hh_ic]) e1 ?_
                exact HSub_drop2 hh_ic.2.2 (HSub_drop2 hh_ic.2.2 (HSub_drop2 hib (HSub_drop2 hia HSub_rfl)))
      · have ei : i = l.length := by ((try clear hia); (try clear hib); (try clear hab); (try clear hba); (try clear hh_ic); omega)
        subst ei
        simp only [vsAll, opA, dstOk, nilSliceOp, resA, retA.eq_1, Nat.reduceLT, Nat.reduceEqDiff, Nat.reduceBEq, ↓reduceIte, eq_self, Try.results29]
        exact ⟨H.set ic (.row 1 l.length (intF (truL p l w (fun i => f.getD i 0) (fun i => st.getD i 0) l.length))), by (repeat (first | exact HSub_rfl | refine HSub_put_eq (by simp only [vsAll, ↓reduceIte, eq_self]) ?_ | refine HSub_drop2 (by simp only [eq_self, hia, hib, hh_ic]) ?_ | refine HSub_keep_eq (by simp only [vsAll, binA, binLitA, intA, aggA, aggV, boolA, nilA2, isConst, unA, loadA, loadRow, partA, partOk, fieldAddrA, indexAddrA, indexA, fieldA, extractA, lenA, nilCheckA, boxA, boxZ, cellA, cellsA, fillA, okParts, buildSliceA, buildMutA, makeSliceA, partIdx, elemsA, lensA, ifaceA, convA, mmA, pickA, okAll, stAll, opsA, partsA, partsOk, opA, allocA, boxMutA, newCells, okCells, storeObj, appendA, guardV, taA, nM, mapUpA, lookA, sliceA, sliceS, boundsA, opO, okO, copyA, dstOk, nilA, quietOk, nilSliceOp, deferV, panA, resA, argFr, retA.eq_1, retA.eq_2, Nat.reduceAdd, Nat.reduceSub, Nat.reduceMul, Nat.reduceLT, Nat.reduceLeDiff, Nat.reduceEqDiff, Nat.reduceBEq, Int.reduceAdd, Int.reduceSub, Int.reduceMul, Int.reduceNeg, Int.reduceLE, Int.reduceLT, Int.reduceEq, Int.reduceNe, Int.reduceToNat, ↓reduceIte, reduceCtorEq, implies_true, forall_const, eq_self, ne_eq, wtAll, Try.ntmps29, Try.results29, hia, hib, hab, hba, hh_ic]) ?_)), ic, hh_ic.2.2, rfl, rfl⟩
end Go.Proofs.Ytkcgocmjaggdiaa
end
section
set_option linter.unusedVariables false
set_option linter.unusedSimpArgs false
namespace Go.Proofs.Ytkcgocmjaggdiaa
open Go.V Wl
def firP (p : Pu) (n : Nat) : Pu := { p with fl := p.fl.take n }
def onlW (S : Nat) (i : Nat) (w : Wt) : Wt := if S.testBit i = true then w else { w with lo := 0, hi := 0 }
def onlP (p : Pu) (S : Nat) : Pu := { p with ws := (List.range p.ws.length).map fun i => onlW S i (p.wt i) }
/-- The same list with those watches alone that are in the set. -/
def inS (S : Nat) (w : Int) : Int := if 0 ≤ w ∧ S.testBit w.toNat = true then w else -1
end Go.Proofs.Ytkcgocmjaggdiaa
end
section
set_option linter.unusedVariables false
set_option linter.unusedSimpArgs false
set_option maxHeartbeats 4000000
set_option maxRecDepth 100000
namespace Go.Proofs.Ytkcgocmjaggdiaa
open Go.V Wl
def endV (p : Pu) (b : Bool) : Int := if errE p true = 0 then startV p b else 0
def safF (p : Pu) (l : List Int) : Bool := decide (playE p l = 0) && decide (floV p l = 2)
end Go.Proofs.Ytkcgocmjaggdiaa
end
section
set_option linter.unusedVariables false
set_option linter.unusedSimpArgs false
set_option maxHeartbeats 4000000
set_option maxRecDepth 100000
namespace Go.Proofs.Ytkcgocmjaggdiaa
open Go.V Wl
theorem err_cases {p : Pu} (k : Ok p) : ((allA p.ho).length = 0 ∧ errE p true = 10) ∨ (0 < (allA p.ho).length ∧ errE p true = 0) := by
  by_cases h : (allA p.ho).length = 0
  · exact .inl ⟨h, errE_clash k h⟩
  · exact .inr ⟨by omega, errE_ok k h⟩
theorem playE_of {p : Pu} {l : List Int} (h : planB p l = true) : playE p l = errE p true := by unfold playE; rw [h]
theorem los_cases {p : Pu} {l : List Int} (h : playE p l = 0) : (safeB p l = true ∧ losE p l = 4 ∧ losV p l = 0) ∨ (safeB p l = false ∧ losE p l = 0 ∧ ∃ i : Nat, losV p l = (i : Int) ∧ i < l.length ∧ p.ca < watV p l false (i + 1) ∧ ∀ j, j < i → watV p l false (j + 1) ≤ p.ca) := by
  unfold losV losE
  rw [if_pos h]
  cases hs : safeB p l with
  | true => left; exact ⟨rfl, rfl, rfl⟩
  | false =>
    right
    refine ⟨rfl, rfl, ?_⟩
    simp only [Bool.false_eq_true, if_false, if_true]
    rcases lost_cases p.ca (aftL p l false l.length) with ⟨h1, h2⟩ | ⟨i, h1, h2, h3, h4⟩
    · exfalso
      have : safeB p l = true := by unfold safeB; rw [h1]; rfl
      rw [hs] at this; cases this
    · rw [aft_len] at h2
      rw [aft_at p l false h2] at h3
      exact ⟨i, h1, h2, h3, fun j hj => by have := h4 j hj; rwa [aft_at p l false (by omega)] at this⟩
end Go.Proofs.Ytkcgocmjaggdiaa
end
section
set_option linter.unusedVariables false
set_option linter.unusedSimpArgs false
set_option maxHeartbeats 4000000
set_option maxRecDepth 100000
namespace Go.Proofs.Ytkcgocmjaggdiaa
open Go.V Wl
theorem take_snoc {l : List Int} {i : Nat} (h : i < l.length) : l.take (i + 1) = l.take i ++ [l.getD i 0] := by
  rw [List.take_succ_eq_append_getElem h]
  simp [List.getD_eq_getElem?_getD, h]
end Go.Proofs.Ytkcgocmjaggdiaa
end
section
set_option linter.unusedVariables false
set_option linter.unusedSimpArgs false
set_option maxHeartbeats 4000000
set_option maxRecDepth 100000
namespace Go.Proofs.Ytkcgocmjaggdiaa
open Go.V Wl
def owF (p : Pu) (S i : Nat) : Nat → List AV := fun j => (if j < i then onlW S j (p.wt j) else p.wt j).cs
abbrev onC (p : Pu) (iw : Nat) : List AV := [spansAV p.fl, i64 p.ca, .sl iw 4 p.ws.length, flAV p.ho.n p.ho.fl, sdAV p.ho.m p.ho.sd]
end Go.Proofs.Ytkcgocmjaggdiaa
end
section
set_option linter.unusedVariables false
set_option linter.unusedSimpArgs false
set_option maxHeartbeats 4000000
set_option maxRecDepth 100000
namespace Go.Proofs.Ytkcgocmjaggdiaa
open Go.V Wl
/-- The first of these numbers that is too much, as the laws look for it. -/
def lstI (ca : Int) (g : Nat → Int) : Nat → Int
  | 0 => -1
  | n + 1 => if lstI ca g n < 0 ∧ ca < g n then (n : Int) else lstI ca g n
theorem lst_cases (ca : Int) (g : Nat → Int) : ∀ n, (lstI ca g n = -1 ∧ ∀ j, j < n → g j ≤ ca) ∨ ∃ j : Nat, lstI ca g n = (j : Int) ∧ j < n ∧ ca < g j ∧ ∀ k, k < j → g k ≤ ca := by
  intro n
  induction n with
  | zero => exact .inl ⟨rfl, fun j hj => absurd hj (Nat.not_lt_zero j)⟩
  | succ n ih =>
    rw [lstI]
    rcases ih with ⟨h1, h2⟩ | ⟨j, h1, h2, h3, h4⟩
    · by_cases hc : ca < g n
      · rw [if_pos ⟨by omega, hc⟩]
        exact .inr ⟨n, rfl, Nat.lt_succ_self n, hc, h2⟩
      · rw [if_neg fun h => hc h.2]
        refine .inl ⟨h1, fun j hj => ?_⟩
        by_cases e : j = n
        · subst e; omega
        · exact h2 j (by omega)
    · rw [if_neg fun h => by omega]
      exact .inr ⟨j, h1, by omega, h3, h4⟩
def drawR (H : Hp) (ia : Nat) (a : Nat) (lo hi : Int) : Res → Hp → Prop := fun r H' => H' = H.set ia (.box 1 1 fun _ => [i64 ((a + 1 : Nat) : Int)]) ∧ ∃ n, lo ≤ n ∧ n ≤ hi ∧ r = .ret (i64 n)
abbrev drF (N : Nat) (b : Nat → Int) (ia : Nat) : AV := .func (.func 27) [] [.ref ia 0 1 0 0, .rptr 1 1 (fun _ => [.rsl N 1 (wyF b)]) 0 0]
theorem draw_tri (N : Nat) (b : Nat → Int) (ia a : Nat) (lo hi : Int) (H : Hp) (hN : N < 2 ^ 63) (hb : ∀ i, i < N → 0 ≤ b i ∧ b i ≤ 65535) (ho : H ia = some (.box 1 1 fun _ => [i64 (a : Int)])) (ha : a ≤ 1000) (h0 : 0 ≤ lo) (h1 : lo ≤ hi) (h2 : hi ≤ 1000) :
    Tri Try.prog (drF N b ia) [.agg [i64 lo, i64 hi]] H (drawR H ia a lo hi) := by
  refine tri_v0 (fun _ => false) Try.func27 (by kernel_rfl) rfl (by simp only [List.length_append, List.length_cons, List.length_nil, Try.ntmps27]; decide) ?_
  simp only [vsAll, binA, binLitA, intA, loadA, loadRow, partA, partOk, lenA, boxA, boxZ, cellA, cellsA, opA, newCells, okCells, storeObj, dstOk, nilSliceOp, argFr, Nat.reduceAdd, Nat.reduceLT, Nat.reduceEqDiff, ↓reduceIte, eq_self, wtAll, Try.ntmps27, ho]
  refine ⟨by simp only [InR_i64]; omega, condV (fun hc => ?_) (fun hc => ?_)⟩
  · simp only [vsAll, loadA, loadRow, partA, partOk, fieldAddrA, opA, dstOk, nilSliceOp, resA, retA.eq_1, Nat.reduceLT, Nat.reduceEqDiff, ↓reduceIte, eq_self, wtAll, Try.results27]
    exact ⟨by rw [Int.natCast_add]; rfl, lo, Int.le_refl _, h1, rfl⟩
  · have hN0 : 0 < N := by have := of_decide_eq_false hc; omega
    simp only [vsAll]
    refine vs_draw2 [0, 0, 0, 0, 0, 0, 0, 0, 0, 0, 0, 0, 0, 0, 0, 0, 0, 0, 0, 0, 0, 0] [] [0, 1, 2, 3, 4, 5, 6, 7, 8, 9, 10, 11, 12, 13, 14, 15, 16, 17, 18, 19, 20, 21] (by decide +kernel) ?_
    simp only [vsAll, binA, binLitA, intA, loadA, loadRow, partA, partOk, fieldAddrA, indexAddrA, lenA, convA, opA, dstOk, resA, argFr, retA.eq_1, Nat.reduceLT, Nat.reduceEqDiff, ↓reduceIte, eq_self, ne_eq, wtAll, Try.results27, wyF_at]
    have hm0 : 0 ≤ ((a : Int) + 1).tmod N := Int.tmod_nonneg _ (by omega)
    have hm1 : ((a : Int) + 1).tmod N < N := Int.tmod_lt_of_pos _ (by omega)
    generalize ((a : Int) + 1).tmod N = r at hm0 hm1 ⊢
    have hbr := hb r.toNat (by omega)
    generalize b r.toNat = c at hbr ⊢
    have hq0 : 0 ≤ (c + 31 * ((a : Int) + 1)).tmod (hi - lo + 1) := Int.tmod_nonneg _ (by omega)
    have hq1 : (c + 31 * ((a : Int) + 1)).tmod (hi - lo + 1) < hi - lo + 1 := Int.tmod_lt_of_pos _ (by omega)
    generalize (c + 31 * ((a : Int) + 1)).tmod (hi - lo + 1) = q at hq0 hq1 ⊢
    refine ⟨by omega, ⟨hm0, hm1⟩, by omega, by simp only [InR_i64]; omega, by simp only [InR_i64]; omega, by simp only [InR_i64]; omega, by simp only [InR_i64]; omega, by simp only [InR_i64]; omega, by omega, by simp only [InR_i64]; omega, by rw [Int.natCast_add]; rfl, lo + q, by omega, by omega, rfl⟩
theorem true_law (p : Pu) (N : Nat) (b : Nat → Int) (M : Nat) (tr : Nat → Int) (H : Hp) (hb : N < 2 ^ 63 ∧ ∀ i, i < N → 0 ≤ b i ∧ b i ≤ 255) (ht : M < 2 ^ 63 ∧ ∀ i, i < M → 0 ≤ tr i ∧ tr i ≤ 65535) :
    PTri Try.prog (fnA 4) [p.av, .rsl N 1 (byF b), .rsl M 1 (wyF tr)] H (boo true) := by
  refine Tri.drop ?_
  refine tri_v0 (mset [19, 20]) Try.func4 (by kernel_rfl) rfl (by simp only [List.length_append, List.length_cons, List.length_nil, Try.ntmps4]; decide) ?_
  simp only [vsAll, loadA, loadRow, partA, partOk, boxA, boxZ, cellA, okAll, stAll, opsA, opA, dstOk, nilSliceOp, argFr, Nat.reduceAdd, Nat.reduceLT, Nat.reduceEqDiff, Nat.reduceBEq, Int.reduceNeg, ↓reduceIte, eq_self, wtAll, Try.ntmps4]
  refine callK_pure (fine_tri p _) ?_
  simp only [vsAll, unA, opA, dstOk, Nat.reduceLT, Int.reduceNeg, ↓reduceIte, eq_self]
  refine condV (fun hc => ?_) (fun hc => ?_)
  · simp only [vsAll, okAll, stAll, opsA, opA, dstOk, Nat.reduceLT, Int.reduceNeg]
    refine callK_pure (awake_tri _) ?_
    simp only [vsAll, opA, dstOk, nilSliceOp, resA, retA.eq_1, Nat.reduceLT, Nat.reduceBEq, Int.reduceNeg, ↓reduceIte, eq_self, Try.results4]
    exact dropR_pure rfl HSub_rfl
  · obtain ⟨k, kn⟩ := fine_ok (by simpa using hc)
    have nF := k.nF
    have nW := k.nW
    simp only [vsAll, loadA, loadRow, partA, partOk, okAll, stAll, opsA, opA, dstOk, argFr, Nat.reduceLT, Nat.reduceEqDiff, Int.reduceNeg, ↓reduceIte, eq_self, wtAll]
    refine callK (made_tri p N b _ k hb.1 hb.2) ?_
    rintro r H' ⟨rfl, l, hl, rfl⟩
    obtain ⟨ell, hlr⟩ := plan_rng hl
    have epl := playE_of hl
    simp only [vsAll, loadA, loadRow, partA, partOk, fieldAddrA, okAll, stAll, opsA, opA, dstOk, nilSliceOp, Nat.reduceAdd, Nat.reduceLT, Nat.reduceEqDiff, Nat.reduceBEq, Int.reduceNeg, ↓reduceIte, eq_self, wtAll]
    refine callK_pure (Wl.wwater_tri p.ho _ k.ho.near) ?_
    simp only [vsAll, loadA, loadRow, partA, partOk, extractA, okAll, stAll, opsA, opA, dstOk, nilSliceOp, Nat.reduceAdd, Nat.reduceLT, Nat.reduceEqDiff, Nat.reduceBEq, Int.reduceNeg, ↓reduceIte, eq_self, wtAll]
    refine callK_pure (wplay_tri p l _ kn (by omega)) ?_
    simp only [vsAll, loadA, loadRow, partA, partOk, extractA, okAll, stAll, opsA, opA, dstOk, nilSliceOp, Nat.reduceAdd, Nat.reduceLT, Nat.reduceEqDiff, Nat.reduceBEq, Int.reduceNeg, ↓reduceIte, eq_self, wtAll]
    refine callK_pure (flo_tri p l _ kn (by omega)) ?_
    simp only [vsAll, loadA, loadRow, partA, partOk, extractA, okAll, stAll, opsA, opA, dstOk, nilSliceOp, Nat.reduceAdd, Nat.reduceLT, Nat.reduceEqDiff, Nat.reduceBEq, Int.reduceNeg, ↓reduceIte, eq_self, wtAll]
    refine callK_pure (los_tri p l _ kn (by omega)) ?_
    rcases err_cases k with ⟨hA, he⟩ | ⟨hA, he⟩
    · obtain ⟨e1, e2⟩ := water_no k hA
      rw [he] at epl
      have e3 : losE p l = 10 := by unfold losE; rw [if_neg (by omega), epl]
      have e4 : losV p l = 0 := if_neg (by omega)
      have e5 : floV p l = 0 := if_neg (by omega)
      have e6 : playV p l = [] := if_neg (by omega)
      simp only [vsAll, binA, binLitA, intA, extractA, lenA, pickA, opA, guardV, dstOk, nilSliceOp, Nat.reduceAdd, Nat.reduceLT, Nat.reduceEqDiff, Nat.reduceBEq, Int.reduceNeg, Int.reduceEq, ↓reduceIte, implies_true, eq_self, wtAll, e1, e2, e3, e4, e5, e6, epl, Int.natCast_zero]
      refine gcall (boo true) (fun hg => ⟨by simp only [vsAll, opA], by simp only [okAll, opsA], awake_tri _⟩) ?_
      simp only [vsAll, pickA, opA, dstOk, nilSliceOp, resA, retA.eq_1, Nat.reduceLT, Nat.reduceEqDiff, Nat.reduceBEq, Int.reduceNeg, ↓reduceIte, implies_true, eq_self, Try.results4]
      exact dropR_pure rfl HSub_rfl
    · obtain ⟨e1, e2, e3, e4, e5, e6⟩ := water_ok k hA
      rw [he] at epl
      have hd : decide (((waterV p.ho).length : Int) = 0) = false := decide_eq_false (by omega)
      obtain ⟨g1, g2⟩ := play_at epl
      have hst := start_rng p
      have hcases : (floV p l = 2 ∧ losE p l = 4 ∧ losV p l = 0 ∧ ∀ i, i < l.length → watV p l false (i + 1) ≤ p.ca) ∨ ((floV p l = 1 ∨ floV p l = 0 ∧ ∃ i, i < l.length ∧ p.ca < watV p l true (i + 1)) ∧ losE p l = 0 ∧ ∃ i : Nat, losV p l = (i : Int) ∧ i < l.length ∧ ∀ j, j < i → watV p l false (j + 1) ≤ p.ca) := by
        rcases los_cases epl with ⟨s1, s2, s3⟩ | ⟨s1, s2, i, s3, s4, _, s6⟩
        · rcases flo_cases epl with ⟨t1, t2⟩ | ⟨t1, t2, _⟩ | ⟨t1, t2, _⟩
          · exact .inl ⟨t1, s2, s3, (safe_iff p l).1 s1⟩
          · rw [s1] at t2; cases t2
          · rw [s1] at t2; cases t2
        · rcases flo_cases epl with ⟨t1, t2⟩ | ⟨t1, t2, _⟩ | ⟨t1, t2, t3⟩
          · rw [s1] at t2; cases t2
          · exact .inr ⟨.inl t1, s2, i, s3, s4, s6⟩
          · exact .inr ⟨.inr ⟨t1, t3⟩, s2, i, s3, s4, s6⟩
      simp only [vsAll, binA, binLitA, intA, extractA, lenA, cellA, cellsA, pickA, okAll, stAll, opsA, opA, allocA, newCells, okCells, storeObj, guardV, dstOk, nilSliceOp, Nat.reduceAdd, Nat.reduceLT, Nat.reduceEqDiff, Nat.reduceBEq, Int.reduceNeg, ↓reduceIte, implies_true, eq_self, wtAll, e1, epl, hd]
      intro i16 hh_i16; (try simp only [Hp.set_none, ite_none] at hh_i16)
      generalize waterV p.ho = A at e2 e3 e4 e5 e6 hd ⊢
      refine ⟨by simp only [InR_i64]; ((try clear hh_i16); omega), callK_pure (span_tri 0 ((A.length : Int) - 1) _) ?_⟩
      simp only [vsAll, okAll, stAll, opsA, opA, dstOk, Nat.reduceLT, Nat.reduceEqDiff, Int.reduceNeg, ↓reduceIte, eq_self]
      refine callK (draw_tri M tr i16 0 0 ((A.length : Int) - 1) _ ht.1 ht.2 (Hp.set_same _ _ _) (by decide) (by decide) (by ((try clear hh_i16); omega)) (by ((try clear hh_i16); omega))) ?_
      rintro r H'' ⟨rfl, z, hz1, hz2, rfl⟩
      obtain ⟨z, rfl⟩ : ∃ q : Nat, z = (q : Int) := ⟨z.toNat, by ((try clear hh_i16); omega)⟩
      have hzA : z < A.length := by ((try clear hh_i16); omega)
      have e5z := e5 z hzA
      have hs1 := hst true
      have hs2 := hst false
      simp only [vsAll, loadA, loadRow, partA, partOk, indexAddrA, okAll, stAll, opsA, opA, dstOk, Nat.reduceLT, Nat.reduceEqDiff, Int.reduceNeg, ↓reduceIte, eq_self, wtAll]
      rw [Hp.set_set, Hp.set_set]
      refine ⟨⟨by ((try clear hh_i16); omega), by ((try clear hh_i16); omega)⟩, hzA, callK (draw_tri M tr i16 1 (A.getD z (0, 0)).1 (A.getD z (0, 0)).2 _ ht.1 ht.2 (Hp.set_same _ _ _) (by decide) (by ((try clear hh_i16); omega)) (by ((try clear hh_i16); omega)) (by ((try clear hh_i16); omega))) ?_⟩
      rintro r H'' ⟨rfl, w, hw1, hw2, rfl⟩
      rw [Hp.set_set]
      have hw : startV p true ≤ w ∧ w ≤ startV p false := by ((try clear hh_i16); omega)
      clear hw1 hw2 e5z hzA e5 e4 e3 e6 hd hz1 hz2 e2
      simp only [vsAll, loadA, loadRow, partA, partOk, fieldAddrA, lenA, opA, dstOk, nilA, nilSliceOp, Nat.reduceAdd, Nat.reduceLT, Nat.reduceEqDiff, Nat.reduceBEq, Int.reduceNeg, ↓reduceIte, eq_self, wtAll]
      intro ia hh_ia; (try simp only [ite_none] at hh_ia); intro ib hh_ib; (try simp only [ite_none] at hh_ib)
      have hne : ¬ ia = ib ∧ ¬ ib = ia := by simp_all
      have hia : H' ia = none ∧ ¬ ia = i16 ∧ ¬ i16 = ia := by simp_all
      have hib : H' ib = none ∧ ¬ ib = i16 ∧ ¬ i16 = ib := by simp_all
      refine vs_loop (σ := Nat × List Int) (fun y => y.1 ≤ p.fl.length ∧ y.2.length = y.1 ∧ ∀ j, j < y.1 → flowV p j true ≤ y.2.getD j 0 ∧ y.2.getD j 0 ≤ flowV p j false)
        (fun y => [(3, pptr p), (7, intsAV l), (10, spansAV (playV p l)), (11, i64 0), (12, i64 (floV p l)), (13, i64 0), (14, i64 (losV p l)), (15, i64 (losE p l)), (17, drF M tr i16), (18, i64 w), (19, .sl ia 1 y.1), (20, .sl ib 1 0), (113, spansAV p.fl), (114, i64 p.fl.length), (115, i64 y.1)])
        (fun y => ((H'.set i16 (.box 1 1 fun _ => [i64 ((2 + y.1 : Nat) : Int)])).set ia (.row 1 y.1 (intF y.2))).set ib (.row 1 0 (intF [])))
        (fun y => p.fl.length - y.1) (0, []) ⟨Nat.zero_le _, rfl, fun j hj => absurd hj (Nat.not_lt_zero j)⟩ ?_ ?_ fun y hy => ?_
      · simp only [vsAll, Nat.reduceEqDiff, ↓reduceIte, eq_self, Int.natCast_zero]
      · refine HSub_put (o' := .row 1 0 fun _ => []) (by simp only [vsAll, ↓reduceIte, eq_self]; try rfl) (row_ext fun q hq => absurd hq (Nat.not_lt_zero q)) ?_
        refine HSub_put (o' := .row 1 0 fun _ => []) (by simp only [vsAll, ↓reduceIte, eq_self, hh_ib]; try rfl) (row_ext fun q hq => absurd hq (Nat.not_lt_zero q)) ?_
        refine HSub_put_eq (by simp only [vsAll, ↓reduceIte, eq_self, hh_ia, hh_ib]; try rfl) ?_
        exact HSub_drop2 hib.1 (HSub_drop2 hia.1 (HSub_drop2 hh_i16 HSub_rfl))
      · obtain ⟨i, f⟩ := y
        obtain ⟨hi, hfl, hf⟩ := hy
        simp only [] at hi hfl hf
        have happ : ∀ w : Int, appF i 1 (intF f) (fun q => [[i64 w]].getD q []) = intF (f ++ [w]) := fun w => app_ints' hfl w _ rfl
        simp only [vsAll, binA, binLitA, intA, opA, dstOk, Nat.reduceLT, Nat.reduceEqDiff, Int.reduceNeg, ↓reduceIte, eq_self]
        refine condD (fun hd => ?_) (fun hd => ?_)
        · have his : i < p.fl.length := by ((try clear hh_i16); (try clear hh_ia); (try clear hh_ib); omega)
          have hfi := flow_rng k his
          have efl : ∀ b, flowV p i b = if b = true then (p.fl.getD i (0, 0)).1 else (p.fl.getD i (0, 0)).2 := fun b => rfl
          have hft := efl true
          have hff := efl false
          simp only [if_true, Bool.false_eq_true, if_false] at hft hff
          have hki := k.f i his
          unfold okF at hki
          simp only [vsAll, loadA, loadRow, partA, partOk, indexAddrA, cellA, okAll, stAll, opsA, opA, allocA, newCells, okCells, storeObj, dstOk, Nat.reduceAdd, Nat.reduceLT, Nat.reduceEqDiff, Int.reduceNeg, ↓reduceIte, eq_self, wtAll, spanF_at]
          refine ⟨⟨by ((try clear hh_i16); (try clear hh_ia); (try clear hh_ib); omega), by ((try clear hh_i16); (try clear hh_ia); (try clear hh_ib); omega)⟩, his, ?_⟩
          intro i22 hh_i22; (try simp only [ite_none] at hh_i22)
          refine callK (draw_tri M tr i16 (2 + i) (p.fl.getD i (0, 0)).1 (p.fl.getD i (0, 0)).2 _ ht.1 ht.2 (by simp only [vsAll, ↓reduceIte, eq_self, hh_ia, hh_ib, hh_i22]; try rfl) (by ((try clear hh_i16); (try clear hh_ia); (try clear hh_ib); (try clear hh_i22); omega)) (by ((try clear hh_i16); (try clear hh_ia); (try clear hh_ib); (try clear hh_i22); omega)) (by ((try clear hh_i16); (try clear hh_ia); (try clear hh_ib); (try clear hh_i22); omega)) (by ((try clear hh_i16); (try clear hh_ia); (try clear hh_ib); (try clear hh_i22); omega))) ?_
          rintro r H'' ⟨rfl, x, hx1, hx2, rfl⟩
          simp only [vsAll, binA, binLitA, intA, cellA, cellsA, okParts, buildSliceA, partIdx, elemsA, lensA, partsA, partsOk, opA, appendA, dstOk, nilSliceOp, Nat.reduceMul, Nat.reduceLT, Nat.reduceLeDiff, Nat.reduceEqDiff, Nat.reduceBEq, Int.reduceNeg, ↓reduceIte, eq_self, wtAll, hh_ia, hh_ib, hh_i22]
          refine ⟨fun q hq => by (have : q = 0 := by ((try clear hh_i16); (try clear hh_ia); (try clear hh_ib); (try clear hh_i22); omega)); subst this; exact ⟨rfl, trivial⟩, by ((try clear hh_i16); (try clear hh_ia); (try clear hh_ib); (try clear hh_i22); omega), by ((try clear hh_i16); (try clear hh_ia); (try clear hh_ib); (try clear hh_i22); omega), by simp only [InR_i64]; ((try clear hh_i16); (try clear hh_ia); (try clear hh_ib); (try clear hh_i22); omega), loop_next (i + 1, f ++ [x]) ⟨by simp only []; ((try clear hh_i16); (try clear hh_ia); (try clear hh_ib); (try clear hh_i22); omega), by simp [hfl], fun j hj => ?_⟩ (by simp only []; ((try clear hh_i16); (try clear hh_ia); (try clear hh_ib); (try clear hh_i22); omega)) ?_ ?_⟩
          · by_cases e : j = i
            · subst e
              have : (f ++ [x]).getD j 0 = x := by simp [List.getD_eq_getElem?_getD, ← hfl]
              rw [this]
              ((try clear hh_i16); (try clear hh_ia); (try clear hh_ib); (try clear hh_i22); omega)
            · have : (f ++ [x]).getD j 0 = f.getD j 0 := by rw [List.getD_eq_getElem?_getD, List.getD_eq_getElem?_getD, List.getElem?_append_left (by ((try clear hh_i16); (try clear hh_ia); (try clear hh_ib); (try clear hh_i22); omega))]
              rw [this]
              exact hf j (by ((try clear hh_i16); (try clear hh_ia); (try clear hh_ib); (try clear hh_i22); omega))
          · simp only [vsAll, Nat.reduceEqDiff, ↓reduceIte, eq_self, Int.natCast_add, Int.natCast_one]
          · rw [happ]
            refine HSub_put_eq (by simp only [vsAll, ↓reduceIte, eq_self, hh_ib, hh_i22]; try rfl) ?_
            refine HSub_put_eq (by simp only [vsAll, ↓reduceIte, eq_self]; try rfl) ?_
            refine HSub_put_eq (by simp only [vsAll, ↓reduceIte, eq_self, hh_ia]; try rfl) ?_
            exact HSub_drop2 hia.1 (HSub_drop2 hh_i16 (HSub_drop2 (by simp only [eq_self, hh_i22]) (HSub_drop2 (by simp only [eq_self, hh_i22]) (HSub_drop2 hib.1 (HSub_drop2 hia.1 (HSub_drop2 hh_i16 HSub_rfl))))))
        · have ei : i = p.fl.length := by ((try clear hh_i16); (try clear hh_ia); (try clear hh_ib); omega)
          subst ei
          simp only [vsAll, loadA, loadRow, partA, partOk, fieldAddrA, lenA, opA, dstOk, Nat.reduceLT, Nat.reduceEqDiff, Int.reduceNeg, ↓reduceIte, eq_self, wtAll]
          refine vs_loop (σ := Nat × List Int) (fun y => y.1 ≤ p.ws.length ∧ y.2.length = y.1 ∧ ∀ j, j < y.1 → (p.wt j).lo ≤ y.2.getD j 0 ∧ y.2.getD j 0 ≤ (p.wt j).hi)
            (fun y => [(3, pptr p), (7, intsAV l), (10, spansAV (playV p l)), (11, i64 0), (12, i64 (floV p l)), (13, i64 0), (14, i64 (losV p l)), (15, i64 (losE p l)), (17, drF M tr i16), (18, i64 w), (19, .sl ia 1 p.fl.length), (20, .sl ib 1 y.1), (127, wsAV p.ws), (128, i64 p.ws.length), (129, i64 y.1)])
            (fun y => ((H'.set i16 (.box 1 1 fun _ => [i64 ((2 + p.fl.length + y.1 : Nat) : Int)])).set ia (.row 1 p.fl.length (intF f))).set ib (.row 1 y.1 (intF y.2)))
            (fun y => p.ws.length - y.1) (0, []) ⟨Nat.zero_le _, rfl, fun j hj => absurd hj (Nat.not_lt_zero j)⟩ ?_ HSub_rfl fun y hy => ?_
          · simp only [vsAll, Nat.reduceEqDiff, ↓reduceIte, eq_self, Int.natCast_zero]
          · obtain ⟨i, s⟩ := y
            obtain ⟨hi, hsl, hs⟩ := hy
            simp only [] at hi hsl hs
            have happ : ∀ w : Int, appF i 1 (intF s) (fun q => [[i64 w]].getD q []) = intF (s ++ [w]) := fun w => app_ints' hsl w _ rfl
            simp only [vsAll, binA, binLitA, intA, opA, dstOk, Nat.reduceLT, Nat.reduceEqDiff, Int.reduceNeg, ↓reduceIte, eq_self]
            refine condD (fun hd => ?_) (fun hd => ?_)
            · have his : i < p.ws.length := by ((try clear hh_i16); (try clear hh_ia); (try clear hh_ib); omega)
              have hki := k.m.wt his
              have ewi : p.ws.getD i wt0 = p.wt i := rfl
              simp only [vsAll, loadA, loadRow, partA, partOk, fieldAddrA, indexAddrA, cellA, okAll, stAll, opsA, opA, allocA, newCells, okCells, storeObj, dstOk, Nat.reduceAdd, Nat.reduceLT, Nat.reduceLeDiff, Nat.reduceEqDiff, Int.reduceNeg, ↓reduceIte, eq_self, wtAll, wsF_at, ewi]
              refine ⟨⟨by ((try clear hh_i16); (try clear hh_ia); (try clear hh_ib); omega), by ((try clear hh_i16); (try clear hh_ia); (try clear hh_ib); omega)⟩, his, ?_⟩
              intro i24 hh_i24; (try simp only [ite_none] at hh_i24)
              refine callK (draw_tri M tr i16 (2 + p.fl.length + i) (p.wt i).lo (p.wt i).hi _ ht.1 ht.2 (by simp only [vsAll, ↓reduceIte, eq_self, hh_ia, hh_ib, hh_i24]; try rfl) (by ((try clear hh_i16); (try clear hh_ia); (try clear hh_ib); (try clear hh_i24); omega)) (by ((try clear hh_i16); (try clear hh_ia); (try clear hh_ib); (try clear hh_i24); omega)) (by ((try clear hh_i16); (try clear hh_ia); (try clear hh_ib); (try clear hh_i24); omega)) (by ((try clear hh_i16); (try clear hh_ia); (try clear hh_ib); (try clear hh_i24); omega))) ?_
              rintro r H'' ⟨rfl, x, hx1, hx2, rfl⟩
              simp only [vsAll, binA, binLitA, intA, cellA, cellsA, okParts, buildSliceA, partIdx, elemsA, lensA, partsA, partsOk, opA, appendA, dstOk, nilSliceOp, Nat.reduceMul, Nat.reduceLT, Nat.reduceLeDiff, Nat.reduceEqDiff, Nat.reduceBEq, Int.reduceNeg, ↓reduceIte, eq_self, wtAll, hh_ib, hh_i24]
              refine ⟨fun q hq => by (have : q = 0 := by ((try clear hh_i16); (try clear hh_ia); (try clear hh_ib); (try clear hh_i24); omega)); subst this; exact ⟨rfl, trivial⟩, by ((try clear hh_i16); (try clear hh_ia); (try clear hh_ib); (try clear hh_i24); omega), by ((try clear hh_i16); (try clear hh_ia); (try clear hh_ib); (try clear hh_i24); omega), by simp only [InR_i64]; ((try clear hh_i16); (try clear hh_ia); (try clear hh_ib); (try clear hh_i24); omega), loop_next (i + 1, s ++ [x]) ⟨by simp only []; ((try clear hh_i16); (try clear hh_ia); (try clear hh_ib); (try clear hh_i24); omega), by simp [hsl], fun j hj => ?_⟩ (by simp only []; ((try clear hh_i16); (try clear hh_ia); (try clear hh_ib); (try clear hh_i24); omega)) ?_ ?_⟩
              · by_cases e : j = i
                · subst e
                  have : (s ++ [x]).getD j 0 = x := by simp [List.getD_eq_getElem?_getD, ← hsl]
                  rw [this]
                  ((try clear hh_i16); (try clear hh_ia); (try clear hh_ib); (try clear hh_i24); omega)
                · have : (s ++ [x]).getD j 0 = s.getD j 0 := by rw [List.getD_eq_getElem?_getD, List.getD_eq_getElem?_getD, List.getElem?_append_left (by ((try clear hh_i16); (try clear hh_ia); (try clear hh_ib); (try clear hh_i24); omega))]
                  rw [this]
                  exact hs j (by ((try clear hh_i16); (try clear hh_ia); (try clear hh_ib); (try clear hh_i24); omega))
              · simp only [vsAll, Nat.reduceEqDiff, ↓reduceIte, eq_self, Int.natCast_add, Int.natCast_one]
              · rw [happ]
                refine HSub_put_eq (by simp only [vsAll, ↓reduceIte, eq_self]; try rfl) ?_
                refine HSub_put_eq (by simp only [vsAll, ↓reduceIte, eq_self, hh_ia, hh_ib, hh_i24]; try rfl) ?_
                refine HSub_put_eq (by simp only [vsAll, ↓reduceIte, eq_self, hh_ib]; try rfl) ?_
                exact HSub_drop2 hib.1 (HSub_drop2 hh_i16 (HSub_drop2 (by simp only [eq_self, hh_i24]) (HSub_drop2 (by simp only [eq_self, hh_i24]) (HSub_drop2 hib.1 (HSub_drop2 hia.1 (HSub_drop2 hh_i16 HSub_rfl))))))
            · have ei : i = p.ws.length := by ((try clear hh_i16); (try clear hh_ia); (try clear hh_ib); omega)
              subst ei
              have hf0 : ∀ i, i < f.length → 0 ≤ f.getD i 0 ∧ f.getD i 0 ≤ 40 := fun i hi => by
                have h1 := hf i (by ((try clear hh_i16); (try clear hh_ia); (try clear hh_ib); omega))
                have h2 := flow_rng k (i := i) (by ((try clear hh_i16); (try clear hh_ia); (try clear hh_ib); omega)) true
                have h3 := flow_rng k (i := i) (by ((try clear hh_i16); (try clear hh_ia); (try clear hh_ib); omega)) false
                ((try clear hh_i16); (try clear hh_ia); (try clear hh_ib); omega)
              have hs0 : ∀ i, i < s.length → 0 ≤ s.getD i 0 ∧ s.getD i 0 ≤ 40 := fun i hi => by
                have h1 := hs i (by ((try clear hh_i16); (try clear hh_ia); (try clear hh_ib); omega))
                have h2 := (k.m.wt (w := i) (by ((try clear hh_i16); (try clear hh_ia); (try clear hh_ib); omega))).1
                ((try clear hh_i16); (try clear hh_ia); (try clear hh_ib); omega)
              have hws := tr_rng (p := p) (l := l) (w := w) (f := fun i => f.getD i 0) (st := fun i => s.getD i 0) (n := p.fl.length) hlr hw hf hs
              generalize hg : (fun i => trV p l w (fun i => f.getD i 0) (fun i => s.getD i 0) (i + 1)) = g
              have hown : ∀ i, i < l.length → (truL p l w (fun i => f.getD i 0) (fun i => s.getD i 0) l.length).getD i 0 = g i := fun i hi => by rw [tru_at _ _ _ _ _ hi, ← hg]
              have hgr : ∀ i, i < l.length → watV p l true (i + 1) ≤ g i ∧ g i ≤ watV p l false (i + 1) := fun i hi => by
                have := hws (i + 1) (by ((try clear hh_i16); (try clear hh_ia); (try clear hh_ib); omega))
                rw [← hg]
                exact this
              have hlen := tru_len p l w (fun i => f.getD i 0) (fun i => s.getD i 0) l.length
              simp only [vsAll, loadA, loadRow, partA, partOk, okAll, stAll, opsA, opA, dstOk, Nat.reduceLT, Nat.reduceEqDiff, Int.reduceNeg, ↓reduceIte, eq_self, wtAll]
              refine callK (tri_freezeD (args' := [p.av, intsAV l, i64 w, .sl ia 1 p.fl.length, intsAV s]) (id := ib) (st := 1) (n := p.ws.length) (f := intF s) (Hp.set_same _ _ _) rfl (fun q hq => ?_)
                (tri_freezeD (args' := [p.av, intsAV l, i64 w, intsAV f, intsAV s]) (id := ia) (st := 1) (n := p.fl.length) (f := intF f) (by rw [Hp.del_ne _ hne.1, Hp.set_ne _ _ hne.1, Hp.set_same]) rfl (fun q hq => ?_) (truly_tri p l w f s _ k hl (by ((try clear hh_i16); (try clear hh_ia); (try clear hh_ib); omega)) (by ((try clear hh_i16); (try clear hh_ia); (try clear hh_ib); omega)) hf0 (by ((try clear hh_i16); (try clear hh_ia); (try clear hh_ib); omega)) hs0))) ?_
              · match q, hq with
                | 0, _ => exact .same _
                | 1, _ => exact .same _
                | 2, _ => exact .same _
                | 3, _ => exact .same _
                | 4, _ =>
                  show FrzD ib 1 p.ws.length _ (.sl ib 1 p.ws.length) (.rsl s.length 1 (intF s))
                  rw [hsl]
                  exact .hit fun _ _ => rfl
              · match q, hq with
                | 0, _ => exact .same _
                | 1, _ => exact .same _
                | 2, _ => exact .same _
                | 3, _ =>
                  show FrzD ia 1 p.fl.length _ (.sl ia 1 p.fl.length) (.rsl f.length 1 (intF f))
                  rw [hfl]
                  exact .hit fun _ _ => rfl
                | 4, _ => exact .same _
              rintro r H'' ⟨rfl, rfl⟩
              generalize truL p l w (fun i => f.getD i 0) (fun i => s.getD i 0) l.length = O at hown hlen ⊢
              generalize losE p l = E at hcases ⊢
              generalize losV p l = L at hcases ⊢
              generalize floV p l = F at hcases ⊢
              have hz : (!decide (E = 4) == decide (F = 2) || !decide (E = 0) && (!decide (E = 4) || !decide (L = 0))) = false := by
                rcases hcases with ⟨rfl, rfl, rfl, _⟩ | ⟨h | ⟨h, _⟩, rfl, _⟩
                · rfl
                · rw [h]; rfl
                · rw [h]; rfl
              simp only [vsAll, binA, binLitA, intA, boolA, lenA, pickA, opA, guardV, dstOk, nilSliceOp, Nat.reduceLT, Nat.reduceEqDiff, Nat.reduceBEq, Int.reduceNeg, ↓reduceIte, implies_true, eq_self, wtAll, g1]
              refine ⟨fun g => ⟨g, fun g2 => by rw [g, g2]; rfl⟩, fun g => ⟨g, fun g2 => by rw [g, g2]; rfl⟩, ?_⟩
              rw [hz]
              simp only [vsAll, lenA, opA, dstOk, nilSliceOp, Nat.reduceLT, Nat.reduceEqDiff, Nat.reduceBEq, Int.reduceNeg, ↓reduceIte, eq_self, wtAll]
              refine vs_loop (σ := Nat) (fun i => i ≤ l.length)
                (fun i => [(3, pptr p), (7, intsAV l), (10, spansAV (playV p l)), (12, i64 F), (14, i64 L), (15, i64 E), (26, i64 (lstI p.ca g i)), (179, intsAV O), (180, i64 O.length), (181, i64 i)])
                (fun _ => H') (fun i => l.length - i) 0 (Nat.zero_le _) ?_ ?_ fun i hi => ?_
              · simp only [vsAll, Nat.reduceEqDiff, Int.reduceNeg, ↓reduceIte, eq_self, Int.natCast_zero, lstI]
              · exact HSub_del hia.1 (HSub_del hib.1 (HSub_drop2 hib.1 (HSub_drop2 hia.1 (HSub_drop2 hh_i16 HSub_rfl))))
              · have hls := lst_cases p.ca g i
                have hnx : lstI p.ca g (i + 1) = if lstI p.ca g i < 0 ∧ p.ca < g i then (i : Int) else lstI p.ca g i := rfl
                generalize lstI p.ca g i = Z at hls hnx
                rw [hlen]
                simp only [vsAll, binA, binLitA, intA, opA, dstOk, Nat.reduceLT, Nat.reduceEqDiff, ↓reduceIte, eq_self]
                refine condD (fun hd => ?_) (fun hd => ?_)
                · have his : i < l.length := by ((try clear hh_i16); (try clear hh_ia); (try clear hh_ib); omega)
                  have hoi := hown i his
                  have hgi := hgr i his
                  have hpi := g2 i his
                  have d1 : decide (g i < watV p l true (i + 1)) = false := decide_eq_false (by ((try clear hh_i16); (try clear hh_ia); (try clear hh_ib); omega))
                  have d2 : decide (watV p l false (i + 1) < g i) = false := decide_eq_false (by ((try clear hh_i16); (try clear hh_ia); (try clear hh_ib); omega))
                  simp only [vsAll, binA, binLitA, intA, loadA, loadRow, partA, partOk, fieldAddrA, indexAddrA, pickA, opA, guardV, dstOk, nilSliceOp, Nat.reduceLT, Nat.reduceEqDiff, Nat.reduceBEq, ↓reduceIte, implies_true, eq_self, wtAll, intF_at, spanF_at, hoi, hpi, g1, hlen]
                  refine ⟨⟨by ((try clear hh_i16); (try clear hh_ia); (try clear hh_ib); omega), by ((try clear hh_i16); (try clear hh_ia); (try clear hh_ib); omega)⟩, his, ⟨by ((try clear hh_i16); (try clear hh_ia); (try clear hh_ib); omega), by ((try clear hh_i16); (try clear hh_ia); (try clear hh_ib); omega)⟩, his, fun g => ⟨g, g, by ((try clear hh_i16); (try clear hh_ia); (try clear hh_ib); omega), by ((try clear hh_i16); (try clear hh_ia); (try clear hh_ib); omega)⟩, fun g => ⟨g, his⟩, ?_⟩
                  rw [d1, d2]
                  simp only [vsAll, binA, binLitA, intA, loadA, loadRow, partA, partOk, fieldAddrA, pickA, opA, guardV, dstOk, Nat.reduceLT, Nat.reduceEqDiff, ↓reduceIte, implies_true, eq_self, wtAll]
                  refine condV (fun hc2 => ?_) (fun hc2 => ?_)
                  · rw [Bool.and_eq_true, decide_eq_true_eq, decide_eq_true_eq] at hc2
                    rw [if_pos hc2] at hnx
                    simp only [vsAll, binA, binLitA, intA, opA, dstOk, nilSliceOp, Nat.reduceLT, Nat.reduceEqDiff, Nat.reduceBEq, ↓reduceIte, eq_self]
                    refine ⟨by simp only [InR_i64]; ((try clear hh_i16); (try clear hh_ia); (try clear hh_ib); omega), loop_next (i + 1) (by ((try clear hh_i16); (try clear hh_ia); (try clear hh_ib); omega)) (by ((try clear hh_i16); (try clear hh_ia); (try clear hh_ib); omega)) ?_ HSub_rfl⟩
                    simp only [vsAll, Nat.reduceEqDiff, ↓reduceIte, eq_self, hnx, Int.natCast_add, Int.natCast_one]
                  · rw [Bool.and_eq_false_iff, decide_eq_false_iff_not, decide_eq_false_iff_not] at hc2
                    rw [if_neg fun h => by rcases hc2 with h2 | h2; exact h2 h.1; exact h2 h.2] at hnx
                    simp only [vsAll, binA, binLitA, intA, opA, dstOk, Nat.reduceLT, Nat.reduceEqDiff, ↓reduceIte, eq_self]
                    refine ⟨by simp only [InR_i64]; ((try clear hh_i16); (try clear hh_ia); (try clear hh_ib); omega), loop_next (i + 1) (by ((try clear hh_i16); (try clear hh_ia); (try clear hh_ib); omega)) (by ((try clear hh_i16); (try clear hh_ia); (try clear hh_ib); omega)) ?_ HSub_rfl⟩
                    simp only [vsAll, Nat.reduceEqDiff, ↓reduceIte, eq_self, hnx, Int.natCast_add, Int.natCast_one]
                · have ei : i = l.length := by ((try clear hh_i16); (try clear hh_ia); (try clear hh_ib); omega)
                  subst ei
                  have hz1 : (decide (F = 2) && decide (0 ≤ Z) || decide (F = 0) && decide (Z < 0)) = false := by
                    rw [Bool.or_eq_false_iff, Bool.and_eq_false_iff, Bool.and_eq_false_iff, decide_eq_false_iff_not, decide_eq_false_iff_not, decide_eq_false_iff_not, decide_eq_false_iff_not]
                    rcases hcases with ⟨h1, _, _, h2⟩ | ⟨h1 | ⟨h1, j, h2, h3⟩, _⟩
                    · refine ⟨.inr fun h => ?_, .inl (by ((try clear hh_i16); (try clear hh_ia); (try clear hh_ib); omega))⟩
                      rcases hls with ⟨a1, _⟩ | ⟨j, a1, a2, a3, _⟩
                      · ((try clear hh_i16); (try clear hh_ia); (try clear hh_ib); omega)
                      · have := h2 j a2; have := hgr j a2; ((try clear hh_i16); (try clear hh_ia); (try clear hh_ib); omega)
                    · exact ⟨.inl (by ((try clear hh_i16); (try clear hh_ia); (try clear hh_ib); omega)), .inl (by ((try clear hh_i16); (try clear hh_ia); (try clear hh_ib); omega))⟩
                    · refine ⟨.inl (by ((try clear hh_i16); (try clear hh_ia); (try clear hh_ib); omega)), .inr fun h => ?_⟩
                      rcases hls with ⟨a1, a2⟩ | ⟨j, a1, _⟩
                      · have := a2 j h2; have := hgr j h2; ((try clear hh_i16); (try clear hh_ia); (try clear hh_ib); omega)
                      · ((try clear hh_i16); (try clear hh_ia); (try clear hh_ib); omega)
                  have hz2 : (!decide (E = 0) || (decide (0 ≤ L) && decide (L < (l.length : Int)) && (decide (Z < 0) || decide (L ≤ Z)))) = true := by
                    rcases hcases with ⟨_, rfl, _⟩ | ⟨_, rfl, j, rfl, h2, h3⟩
                    · rfl
                    · rw [decide_eq_true (by ((try clear hh_i16); (try clear hh_ia); (try clear hh_ib); omega) : (0 : Int) ≤ j), decide_eq_true (by ((try clear hh_i16); (try clear hh_ia); (try clear hh_ib); omega) : (j : Int) < l.length)]
                      have : (decide (Z < 0) || decide ((j : Int) ≤ Z)) = true := by
                        rw [Bool.or_eq_true, decide_eq_true_eq, decide_eq_true_eq]
                        rcases hls with ⟨a1, _⟩ | ⟨q, a1, a2, a3, _⟩
                        · left; ((try clear hh_i16); (try clear hh_ia); (try clear hh_ib); omega)
                        · right
                          apply Classical.byContradiction
                          intro hlt
                          have := h3 q (by ((try clear hh_i16); (try clear hh_ia); (try clear hh_ib); omega))
                          have := hgr q a2
                          ((try clear hh_i16); (try clear hh_ia); (try clear hh_ib); omega)
                      rw [this]; rfl
                  simp only [vsAll, binA, binLitA, intA, pickA, opA, guardV, dstOk, Nat.reduceLT, Nat.reduceEqDiff, ↓reduceIte, implies_true, eq_self]
                  refine ⟨fun g => ⟨g, fun g2 => by rw [g, g2]; rfl⟩, ?_⟩
                  rw [hz1]
                  simp only [vsAll, binA, binLitA, intA, lenA, pickA, opA, guardV, dstOk, Nat.reduceLT, Nat.reduceEqDiff, ↓reduceIte, implies_true, eq_self, wtAll]
                  refine ⟨fun g => ⟨g, fun g2 => by rw [g, g2]; rfl⟩, fun g => ⟨g, fun g2 => by rw [g, g2]; rfl⟩, fun g => ⟨g, fun g2 => by rw [g, g2]; rfl⟩, ?_⟩
                  rw [hz2]
                  refine gcall (boo true) (fun g => ⟨trivial, by simp only [okAll, opsA], awake_tri _⟩) ?_
                  simp only [vsAll, pickA, opA, dstOk, nilSliceOp, resA, retA.eq_1, Nat.reduceLT, Nat.reduceEqDiff, Nat.reduceBEq, ↓reduceIte, implies_true, eq_self, Try.results4]
                  exact dropR_pure rfl HSub_rfl
end Go.Proofs.Ytkcgocmjaggdiaa
end
section
set_option linter.unusedVariables false
set_option linter.unusedSimpArgs false
set_option maxRecDepth 100000
namespace Go.Proofs.Ytkcgocmjaggdiaa
open Go.V Go.ChangeShapes Go.WideShapes Go.ChangeAt Go.RowKit
theorem pumpTrue_lifted (os : Os) (started : os.Started) (H : Type) (enc : TypeId × Value → H) :
    ReturnsInHanded {} Try.checked os 4 .any (Rows.pumpTrueSpec.pre6 enc Try.prog Try.f4 Rows.pumpTrueRow.domain false) (Rows.pumpTrueSpec.post enc Try.prog Try.f4 false true false false) := by
  refine returnsInHanded_of_change (C := Try.checked) Try.own started (by kernel_rfl) Try.func4
    (ChangeSpec.witness6 (enc := enc) (C := Try.checked) false ⟨#[], #[.agg #[.slice none 0 0, .int .i64 0, .slice none 0 0, .slice none 0 0, .slice none 0 0], .slice none 0 0, .slice none 0 0], []⟩ 8 (by kernel_rfl) (by kernel_rfl) (by kernel_rfl) (by kernel_rfl)) ?_
  intro W base args ds gs before hval hW hcnd _
  have hW' := hW
  obtain ⟨p, q, hA, hV, rfl, hfz, hnd⟩ := hW
  obtain ⟨rfl, rfl⟩ := trodVars_none hV
  rw [show Try.f4.params.toList = [29, 43, 44] from by kernel_rfl] at hA
  obtain ⟨v0, v1, v2, d0, d1, d2, p0, p1, p2, rfl, rfl, rfl, h0, h1, h2⟩ := trodAll_three hA
  have hval : ∀ (j : Nat) t v, Try.f4.params[j]? = some t → (#[v0, v1, v2] : Array Value)[j]? = some v → Value.okWide Try.prog W .any base t v := hval
  rw [show Try.f4.params = #[29, 43, 44] from by kernel_rfl] at hval
  obtain ⟨x0, b0, r0⟩ := pump_rel (hval 0 29 v0 rfl rfl) h0
  obtain ⟨N1, x1, b1, r1⟩ := by_rel (hval 1 43 v1 rfl rfl) h1
  obtain ⟨N2, x2, b2, r2⟩ := wy_rel (hval 2 44 v2 rfl rfl) h2
  refine (law_calls (W := W) (args := #[v0, v1, v2]) Try.func4 (by kernel_rfl) rfl (Tri.mono (true_law x0 N1 x1 N2 x2 H0 b1 b2) ?_) (fun p hp => by cases hp) ⟨rfl, fun k hk => match k, hk with | 0, _ => r0 | 1, _ => r1 | 2, _ => r2⟩).mono fun e W' he => ?_
  · rintro r H' ⟨rfl, _⟩; rfl
  · obtain ⟨rfl, hh, ho, hp⟩ := he
    exact ⟨_, rfl, law_post (d := 6) rfl (tb := 4) (by kernel_rfl) u4 (by decide +kernel) hW' rfl hh ho hp⟩

theorem pumpTrue_holds : Rows.PumpTrueSaid :=
  OpenClaim.holds_of_wide (p := Try.pinned) (s := Rows.pumpTrueSpec) (c := Rows.pumpTrueRow) 4 Try.f4 rfl rfl rfl rfl rfl rfl rfl ⟨rfl, rfl, rfl, rfl, rfl⟩ rfl rfl rfl rfl rfl (by kernel_rfl) Try.func4 (by kernel_rfl)
    (of_decide_eq_true (by kernel_rfl)) (by unfold Func.isWrapper; first | (rw [if_pos (by decide +kernel)]; kernel_rfl) | (rw [if_neg (by decide +kernel)]; exact ⟨rfl, rfl⟩))
    (fun os started H enc _ => pumpTrue_lifted os started H enc)

end Go.Proofs.Ytkcgocmjaggdiaa
end
