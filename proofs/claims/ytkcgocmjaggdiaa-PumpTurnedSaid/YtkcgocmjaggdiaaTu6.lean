/- WHAT IS PROVED: the given statement of this claim. Conditions: none beyond the given row. -/
import Derived.Test.YtkcgocmjaggdiaaTu5
section
set_option linter.unusedVariables false
set_option linter.unusedSimpArgs false
set_option maxHeartbeats 4000000
set_option maxRecDepth 100000
namespace Go.Proofs.Ytkcgocmjaggdiaa
open Go.V Wl
def rvF (p : Pu) : Nat → List AV := fun j => (p.wt (p.ws.length - 1 - j)).cs
theorem take_rev {l : List Int} (n : Nat) {i : Nat} (h : i < l.length) : (l.take (i + 1)).map (revW n) = (l.take i).map (revW n) ++ [revW n (l.getD i 0)] := by
 rw [take_snoc h, List.map_append]; rfl
abbrev rxC (x : Pu) (iw : Nat) : List AV := [spansAV x.fl, i64 x.ca, .sl iw 4 x.ws.length, flAV x.ho.n x.ho.fl, sdAV x.ho.m x.ho.sd]
/-- Behind the copying nothing is written into the copies. -/
theorem cut_rev {σ : Type} {inv : σ → Prop} {fr : σ → List (Nat × AV)} {hp : σ → Hp} {dsf : σ → List AD} {Q : Post} {sF : Fr} {A H : Hp} {B : List (Nat × AV)} (y : σ) (hy : inv y) (p x : Pu) (i6 iw ih is : Nat)
 (h6 : H i6 = none) (hw : H iw = none) (h1 : H ih = none) (h2 : H is = none) (n1 : ¬ iw = i6) (n2 : ¬ ih = i6) (n3 : ¬ is = i6) (n4 : ¬ ih = iw) (n5 : ¬ is = iw) (n6 : ¬ is = ih)
 (hS : Slots sF ((8, .sl ih 2 p.fl.length) :: (9, .sl is 4 p.ws.length) :: B)) (hf : fr y = (8, spansAV p.fl) :: (9, wsAV p.ws) :: B) (hS2 : Slots (Fr.of ((8, spansAV p.fl) :: (9, wsAV p.ws) :: B)) ((8, spansAV p.fl) :: (9, wsAV p.ws) :: B)) (hh : hp y = H.set i6 (.box 5 1 fun _ => x.cs))
 (hH : Go.V.HSub A ((((H.set iw (.row 4 x.ws.length (wsF x.ws))).set i6 (.box 5 1 fun _ => rxC x iw)).set ih (.row 2 p.fl.length (spanF p.fl))).set is (.row 4 p.ws.length (wsF p.ws)))) : CutG inv fr hp dsf Q .normal sF (dsf y) A := by
 refine cutG_ent (Ent.of _ hS hH ?_)
 refine cutG_ent (Ent.freezeS (id := ih) (st := 2) (n := p.fl.length) (f := spanF p.fl) (s' := Fr.of ((8, spansAV p.fl) :: (9, .sl is 4 p.ws.length) :: B)) ?_ (FrzL.fr (.cons (.leaf ⟨rfl, _, fun _ _ => rfl, rfl⟩) (FrzL.refl _))) ?_)
 ·rw [Hp.set_ne _ _ (fun e => n6 e.symm), Hp.set_same]
 refine cutG_ent (Ent.freezeS (id := is) (st := 4) (n := p.ws.length) (f := wsF p.ws) (s' := Fr.of ((8, spansAV p.fl) :: (9, wsAV p.ws) :: B)) ?_ (FrzL.fr (.cons (.same _) (.cons (.leaf ⟨rfl, _, fun _ _ => rfl, rfl⟩) (FrzL.refl _)))) ?_)
 ·rw [Hp.del_ne _ n6, Hp.set_same]
 refine cutG_ent (Ent.freezeBox (s' := Fr.of ((8, spansAV p.fl) :: (9, wsAV p.ws) :: B)) (id := iw) (st := 4) (n := x.ws.length) (f := wsF x.ws) (j := i6) (st' := 5) (n' := 1) (g := fun _ => rxC x iw) (g' := fun _ => x.cs) ?_ ?_ (fun t => .rfl) (fun _ _ => rfl) (fun q c hq hc => ?_) ?_)
 ·rw [Hp.del_ne _ (fun e => n5 e.symm), Hp.del_ne _ (fun e => n4 e.symm), Hp.set_ne _ _ (fun e => n5 e.symm), Hp.set_ne _ _ (fun e => n4 e.symm), Hp.set_ne _ _ n1, Hp.set_same]
 ·rw [Hp.del_ne _ (fun e => n3 e.symm), Hp.del_ne _ (fun e => n2 e.symm), Hp.set_ne _ _ (fun e => n3 e.symm), Hp.set_ne _ _ (fun e => n2 e.symm), Hp.set_same]
 ·match c, hc with
  | 0, _ => exact .rfl
  | 1, _ => exact .rfl
  | 2, _ => exact .hit
  | 3, _ => exact .rfl
  | 4, _ => exact .rfl
 refine cutG_of y hy ?_ rfl ?_
 ·rw [hf]; exact hS2
 ·rw [hh]
  intro q o hq
  by_cases e : q = i6
  ·subst e
   rw [Hp.set_same] at hq ⊢
   exact ⟨_, hq, .refl _⟩
  ·rw [Hp.set_ne _ _ e] at hq
   have e1 : q ≠ iw := fun e => by rw [e, hw] at hq; cases hq
   have e2 : q ≠ ih := fun e => by rw [e, h1] at hq; cases hq
   have e3 : q ≠ is := fun e => by rw [e, h2] at hq; cases hq
   exact ⟨o, by rw [Hp.set_ne _ _ e, Hp.del_ne _ e1, Hp.del_ne _ e3, Hp.del_ne _ e2, Hp.set_ne _ _ e3, Hp.set_ne _ _ e2, Hp.set_ne _ _ e, Hp.set_ne _ _ e1]; exact hq, .refl _⟩
theorem eq_wt : eqT Try.prog 52 4 := by
 exact eqT_nest (n0 := 2) ((Try.prog.fieldsOf 52).toList.head (by decide +kernel)) ((Try.prog.fieldsOf 52).toList.tail) (by kernel_rfl) (by kernel_rfl) (by kernel_rfl) (by kernel_rfl) (by kernel_rfl) (by kernel_rfl) (by kernel_rfl) (by kernel_rfl) (by kernel_rfl) (by kernel_rfl) (by kernel_rfl) (by kernel_rfl)
/-- Lists that are no plans. -/
def badP (n : Int) (l : List Int) : Nat → List Int
 | 0 => -1 :: l
 | 1 => l.take (l.length - 1) ++ [n]
 | _ => l.take (l.length - 1) ++ [-2]
theorem bad_playE {p : Pu} (k : Ok p) {l : List Int} (hl : planB p l = true) : ∀ i, playE p (badP p.ws.length l i) = 2
 | 0 => bad_long k hl
 | 1 => bad_last k _ (.inr (Int.le_refl _))
 | _ + 2 => bad_last k _ (.inl (by decide))
theorem bad_len (n : Int) (l : List Int) : ∀ i, (badP n l i).length ≤ l.length + 1
 | 0 => by simp [badP]
 | 1 => by simp [badP]
 | _ + 2 => by simp [badP]
theorem turned_law (p : Pu) (N : Nat) (b : Nat → Int) (H : Hp) (hb : N < 2 ^ 63 ∧ ∀ i, i < N → 0 ≤ b i ∧ b i ≤ 255) : PTri Try.prog (fnA 10) [p.av, .rsl N 1 (byF b)] H (boo true) := by
 refine Tri.drop ?_
 refine tri_w0 Try.func10 (by kernel_rfl) rfl (by simp only [List.length_append, List.length_cons, List.length_nil, Try.ntmps10]; decide) ?_
 refine wps_cutG7 (m := mset [76, 80]) (σ := Nat) (fun i6 => Ok p ∧ H i6 = none)
  (fun i6 => [(8, spansAV p.fl), (9, wsAV p.ws), (1, .rsl N 1 (byF b)), (2, pptr p), (5, i64 p.ws.length), (6, .ref i6 0 5 0 0)])
  (fun i6 => H.set i6 (.box 5 1 fun _ => (revP p).cs)) (fun _ => []) ?_ fun i6 hy => ?_
 ·simp only [vsAll, loadA, loadRow, partA, partOk, boxA, boxZ, okAll, stAll, opsA, opA, dstOk, nilSliceOp, argFr, Nat.reduceAdd, Nat.reduceLT, Nat.reduceEqDiff, Nat.reduceBEq, ↓reduceIte, eq_self, wtAll, Try.ntmps10]
  refine callK_pure (fine_tri p _) ?_
  simp only [vsAll, unA, opA, dstOk, Nat.reduceLT, ↓reduceIte, eq_self]
  refine condV (fun hc => ?_) (fun hc => ?_)
  ·simp only [vsAll, okAll, stAll, opsA, opA, dstOk, Nat.reduceLT]
   refine callK_pure (awake_tri _) ?_
   simp only [vsAll, opA, dstOk, nilSliceOp, resA, retA.eq_1, Nat.reduceLT, Nat.reduceBEq, ↓reduceIte, eq_self, Try.results10, CutG_ret]
   exact dropR_pure rfl (by (repeat (first | exact HSub_rfl | refine HSub_put_eq (by simp only [vsAll, binA, binLitA, intA, aggA, aggV, boolA, nilA2, isConst, unA, loadA, loadRow, partA, partOk, fieldAddrA, indexAddrA, indexA, fieldA, extractA, lenA, nilCheckA, boxA, boxZ, cellA, cellsA, fillA, okParts, buildSliceA, buildMutA, makeSliceA, partIdx, elemsA, lensA, ifaceA, convA, mmA, pickA, okAll, stAll, opsA, partsA, partsOk, opA, allocA, boxMutA, newCells, okCells, storeObj, appendA, guardV, taA, nM, mapUpA, lookA, sliceA, sliceM, sliceS, boundsA, opO, okO, copyA, dstOk, nilA, quietOk, nilSliceOp, deferV, panA, resA, argFr, retA.eq_1, retA.eq_2, Nat.reduceAdd, Nat.reduceSub, Nat.reduceMul, Nat.reduceLT, Nat.reduceLeDiff, Nat.reduceEqDiff, Nat.reduceBEq, Int.reduceAdd, Int.reduceSub, Int.reduceMul, Int.reduceNeg, Int.reduceLE, Int.reduceLT, Int.reduceEq, Int.reduceNe, Int.reduceToNat, ↓reduceIte, reduceCtorEq, implies_true, forall_const, eq_self, ne_eq, wtAll, Try.ntmps10, Try.results10]) ?_ | refine HSub_drop2 (by simp only [vsAll, binA, binLitA, intA, aggA, aggV, boolA, nilA2, isConst, unA, loadA, loadRow, partA, partOk, fieldAddrA, indexAddrA, indexA, fieldA, extractA, lenA, nilCheckA, boxA, boxZ, cellA, cellsA, fillA, okParts, buildSliceA, buildMutA, makeSliceA, partIdx, elemsA, lensA, ifaceA, convA, mmA, pickA, okAll, stAll, opsA, partsA, partsOk, opA, allocA, boxMutA, newCells, okCells, storeObj, appendA, guardV, taA, nM, mapUpA, lookA, sliceA, sliceM, sliceS, boundsA, opO, okO, copyA, dstOk, nilA, quietOk, nilSliceOp, deferV, panA, resA, argFr, retA.eq_1, retA.eq_2, Nat.reduceAdd, Nat.reduceSub, Nat.reduceMul, Nat.reduceLT, Nat.reduceLeDiff, Nat.reduceEqDiff, Nat.reduceBEq, Int.reduceAdd, Int.reduceSub, Int.reduceMul, Int.reduceNeg, Int.reduceLE, Int.reduceLT, Int.reduceEq, Int.reduceNe, Int.reduceToNat, ↓reduceIte, reduceCtorEq, implies_true, forall_const, eq_self, ne_eq, wtAll, Try.ntmps10, Try.results10]) ?_ | refine HSub_keep_eq (by simp only [vsAll, binA, binLitA, intA, aggA, aggV, boolA, nilA2, isConst, unA, loadA, loadRow, partA, partOk, fieldAddrA, indexAddrA, indexA, fieldA, extractA, lenA, nilCheckA, boxA, boxZ, cellA, cellsA, fillA, okParts, buildSliceA, buildMutA, makeSliceA, partIdx, elemsA, lensA, ifaceA, convA, mmA, pickA, okAll, stAll, opsA, partsA, partsOk, opA, allocA, boxMutA, newCells, okCells, storeObj, appendA, guardV, taA, nM, mapUpA, lookA, sliceA, sliceM, sliceS, boundsA, opO, okO, copyA, dstOk, nilA, quietOk, nilSliceOp, deferV, panA, resA, argFr, retA.eq_1, retA.eq_2, Nat.reduceAdd, Nat.reduceSub, Nat.reduceMul, Nat.reduceLT, Nat.reduceLeDiff, Nat.reduceEqDiff, Nat.reduceBEq, Int.reduceAdd, Int.reduceSub, Int.reduceMul, Int.reduceNeg, Int.reduceLE, Int.reduceLT, Int.reduceEq, Int.reduceNe, Int.reduceToNat, ↓reduceIte, reduceCtorEq, implies_true, forall_const, eq_self, ne_eq, wtAll, Try.ntmps10, Try.results10]) ?_)))
  ·obtain ⟨k, kn⟩ := fine_ok (by simpa using hc)
   have nF := k.nF
   have nW := k.nW
   simp only [vsAll, loadA, loadRow, partA, partOk, fieldAddrA, lenA, cellA, cellsA, opA, allocA, newCells, okCells, storeObj, dstOk, nilSliceOp, Nat.reduceAdd, Nat.reduceLT, Nat.reduceLeDiff, Nat.reduceEqDiff, Nat.reduceBEq, ↓reduceIte, eq_self, wtAll]
   intro i6 hh_i6; (try simp only [Hp.set_none, ite_none] at hh_i6)
   refine vs_entL (Ent.nilBox 4 (fun _ => []) (fun id _ => [spansAV p.fl, i64 p.ca, .sl id 4 0, flAV p.ho.n p.ho.fl, sdAV p.ho.m p.ho.sd]) (j := i6) (st' := 5) (n' := 1) (g := fun _ => [spansAV p.fl, i64 p.ca, .lit (.slice none 0 0), flAV p.ho.n p.ho.fl, sdAV p.ho.m p.ho.sd]) (by simp only [vsAll, ↓reduceIte, eq_self]) (fun _ _ _ => rfl) (fun id q d hq hd => ?_) fun iw hiw => ?_)
   ·match d, hd with
    | 0, _ => exact Nld.rfl
    | 1, _ => exact Nld.rfl
    | 2, _ => exact Nld.hit
    | 3, _ => exact Nld.rfl
    | 4, _ => exact Nld.rfl
   simp only [Hp.set_none] at hiw
   have w1 : ¬ iw = i6 ∧ ¬ i6 = iw := by simp_all
   have w2 : H iw = none := by simp_all
   skip
   refine vs_loop (σ := Nat) (fun i => i ≤ p.ws.length) (fun i => [(1, .rsl N 1 (byF b)), (2, pptr p), (5, i64 p.ws.length), (6, .ref i6 0 5 0 0), (58, i64 p.ws.length), (59, i64 i)])
    (fun i => (H.set iw (.row 4 i (rvF p))).set i6 (.box 5 1 fun _ => [spansAV p.fl, i64 p.ca, .sl iw 4 i, flAV p.ho.n p.ho.fl, sdAV p.ho.m p.ho.sd])) (fun i => p.ws.length - i) 0 (Nat.zero_le _) ?_ ?_ fun i hi => ?_
   ·simp only [vsAll, argFr, Nat.reduceEqDiff, ↓reduceIte, eq_self, Int.natCast_zero]
   ·refine HSub_put_eq (by simp only [vsAll, ↓reduceIte, eq_self]; try rfl) ?_
    refine HSub_put (o' := .row 4 0 fun _ => []) (by simp only [vsAll, ↓reduceIte, eq_self, w1]; try rfl) (row_ext fun q hq => absurd hq (Nat.not_lt_zero q)) ?_
    exact HSub_drop2 hh_i6 (HSub_drop2 w2 (HSub_drop2 hh_i6 (HSub_drop2 hh_i6 (HSub_drop2 hh_i6 HSub_rfl))))
   ·simp only [vsAll, binA, binLitA, intA, opA, dstOk, Nat.reduceLT, Nat.reduceEqDiff, ↓reduceIte, eq_self]
    refine condD (fun hd => ?_) (fun hd => ?_)
    ·have his : i < p.ws.length := by ((try clear hh_i6); (try clear w1); (try clear w2); omega)
     simp only [vsAll, opA, dstOk, nilSliceOp, Nat.reduceLT, Nat.reduceEqDiff, Nat.reduceBEq, ↓reduceIte, eq_self]
     refine vs_draw2 [0, 0, 0, 0, 0, 0, 0, 0, 0, 0, 0, 1, 2, 3] [([0, 1, 2, 3, 4, 5, 6, 7, 8, 9, 10], [], 11), ([12], [], 13)] [] (by decide +kernel) ?_
     simp only [vsAll, binA, binLitA, intA, loadA, loadRow, partA, partOk, fieldAddrA, indexAddrA, cellA, cellsA, okParts, buildSliceA, partIdx, elemsA, lensA, partsA, partsOk, opA, newCells, okCells, storeObj, appendA, dstOk, Nat.reduceAdd, Nat.reduceMul, Nat.reduceLT, Nat.reduceLeDiff, Nat.reduceEqDiff, ↓reduceIte, eq_self, wtAll, w1, wsF_at]
     have en : ((p.ws.length : Int) - 1 - (i : Int)).toNat = p.ws.length - 1 - i := by ((try clear hh_i6); (try clear w1); (try clear w2); omega)
     have ew : p.ws.getD (p.ws.length - 1 - i) wt0 = p.wt (p.ws.length - 1 - i) := rfl
     rw [en, ew]
     refine ⟨by simp only [InR_i64]; ((try clear hh_i6); (try clear w1); (try clear w2); omega), by simp only [InR_i64]; ((try clear hh_i6); (try clear w1); (try clear w2); omega), ⟨by ((try clear hh_i6); (try clear w1); (try clear w2); omega), by ((try clear hh_i6); (try clear w1); (try clear w2); omega)⟩, by ((try clear hh_i6); (try clear w1); (try clear w2); omega), fun q hq => by (have : q = 0 := by ((try clear hh_i6); (try clear w1); (try clear w2); omega)); subst this; exact ⟨rfl, rfl, rfl, rfl, trivial⟩, by ((try clear hh_i6); (try clear w1); (try clear w2); omega), by ((try clear hh_i6); (try clear w1); (try clear w2); omega), by simp only [InR_i64]; ((try clear hh_i6); (try clear w1); (try clear w2); omega), loop_next (i + 1) (by ((try clear hh_i6); (try clear w1); (try clear w2); omega)) (by ((try clear hh_i6); (try clear w1); (try clear w2); omega)) ?_ ?_⟩
     ·simp only [vsAll, Nat.reduceEqDiff, ↓reduceIte, eq_self, Int.natCast_add, Int.natCast_one]
     ·refine HSub_put_eq (by simp only [vsAll, ↓reduceIte, eq_self]; try rfl) ?_
      refine HSub_put (o' := .row 4 (i + 1) (appF i 1 (rvF p) (fun q => [(p.wt (p.ws.length - 1 - i)).cs].getD q []))) (by simp only [vsAll, ↓reduceIte, eq_self, w1]; try rfl) (row_ext fun q hq => ?_) ?_
      ·rw [appF_at (by ((try clear hh_i6); (try clear w1); (try clear w2); omega))]
       by_cases e : q < i
       ·rw [if_pos e]
       ·rw [if_neg e, show q - i = 0 by ((try clear hh_i6); (try clear w1); (try clear w2); omega), show q = i by ((try clear hh_i6); (try clear w1); (try clear w2); omega)]; rfl
      ·exact HSub_drop2 hh_i6 (HSub_drop2 w2 (HSub_drop2 hh_i6 (HSub_drop2 w2 HSub_rfl)))
    ·have ei : i = p.ws.length := by ((try clear hh_i6); (try clear w1); (try clear w2); omega)
     subst ei
     simp only [vsAll, ↓reduceIte, eq_self]
     refine vs_draw3 [0, 3, 4, 7] [([1, 0, 0, 3, 5, 0, 0, 7, 8, 8], [([1, 2, 5, 6], [2, 6], 0), ([], [6], 3), ([], [6], 4), ([], [], 7)], [8, 9]), ([1, 0, 0, 5, 3, 0, 0, 7, 8, 8], [([1, 2, 5, 6], [2, 6], 0), ([], [2, 6], 4), ([], [6], 3), ([], [], 7)], [8, 9]), ([3, 0, 0, 5, 1, 0, 0, 7, 8, 8], [([1, 2, 5, 6], [2, 6], 4), ([], [2, 6], 0), ([], [6], 3), ([], [], 7)], [8, 9])] (by decide +kernel) fun pn hpn => ?_
     have okF : ∀ i, i < p.fl.length → okCells (spanF p.fl i) := fun i _ => ⟨rfl, rfl, trivial⟩
     have okS' : ∀ i, i < p.ws.length → okCells (wsF p.ws i) := fun i _ => ⟨rfl, rfl, rfl, rfl, trivial⟩
     have leF : Obj.Le (.row 2 p.fl.length (appF 0 p.fl.length (fun _ => []) (spanF p.fl))) (.row 2 p.fl.length (spanF p.fl)) := row_ext fun q hq => by rw [appF_at (by ((try clear hh_i6); (try clear w1); (try clear w2); omega)), if_neg (by ((try clear hh_i6); (try clear w1); (try clear w2); omega)), Nat.sub_zero]
     have leS : Obj.Le (.row 4 p.ws.length (appF 0 p.ws.length (fun _ => []) (wsF p.ws))) (.row 4 p.ws.length (wsF p.ws)) := row_ext fun q hq => by rw [appF_at (by ((try clear hh_i6); (try clear w1); (try clear w2); omega)), if_neg (by ((try clear hh_i6); (try clear w1); (try clear w2); omega)), Nat.sub_zero]
     have leW : Obj.Le (.row 4 p.ws.length (rvF p)) (.row 4 p.ws.length (wsF (revP p).ws)) := row_ext fun q hq => by
      have e : (revP p).ws.getD q wt0 = p.wt (p.ws.length - 1 - q) := rev_wt p hq
      show _ = ((revP p).ws.getD q wt0).cs
      rw [e]; rfl
     simp only [List.mem_cons, List.not_mem_nil, or_false] at hpn
     rcases hpn with rfl | rfl | rfl
     ·simp only [vsAll, loadA, loadRow, partA, partOk, fieldAddrA, okParts, buildMutA, partIdx, elemsA, lensA, partsA, partsOk, opA, appendA, dstOk, Nat.reduceMul, Nat.reduceLT, Nat.reduceLeDiff, Nat.reduceEqDiff, Nat.reduceBEq, ↓reduceIte, eq_self, wtAll]
      intro ih hh_ih; (try simp only [ite_none] at hh_ih)
      try simp only [vsAll, binA, binLitA, intA, aggA, aggV, boolA, nilA2, isConst, unA, loadA, loadRow, partA, partOk, fieldAddrA, indexAddrA, indexA, fieldA, extractA, lenA, nilCheckA, boxA, boxZ, cellA, cellsA, fillA, okParts, buildSliceA, buildMutA, makeSliceA, partIdx, elemsA, lensA, ifaceA, convA, mmA, pickA, okAll, stAll, opsA, partsA, partsOk, opA, allocA, boxMutA, newCells, okCells, storeObj, appendA, guardV, taA, nM, mapUpA, lookA, sliceA, sliceM, sliceS, boundsA, opO, okO, copyA, dstOk, nilA, quietOk, nilSliceOp, deferV, panA, resA, argFr, retA.eq_1, retA.eq_2, Nat.reduceAdd, Nat.reduceSub, Nat.reduceMul, Nat.reduceLT, Nat.reduceLeDiff, Nat.reduceEqDiff, Nat.reduceBEq, Int.reduceAdd, Int.reduceSub, Int.reduceMul, Int.reduceNeg, Int.reduceLE, Int.reduceLT, Int.reduceEq, Int.reduceNe, Int.reduceToNat, ↓reduceIte, reduceCtorEq, implies_true, forall_const, eq_self, ne_eq, wtAll, Try.ntmps10, Try.results10, hh_i6, w1, w2, hh_ih]
      refine ⟨okF, by ((try clear hh_i6); (try clear w1); (try clear w2); (try clear hh_ih); omega), by ((try clear hh_i6); (try clear w1); (try clear w2); (try clear hh_ih); omega), ?_⟩
      intro is hh_is; (try simp only [ite_none] at hh_is)
      try simp only [vsAll, binA, binLitA, intA, aggA, aggV, boolA, nilA2, isConst, unA, loadA, loadRow, partA, partOk, fieldAddrA, indexAddrA, indexA, fieldA, extractA, lenA, nilCheckA, boxA, boxZ, cellA, cellsA, fillA, okParts, buildSliceA, buildMutA, makeSliceA, partIdx, elemsA, lensA, ifaceA, convA, mmA, pickA, okAll, stAll, opsA, partsA, partsOk, opA, allocA, boxMutA, newCells, okCells, storeObj, appendA, guardV, taA, nM, mapUpA, lookA, sliceA, sliceM, sliceS, boundsA, opO, okO, copyA, dstOk, nilA, quietOk, nilSliceOp, deferV, panA, resA, argFr, retA.eq_1, retA.eq_2, Nat.reduceAdd, Nat.reduceSub, Nat.reduceMul, Nat.reduceLT, Nat.reduceLeDiff, Nat.reduceEqDiff, Nat.reduceBEq, Int.reduceAdd, Int.reduceSub, Int.reduceMul, Int.reduceNeg, Int.reduceLE, Int.reduceLT, Int.reduceEq, Int.reduceNe, Int.reduceToNat, ↓reduceIte, reduceCtorEq, implies_true, forall_const, eq_self, ne_eq, wtAll, Try.ntmps10, Try.results10, hh_i6, w1, w2, hh_ih, hh_is]
      refine ⟨okS', by ((try clear hh_i6); (try clear w1); (try clear w2); (try clear hh_ih); (try clear hh_is); omega), by ((try clear hh_i6); (try clear w1); (try clear w2); (try clear hh_ih); (try clear hh_is); omega), ?_⟩
      have q1 : H ih = none ∧ ¬ ih = i6 ∧ ¬ ih = iw := by simp_all
      have q2 : H is = none ∧ ¬ is = i6 ∧ ¬ is = iw ∧ ¬ is = ih := by simp_all
      refine cut_rev i6 ⟨k, hh_i6⟩ p (revP p) i6 iw ih is hh_i6 w2 q1.1 q2.1 w1.1 q1.2.1 q2.2.1 q1.2.2 q2.2.2.1 q2.2.2.2 (B := [(1, .rsl N 1 (byF b)), (2, pptr p), (5, i64 p.ws.length), (6, .ref i6 0 5 0 0)]) (by simp only [vsAll, Nat.reduceEqDiff, ↓reduceIte, eq_self]) rfl (by simp only [vsAll, Nat.reduceEqDiff, ↓reduceIte, eq_self]) rfl ?_
      simp only [rxC, rev_len]
      refine HSub.trans (B := (((H.set iw (.row 4 p.ws.length (rvF p))).set i6 (.box 5 1 fun _ => [spansAV p.fl, i64 p.ca, .sl iw 4 p.ws.length, flAV p.ho.n p.ho.fl, sdAV p.ho.m p.ho.sd])).set ih (.row 2 p.fl.length (appF 0 p.fl.length (fun _ => []) (spanF p.fl)))).set is (.row 4 p.ws.length (appF 0 p.ws.length (fun _ => []) (wsF p.ws)))) (by (repeat (first | exact HSub_rfl | refine HSub_put_eq (by simp only [vsAll, ↓reduceIte, eq_self, w1, hh_ih, hh_is]) ?_ | refine HSub_drop2 (by simp only [eq_self, hh_i6, w2, hh_ih, hh_is]) ?_ | refine HSub_keep_eq (by simp only [vsAll, binA, binLitA, intA, aggA, aggV, boolA, nilA2, isConst, unA, loadA, loadRow, partA, partOk, fieldAddrA, indexAddrA, indexA, fieldA, extractA, lenA, nilCheckA, boxA, boxZ, cellA, cellsA, fillA, okParts, buildSliceA, buildMutA, makeSliceA, partIdx, elemsA, lensA, ifaceA, convA, mmA, pickA, okAll, stAll, opsA, partsA, partsOk, opA, allocA, boxMutA, newCells, okCells, storeObj, appendA, guardV, taA, nM, mapUpA, lookA, sliceA, sliceM, sliceS, boundsA, opO, okO, copyA, dstOk, nilA, quietOk, nilSliceOp, deferV, panA, resA, argFr, retA.eq_1, retA.eq_2, Nat.reduceAdd, Nat.reduceSub, Nat.reduceMul, Nat.reduceLT, Nat.reduceLeDiff, Nat.reduceEqDiff, Nat.reduceBEq, Int.reduceAdd, Int.reduceSub, Int.reduceMul, Int.reduceNeg, Int.reduceLE, Int.reduceLT, Int.reduceEq, Int.reduceNe, Int.reduceToNat, ↓reduceIte, reduceCtorEq, implies_true, forall_const, eq_self, ne_eq, wtAll, Try.ntmps10, Try.results10, hh_i6, w1, w2, hh_ih, hh_is]) ?_))) (HSub.set (HSub.set (HSub.set (HSub.set (HSub.refl H) leW) (.refl _)) leF) leS)
     ·simp only [vsAll, loadA, loadRow, partA, partOk, fieldAddrA, okParts, buildMutA, partIdx, elemsA, lensA, partsA, partsOk, opA, appendA, dstOk, Nat.reduceMul, Nat.reduceLT, Nat.reduceLeDiff, Nat.reduceEqDiff, Nat.reduceBEq, ↓reduceIte, eq_self, wtAll]
      intro ih hh_ih; (try simp only [ite_none] at hh_ih); intro is hh_is; (try simp only [ite_none] at hh_is)
      simp only [vsAll, ↓reduceIte, eq_self, hh_is]
      refine ⟨okF, by ((try clear hh_i6); (try clear w1); (try clear w2); (try clear hh_ih); (try clear hh_is); omega), by ((try clear hh_i6); (try clear w1); (try clear w2); (try clear hh_ih); (try clear hh_is); omega), okS', by ((try clear hh_i6); (try clear w1); (try clear w2); (try clear hh_ih); (try clear hh_is); omega), by ((try clear hh_i6); (try clear w1); (try clear w2); (try clear hh_ih); (try clear hh_is); omega), ?_⟩
      have q1 : H ih = none ∧ ¬ ih = i6 ∧ ¬ ih = iw := by simp_all
      have q2 : H is = none ∧ ¬ is = i6 ∧ ¬ is = iw ∧ ¬ is = ih := by simp_all
      refine cut_rev i6 ⟨k, hh_i6⟩ p (revP p) i6 iw ih is hh_i6 w2 q1.1 q2.1 w1.1 q1.2.1 q2.2.1 q1.2.2 q2.2.2.1 q2.2.2.2 (B := [(1, .rsl N 1 (byF b)), (2, pptr p), (5, i64 p.ws.length), (6, .ref i6 0 5 0 0)]) (by simp only [vsAll, Nat.reduceEqDiff, ↓reduceIte, eq_self]) rfl (by simp only [vsAll, Nat.reduceEqDiff, ↓reduceIte, eq_self]) rfl ?_
      simp only [rxC, rev_len]
      refine HSub.trans (B := (((H.set iw (.row 4 p.ws.length (rvF p))).set i6 (.box 5 1 fun _ => [spansAV p.fl, i64 p.ca, .sl iw 4 p.ws.length, flAV p.ho.n p.ho.fl, sdAV p.ho.m p.ho.sd])).set ih (.row 2 p.fl.length (appF 0 p.fl.length (fun _ => []) (spanF p.fl)))).set is (.row 4 p.ws.length (appF 0 p.ws.length (fun _ => []) (wsF p.ws)))) (by (repeat (first | exact HSub_rfl | refine HSub_put_eq (by simp only [vsAll, ↓reduceIte, eq_self, w1, hh_ih, hh_is]) ?_ | refine HSub_drop2 (by simp only [eq_self, hh_i6, w2, hh_ih, hh_is]) ?_ | refine HSub_keep_eq (by simp only [vsAll, binA, binLitA, intA, aggA, aggV, boolA, nilA2, isConst, unA, loadA, loadRow, partA, partOk, fieldAddrA, indexAddrA, indexA, fieldA, extractA, lenA, nilCheckA, boxA, boxZ, cellA, cellsA, fillA, okParts, buildSliceA, buildMutA, makeSliceA, partIdx, elemsA, lensA, ifaceA, convA, mmA, pickA, okAll, stAll, opsA, partsA, partsOk, opA, allocA, boxMutA, newCells, okCells, storeObj, appendA, guardV, taA, nM, mapUpA, lookA, sliceA, sliceM, sliceS, boundsA, opO, okO, copyA, dstOk, nilA, quietOk, nilSliceOp, deferV, panA, resA, argFr, retA.eq_1, retA.eq_2, Nat.reduceAdd, Nat.reduceSub, Nat.reduceMul, Nat.reduceLT, Nat.reduceLeDiff, Nat.reduceEqDiff, Nat.reduceBEq, Int.reduceAdd, Int.reduceSub, Int.reduceMul, Int.reduceNeg, Int.reduceLE, Int.reduceLT, Int.reduceEq, Int.reduceNe, Int.reduceToNat, ↓reduceIte, reduceCtorEq, implies_true, forall_const, eq_self, ne_eq, wtAll, Try.ntmps10, Try.results10, hh_i6, w1, w2, hh_ih, hh_is]) ?_))) (HSub.set (HSub.set (HSub.set (HSub.set (HSub.refl H) leW) (.refl _)) leF) leS)
     ·simp only [vsAll, loadA, loadRow, partA, partOk, fieldAddrA, okParts, buildMutA, partIdx, elemsA, lensA, partsA, partsOk, opA, appendA, dstOk, Nat.reduceMul, Nat.reduceLT, Nat.reduceLeDiff, Nat.reduceEqDiff, Nat.reduceBEq, ↓reduceIte, eq_self, wtAll]
      intro is hh_is; (try simp only [ite_none] at hh_is); intro ih hh_ih; (try simp only [ite_none] at hh_ih)
      simp only [vsAll, ↓reduceIte, eq_self, hh_ih]
      refine ⟨okF, by ((try clear hh_i6); (try clear w1); (try clear w2); (try clear hh_is); (try clear hh_ih); omega), by ((try clear hh_i6); (try clear w1); (try clear w2); (try clear hh_is); (try clear hh_ih); omega), okS', by ((try clear hh_i6); (try clear w1); (try clear w2); (try clear hh_is); (try clear hh_ih); omega), by ((try clear hh_i6); (try clear w1); (try clear w2); (try clear hh_is); (try clear hh_ih); omega), ?_⟩
      have q1 : H ih = none ∧ ¬ ih = i6 ∧ ¬ ih = iw := by simp_all
      have q2 : H is = none ∧ ¬ is = i6 ∧ ¬ is = iw ∧ ¬ is = ih := by simp_all
      refine cut_rev i6 ⟨k, hh_i6⟩ p (revP p) i6 iw ih is hh_i6 w2 q1.1 q2.1 w1.1 q1.2.1 q2.2.1 q1.2.2 q2.2.2.1 q2.2.2.2 (B := [(1, .rsl N 1 (byF b)), (2, pptr p), (5, i64 p.ws.length), (6, .ref i6 0 5 0 0)]) (by simp only [vsAll, Nat.reduceEqDiff, ↓reduceIte, eq_self]) rfl (by simp only [vsAll, Nat.reduceEqDiff, ↓reduceIte, eq_self]) rfl ?_
      simp only [rxC, rev_len]
      refine HSub.trans (B := (((H.set iw (.row 4 p.ws.length (rvF p))).set i6 (.box 5 1 fun _ => [spansAV p.fl, i64 p.ca, .sl iw 4 p.ws.length, flAV p.ho.n p.ho.fl, sdAV p.ho.m p.ho.sd])).set ih (.row 2 p.fl.length (appF 0 p.fl.length (fun _ => []) (spanF p.fl)))).set is (.row 4 p.ws.length (appF 0 p.ws.length (fun _ => []) (wsF p.ws)))) (by (repeat (first | exact HSub_rfl | refine HSub_put_eq (by simp only [vsAll, ↓reduceIte, eq_self, w1, hh_is, hh_ih]) ?_ | refine HSub_drop2 (by simp only [eq_self, hh_i6, w2, hh_is, hh_ih]) ?_ | refine HSub_keep_eq (by simp only [vsAll, binA, binLitA, intA, aggA, aggV, boolA, nilA2, isConst, unA, loadA, loadRow, partA, partOk, fieldAddrA, indexAddrA, indexA, fieldA, extractA, lenA, nilCheckA, boxA, boxZ, cellA, cellsA, fillA, okParts, buildSliceA, buildMutA, makeSliceA, partIdx, elemsA, lensA, ifaceA, convA, mmA, pickA, okAll, stAll, opsA, partsA, partsOk, opA, allocA, boxMutA, newCells, okCells, storeObj, appendA, guardV, taA, nM, mapUpA, lookA, sliceA, sliceM, sliceS, boundsA, opO, okO, copyA, dstOk, nilA, quietOk, nilSliceOp, deferV, panA, resA, argFr, retA.eq_1, retA.eq_2, Nat.reduceAdd, Nat.reduceSub, Nat.reduceMul, Nat.reduceLT, Nat.reduceLeDiff, Nat.reduceEqDiff, Nat.reduceBEq, Int.reduceAdd, Int.reduceSub, Int.reduceMul, Int.reduceNeg, Int.reduceLE, Int.reduceLT, Int.reduceEq, Int.reduceNe, Int.reduceToNat, ↓reduceIte, reduceCtorEq, implies_true, forall_const, eq_self, ne_eq, wtAll, Try.ntmps10, Try.results10, hh_i6, w1, w2, hh_is, hh_ih]) ?_))) (HSub.set (HSub.set (HSub.set (HSub.set (HSub.refl H) leW) (.refl _)) leF) leS)
 ·obtain ⟨k, h6⟩ := hy
  have kn := k.near
  have nF := k.nF
  have nW := k.nW
  skip
  refine wps_cutG3 (m := mset [11]) (σ := List Int) (fun l => planB p l = true)
   (fun l => [(2, pptr p), (5, i64 p.ws.length), (6, .ref i6 0 5 0 0), (8, spansAV p.fl), (9, wsAV p.ws), (10, intsAV l), (11, intsAV (l.map (revW p.ws.length)))])
   (fun _ => H.set i6 (.box 5 1 fun _ => (revP p).cs)) (fun _ => []) ?_ fun l hl => ?_
  ·simp only [vsAll, loadA, loadRow, partA, partOk, okAll, stAll, opsA, opA, dstOk, Nat.reduceLT, Nat.reduceEqDiff, ↓reduceIte, eq_self, wtAll, Try.ntmps10]
   refine callK (made_tri p N b _ k hb.1 hb.2) ?_
   rintro r H' ⟨rfl, l, hl, rfl⟩
   obtain ⟨ell, hlr⟩ := plan_rng hl
   simp only [vsAll, lenA, opA, dstOk, nilA, nilSliceOp, Nat.reduceLT, Nat.reduceEqDiff, Nat.reduceBEq, ↓reduceIte, eq_self, wtAll]
   intro io hh_io; (try simp only [ite_none] at hh_io)
   refine vs_loop (σ := Nat) (fun i => i ≤ l.length) (fun i => [(2, pptr p), (5, i64 p.ws.length), (6, .ref i6 0 5 0 0), (8, spansAV p.fl), (9, wsAV p.ws), (10, intsAV l), (11, .sl io 1 i), (87, intsAV l), (88, i64 l.length), (89, i64 i)])
    (fun i => (H.set i6 (.box 5 1 fun _ => (revP p).cs)).set io (.row 1 i (intF ((l.take i).map (revW p.ws.length))))) (fun i => l.length - i) 0 (Nat.zero_le _) ?_ ?_ fun i hi => ?_
   ·simp only [vsAll, Nat.reduceEqDiff, ↓reduceIte, eq_self, Int.natCast_zero]
   ·refine HSub_put (o' := .row 1 0 fun _ => []) (by simp only [vsAll, ↓reduceIte, eq_self]; try rfl) (row_ext fun q hq => absurd hq (Nat.not_lt_zero q)) ?_
    exact HSub_drop2 (by simp only [vsAll, ↓reduceIte, eq_self, hh_io]) HSub_rfl
   ·have htl : ((l.take i).map (revW p.ws.length)).length = i := by simp; ((try clear h6); (try clear hh_io); omega)
    simp only [vsAll, binA, binLitA, intA, opA, dstOk, Nat.reduceLT, Nat.reduceEqDiff, ↓reduceIte, eq_self]
    refine condD (fun hd => ?_) (fun hd => ?_)
    ·have his : i < l.length := by ((try clear h6); (try clear hh_io); omega)
     have e0 : l.getD i 0 = l.getD i (-1) := by simp [List.getD_eq_getElem?_getD, his]
     have hx := hlr i (by ((try clear h6); (try clear hh_io); omega))
     have hts := take_rev p.ws.length his
     rw [e0] at hts
     have happ : appF i 1 (intF ((l.take i).map (revW p.ws.length))) (fun q => [[i64 (revW p.ws.length (l.getD i (-1)))]].getD q []) = intF ((l.take (i + 1)).map (revW p.ws.length)) := by rw [hts]; exact app_ints' htl _ _ rfl
     have erw : revW p.ws.length (l.getD i (-1)) = if 0 ≤ l.getD i (-1) then (p.ws.length : Int) - 1 - l.getD i (-1) else l.getD i (-1) := rfl
     generalize l.getD i (-1) = x at e0 hx happ erw
     simp only [vsAll, binA, binLitA, intA, loadA, loadRow, partA, partOk, indexAddrA, opA, dstOk, nilSliceOp, Nat.reduceLT, Nat.reduceEqDiff, Nat.reduceBEq, ↓reduceIte, eq_self, wtAll, intF_at, e0]
     refine ⟨⟨by ((try clear h6); (try clear hh_io); omega), by ((try clear h6); (try clear hh_io); omega)⟩, his, condV (fun hc2 => ?_) (fun hc2 => ?_)⟩
     ·rw [if_pos (of_decide_eq_true hc2)] at erw
      rw [erw] at happ
      simp only [vsAll, binA, binLitA, intA, cellA, cellsA, okParts, buildSliceA, partIdx, elemsA, lensA, partsA, partsOk, opA, appendA, dstOk, nilSliceOp, Nat.reduceMul, Nat.reduceLT, Nat.reduceLeDiff, Nat.reduceEqDiff, Nat.reduceBEq, ↓reduceIte, eq_self, wtAll]
      refine ⟨by simp only [InR_i64]; ((try clear h6); (try clear hh_io); omega), by simp only [InR_i64]; ((try clear h6); (try clear hh_io); omega), fun q hq => by (have : q = 0 := by ((try clear h6); (try clear hh_io); omega)); subst this; exact ⟨rfl, trivial⟩, by ((try clear h6); (try clear hh_io); omega), by ((try clear h6); (try clear hh_io); omega), by simp only [InR_i64]; ((try clear h6); (try clear hh_io); omega), loop_next (i + 1) (by ((try clear h6); (try clear hh_io); omega)) (by ((try clear h6); (try clear hh_io); omega)) ?_ ?_⟩
      ·simp only [vsAll, Nat.reduceEqDiff, ↓reduceIte, eq_self, Int.natCast_add, Int.natCast_one]
      ·rw [happ]
       (repeat (first | exact HSub_rfl | refine HSub_put_eq (by simp only [vsAll, ↓reduceIte, eq_self, hh_io]) ?_ | refine HSub_drop2 (by simp only [eq_self, h6, hh_io]) ?_ | refine HSub_keep_eq (by simp only [vsAll, binA, binLitA, intA, aggA, aggV, boolA, nilA2, isConst, unA, loadA, loadRow, partA, partOk, fieldAddrA, indexAddrA, indexA, fieldA, extractA, lenA, nilCheckA, boxA, boxZ, cellA, cellsA, fillA, okParts, buildSliceA, buildMutA, makeSliceA, partIdx, elemsA, lensA, ifaceA, convA, mmA, pickA, okAll, stAll, opsA, partsA, partsOk, opA, allocA, boxMutA, newCells, okCells, storeObj, appendA, guardV, taA, nM, mapUpA, lookA, sliceA, sliceM, sliceS, boundsA, opO, okO, copyA, dstOk, nilA, quietOk, nilSliceOp, deferV, panA, resA, argFr, retA.eq_1, retA.eq_2, Nat.reduceAdd, Nat.reduceSub, Nat.reduceMul, Nat.reduceLT, Nat.reduceLeDiff, Nat.reduceEqDiff, Nat.reduceBEq, Int.reduceAdd, Int.reduceSub, Int.reduceMul, Int.reduceNeg, Int.reduceLE, Int.reduceLT, Int.reduceEq, Int.reduceNe, Int.reduceToNat, ↓reduceIte, reduceCtorEq, implies_true, forall_const, eq_self, ne_eq, wtAll, Try.ntmps10, Try.results10, h6, hh_io]) ?_))
     ·rw [if_neg (of_decide_eq_false hc2)] at erw
      rw [erw] at happ
      simp only [vsAll, binA, binLitA, intA, cellA, cellsA, okParts, buildSliceA, partIdx, elemsA, lensA, partsA, partsOk, opA, appendA, dstOk, nilSliceOp, Nat.reduceMul, Nat.reduceLT, Nat.reduceLeDiff, Nat.reduceEqDiff, Nat.reduceBEq, ↓reduceIte, eq_self, wtAll]
      refine ⟨fun q hq => by (have : q = 0 := by ((try clear h6); (try clear hh_io); omega)); subst this; exact ⟨rfl, trivial⟩, by ((try clear h6); (try clear hh_io); omega), by ((try clear h6); (try clear hh_io); omega), by simp only [InR_i64]; ((try clear h6); (try clear hh_io); omega), loop_next (i + 1) (by ((try clear h6); (try clear hh_io); omega)) (by ((try clear h6); (try clear hh_io); omega)) ?_ ?_⟩
      ·simp only [vsAll, Nat.reduceEqDiff, ↓reduceIte, eq_self, Int.natCast_add, Int.natCast_one]
      ·rw [happ]
       (repeat (first | exact HSub_rfl | refine HSub_put_eq (by simp only [vsAll, ↓reduceIte, eq_self, hh_io]) ?_ | refine HSub_drop2 (by simp only [eq_self, h6, hh_io]) ?_ | refine HSub_keep_eq (by simp only [vsAll, binA, binLitA, intA, aggA, aggV, boolA, nilA2, isConst, unA, loadA, loadRow, partA, partOk, fieldAddrA, indexAddrA, indexA, fieldA, extractA, lenA, nilCheckA, boxA, boxZ, cellA, cellsA, fillA, okParts, buildSliceA, buildMutA, makeSliceA, partIdx, elemsA, lensA, ifaceA, convA, mmA, pickA, okAll, stAll, opsA, partsA, partsOk, opA, allocA, boxMutA, newCells, okCells, storeObj, appendA, guardV, taA, nM, mapUpA, lookA, sliceA, sliceM, sliceS, boundsA, opO, okO, copyA, dstOk, nilA, quietOk, nilSliceOp, deferV, panA, resA, argFr, retA.eq_1, retA.eq_2, Nat.reduceAdd, Nat.reduceSub, Nat.reduceMul, Nat.reduceLT, Nat.reduceLeDiff, Nat.reduceEqDiff, Nat.reduceBEq, Int.reduceAdd, Int.reduceSub, Int.reduceMul, Int.reduceNeg, Int.reduceLE, Int.reduceLT, Int.reduceEq, Int.reduceNe, Int.reduceToNat, ↓reduceIte, reduceCtorEq, implies_true, forall_const, eq_self, ne_eq, wtAll, Try.ntmps10, Try.results10, h6, hh_io]) ?_))
    ·have ei : i = l.length := by ((try clear h6); (try clear hh_io); omega)
     subst ei
     rw [List.take_length]
     simp only [vsAll, ↓reduceIte, eq_self]
     refine cutG_ent (Ent.of (H' := (H.set i6 (.box 5 1 fun _ => (revP p).cs)).set io (.row 1 l.length (intF (l.map (revW p.ws.length))))) [(2, pptr p), (5, i64 p.ws.length), (6, .ref i6 0 5 0 0), (8, spansAV p.fl), (9, wsAV p.ws), (10, intsAV l), (11, .sl io 1 l.length)] (by simp only [vsAll, Nat.reduceEqDiff, ↓reduceIte, eq_self]) HSub_rfl ?_)
     refine cutG_ent (Ent.freezeS (id := io) (st := 1) (n := l.length) (f := intF (l.map (revW p.ws.length))) (s' := Fr.of [(2, pptr p), (5, i64 p.ws.length), (6, .ref i6 0 5 0 0), (8, spansAV p.fl), (9, wsAV p.ws), (10, intsAV l), (11, intsAV (l.map (revW p.ws.length)))]) (Hp.set_same _ _ _) (FrzL.fr (.cons (.same _) (.cons (.same _) (.cons (.same _) (.cons (.same _) (.cons (.same _) (.cons (.same _) (.cons (.leaf ⟨rfl, _, fun _ _ => rfl, by rw [intsAV, List.length_map]⟩) (FrzL.refl _))))))))) ?_)
     refine cutG_of l hl (by simp only [vsAll, Nat.reduceEqDiff, ↓reduceIte, eq_self]) rfl ?_
     rw [set_del (by simp only [vsAll, ↓reduceIte, eq_self, hh_io])]
     exact HSub_rfl
  ·obtain ⟨ell, hlr⟩ := plan_rng hl
   have kx := rev_ok k
   obtain ⟨rp1, rp2, rp3⟩ := rev_play k hl
   obtain ⟨ru1, ru2⟩ := rev_unt k
   obtain ⟨rf1, rf2⟩ := rev_few k
   obtain ⟨rw1, S, T, rs, rt, hS, hT, hST⟩ := rev_wch k
   have hpl : (playV p l).length < 2 ^ 60 := by
    unfold playV
    split
    ·rw [List.length_map, List.length_range]; ((try clear h6); omega)
    ·decide
   have hdp : decide (playV p l = playV p l) = true := decide_eq_true rfl
   have tsp := rspans_tri (playV p l) (playV p l)
   rw [hdp] at tsp
   refine wps_cutG10 (m := fun _ => false) (σ := Nat) (fun io => H io = none)
    (fun io => [(2, pptr p), (5, i64 p.ws.length), (8, spansAV p.fl), (9, wsAV p.ws), (10, intsAV l), (19, .sl io 1 (fewP p).length), (20, i64 (fewE p))])
    (fun io => H.set io (.row 1 (fewP p).length (intF (fewP p)))) (fun _ => []) ?_ fun io ho => ?_
   ·simp only [vsAll, loadA, loadRow, partA, partOk, okAll, stAll, opsA, opA, dstOk, Nat.reduceLT, Nat.reduceEqDiff, ↓reduceIte, eq_self, wtAll, Try.ntmps10]
    refine callK_pure (wplay_tri p l _ kn (by ((try clear h6); omega))) ?_
    simp only [vsAll, loadA, loadRow, partA, partOk, extractA, okAll, stAll, opsA, opA, dstOk, nilSliceOp, Nat.reduceAdd, Nat.reduceLT, Nat.reduceEqDiff, ↓reduceIte, eq_self, wtAll]
    refine callK_pure (wplay_tri (revP p) (l.map (revW p.ws.length)) _ kx.near (by rw [List.length_map]; ((try clear h6); omega))) ?_
    rw [rp2, rp3]
    simp only [vsAll, loadA, loadRow, partA, partOk, extractA, okAll, stAll, opsA, opA, dstOk, nilSliceOp, Nat.reduceAdd, Nat.reduceLT, Nat.reduceEqDiff, ↓reduceIte, eq_self, wtAll]
    refine callK (fewM_tri p _ kn) ?_
    rintro r H' ⟨io, hio, rfl, rfl⟩
    simp only [Hp.set_none] at hio
    skip
    simp only [vsAll, loadA, loadRow, partA, partOk, extractA, okAll, stAll, opsA, opA, dstOk, nilSliceOp, Nat.reduceAdd, Nat.reduceLT, Nat.reduceEqDiff, ↓reduceIte, eq_self, wtAll, hio]
    refine callK_pure (few_tri (revP p) _ kx.near) ?_
    rw [rf1, rf2]
    simp only [vsAll, loadA, loadRow, partA, partOk, extractA, okAll, stAll, opsA, opA, dstOk, nilSliceOp, Nat.reduceAdd, Nat.reduceLT, Nat.reduceEqDiff, ↓reduceIte, eq_self, wtAll]
    refine callK_pure (unt_tri p _ kn) ?_
    simp only [vsAll, loadA, loadRow, partA, partOk, extractA, okAll, stAll, opsA, opA, dstOk, nilSliceOp, Nat.reduceAdd, Nat.reduceLT, Nat.reduceEqDiff, ↓reduceIte, eq_self, wtAll, hio]
    refine callK_pure (unt_tri (revP p) _ kx.near) ?_
    rw [ru1, ru2]
    simp only [vsAll, loadA, loadRow, partA, partOk, extractA, okAll, stAll, opsA, opA, dstOk, nilSliceOp, Nat.reduceAdd, Nat.reduceLT, Nat.reduceEqDiff, ↓reduceIte, eq_self, wtAll]
    refine callK_pure (wch_tri p _ kn) ?_
    simp only [vsAll, loadA, loadRow, partA, partOk, extractA, okAll, stAll, opsA, opA, dstOk, nilSliceOp, Nat.reduceAdd, Nat.reduceLT, Nat.reduceEqDiff, ↓reduceIte, eq_self, wtAll, hio]
    refine callK_pure (wch_tri (revP p) _ kx.near) ?_
    rw [rw1, rt, rs]
    simp only [vsAll, extractA, okAll, stAll, opsA, opA, dstOk, nilSliceOp, Nat.reduceAdd, Nat.reduceLT, Nat.reduceEqDiff, ↓reduceIte, eq_self]
    refine callK_pure (tsp _ hpl hpl) ?_
    have d1 : decide ((S : Int) < 0) = false := decide_eq_false (by ((try clear h6); (try clear hio); omega))
    have d2 : decide ((T : Int) < 0) = false := decide_eq_false (by ((try clear h6); (try clear hio); omega))
    simp only [vsAll, binA, binLitA, intA, unA, pickA, opA, guardV, dstOk, Nat.reduceLT, Nat.reduceEqDiff, ↓reduceIte, implies_true, eq_self, d1, d2]
    refine gcall (i64 (bitN S : Nat)) (fun _ => ⟨by simp only [vsAll, opA, Nat.reduceEqDiff, ↓reduceIte, eq_self], by simp only [vsAll, okAll, opsA, opA, ↓reduceIte, eq_self], rsize_tri S _ hS⟩) ?_
    simp only [vsAll, opA, guardV, dstOk, Nat.reduceLT, Nat.reduceEqDiff, ↓reduceIte, eq_self]
    refine gcall (i64 (bitN T : Nat)) (fun _ => ⟨by simp only [vsAll, opA, Nat.reduceEqDiff, ↓reduceIte, eq_self], by simp only [vsAll, okAll, opsA, opA, ↓reduceIte, eq_self], rsize_tri T _ hT⟩) ?_
    simp only [vsAll, binA, binLitA, intA, pickA, opA, guardV, dstOk, Nat.reduceLT, Nat.reduceEqDiff, ↓reduceIte, implies_true, eq_self, hST]
    exact cutG_of io hio.2 (by simp only [vsAll, Nat.reduceEqDiff, ↓reduceIte, eq_self]) rfl (by (repeat (first | exact HSub_rfl | refine HSub_put_eq (by simp only [vsAll, ↓reduceIte, eq_self]) ?_ | refine HSub_drop2 (by simp only [eq_self, h6, hio]) ?_ | refine HSub_keep_eq (by simp only [vsAll, binA, binLitA, intA, aggA, aggV, boolA, nilA2, isConst, unA, loadA, loadRow, partA, partOk, fieldAddrA, indexAddrA, indexA, fieldA, extractA, lenA, nilCheckA, boxA, boxZ, cellA, cellsA, fillA, okParts, buildSliceA, buildMutA, makeSliceA, partIdx, elemsA, lensA, ifaceA, convA, mmA, pickA, okAll, stAll, opsA, partsA, partsOk, opA, allocA, boxMutA, newCells, okCells, storeObj, appendA, guardV, taA, nM, mapUpA, lookA, sliceA, sliceM, sliceS, boundsA, opO, okO, copyA, dstOk, nilA, quietOk, nilSliceOp, deferV, panA, resA, argFr, retA.eq_1, retA.eq_2, Nat.reduceAdd, Nat.reduceSub, Nat.reduceMul, Nat.reduceLT, Nat.reduceLeDiff, Nat.reduceEqDiff, Nat.reduceBEq, Int.reduceAdd, Int.reduceSub, Int.reduceMul, Int.reduceNeg, Int.reduceLE, Int.reduceLT, Int.reduceEq, Int.reduceNe, Int.reduceToNat, ↓reduceIte, reduceCtorEq, implies_true, forall_const, eq_self, ne_eq, wtAll, Try.ntmps10, Try.results10, h6, hio]) ?_)))
   ·skip
    refine wps_vs (m := mset [199, 202, 209, 213, 220, 258]) ?_
    simp only [vsAll, binA, binLitA, intA, lenA, cellA, cellsA, okParts, buildSliceA, buildMutA, partIdx, elemsA, lensA, mmA, okAll, stAll, opsA, partsA, partsOk, opA, appendA, sliceM, dstOk, Nat.reduceAdd, Nat.reduceMul, Nat.reduceLT, Nat.reduceLeDiff, Nat.reduceEqDiff, Nat.reduceBEq, Int.reduceNeg, ↓reduceIte, eq_self, wtAll, Try.ntmps10]
    have em : (max 0 ((l.length : Int) - 1)).toNat = l.length - 1 := by ((try clear h6); (try clear ho); omega)
    have okI : ∀ i, i < l.length → okCells (intF l i) := fun i _ => ⟨rfl, trivial⟩
    have ok1 : ∀ w : Int, ∀ i, i < 1 → okCells ([[i64 w]].getD i []) := fun w q hq => by (have : q = 0 := by ((try clear h6); (try clear ho); omega)); subst this; exact ⟨rfl, trivial⟩
    rw [em]
    intro ia hh_ia; (try simp only [ite_none] at hh_ia)
    refine ⟨okI, by ((try clear h6); (try clear ho); (try clear hh_ia); omega), by ((try clear h6); (try clear ho); (try clear hh_ia); omega), ?_⟩
    intro jb hh_jb; (try simp only [ite_none] at hh_jb)
    refine ⟨okI, by ((try clear h6); (try clear ho); (try clear hh_ia); (try clear hh_jb); omega), by ((try clear h6); (try clear ho); (try clear hh_ia); (try clear hh_jb); omega), by simp only [InR_i64]; ((try clear h6); (try clear ho); (try clear hh_ia); (try clear hh_jb); omega), ⟨by ((try clear h6); (try clear ho); (try clear hh_ia); (try clear hh_jb); omega), by ((try clear h6); (try clear ho); (try clear hh_ia); (try clear hh_jb); omega)⟩, ?_⟩
    intro ib hh_ib; (try simp only [ite_none] at hh_ib)
    refine ⟨ok1 _, by ((try clear h6); (try clear ho); (try clear hh_ia); (try clear hh_jb); (try clear hh_ib); omega), by ((try clear h6); (try clear ho); (try clear hh_ia); (try clear hh_jb); (try clear hh_ib); omega), ?_⟩
    intro jc hh_jc
    refine ⟨okI, by ((try clear h6); (try clear ho); (try clear hh_ia); (try clear hh_jb); (try clear hh_ib); omega), by ((try clear h6); (try clear ho); (try clear hh_ia); (try clear hh_jb); (try clear hh_ib); omega), by simp only [InR_i64]; ((try clear h6); (try clear ho); (try clear hh_ia); (try clear hh_jb); (try clear hh_ib); omega), ⟨by ((try clear h6); (try clear ho); (try clear hh_ia); (try clear hh_jb); (try clear hh_ib); omega), by ((try clear h6); (try clear ho); (try clear hh_ia); (try clear hh_jb); (try clear hh_ib); omega)⟩, ?_⟩
    intro ic hh_ic
    refine ⟨ok1 _, by ((try clear h6); (try clear ho); (try clear hh_ia); (try clear hh_jb); (try clear hh_ib); omega), by ((try clear h6); (try clear ho); (try clear hh_ia); (try clear hh_jb); (try clear hh_ib); omega), ?_⟩
    have z1 : H ia = none ∧ ¬ ia = io ∧ ¬ io = ia := by simp_all
    have z2 : H jb = none ∧ ¬ jb = io ∧ ¬ jb = ia ∧ ¬ io = jb ∧ ¬ ia = jb := by simp_all
    have z3 : H ib = none ∧ ¬ ib = io ∧ ¬ ib = ia ∧ ¬ ib = jb ∧ ¬ io = ib ∧ ¬ ia = ib ∧ ¬ jb = ib := by simp_all
    have z4 : H jc = none ∧ ¬ jc = io ∧ ¬ jc = ia ∧ ¬ jc = ib := by
     have h := hh_jc
     clear hh_ia hh_jb hh_ib hh_jc hh_ic
     simp only [ite_none] at h
     obtain ⟨a1, _, h⟩ := h
     by_cases e : jc = jb
     ·subst e; exact ⟨z2.1, z2.2.1, z2.2.2.1, a1.1⟩
     ·rw [Hp.del_ne _ e] at h
      simp only [Hp.set_none] at h
      refine ⟨?_, ?_, ?_, ?_⟩ <;> simp_all
    have z5 : H ic = none ∧ ¬ ic = io ∧ ¬ ic = ia ∧ ¬ ic = ib ∧ ¬ ic = jc := by
     have h := hh_ic
     clear hh_ia hh_jb hh_ib hh_jc hh_ic
     simp only [ite_none] at h
     obtain ⟨a1, _, a2, _, h⟩ := h
     by_cases e : ic = jb
     ·subst e; exact ⟨z2.1, z2.2.1, z2.2.2.1, a2.1, a1.1⟩
     ·rw [Hp.del_ne _ e] at h
      simp only [Hp.set_none] at h
      refine ⟨?_, ?_, ?_, ?_, ?_⟩ <;> simp_all
    have y5 : ¬ io = ic ∧ ¬ ia = ic ∧ ¬ ib = ic ∧ ¬ jc = ic ∧ ¬ ib = jc ∧ ¬ ia = jc ∧ ¬ io = jc := ⟨fun e => z5.2.1 e.symm, fun e => z5.2.2.1 e.symm, fun e => z5.2.2.2.1 e.symm, fun e => z5.2.2.2.2 e.symm, fun e => z4.2.2.2 e.symm, fun e => z4.2.2.1 e.symm, fun e => z4.2.1 e.symm⟩
    skip
    have RA : Obj.Le (.row 1 (1 + l.length) (appF 1 l.length (fun i => [[i64 (-1)]].getD i []) (intF l))) (.row 1 (1 + l.length) (intF (-1 :: l))) := row_ext fun q hq => by
     rw [appF_at (by ((try clear h6); (try clear ho); (try clear hh_ia); (try clear hh_jb); (try clear hh_ib); (try clear z1); (try clear z2); (try clear z3); (try clear z4); (try clear z5); (try clear y5); omega))]
     cases q with
     | zero => rfl
     | succ q => rw [if_neg (by ((try clear h6); (try clear ho); (try clear hh_ia); (try clear hh_jb); (try clear hh_ib); (try clear z1); (try clear z2); (try clear z3); (try clear z4); (try clear z5); (try clear y5); omega))]; simp [intF]
    have RB : ∀ w : Int, Obj.Le (.row 1 (l.length - 1 + 1) (appF (l.length - 1) 1 (appF 0 l.length (fun _ => []) (intF l)) (fun i => [[i64 w]].getD i []))) (.row 1 (l.length - 1 + 1) (intF (l.take (l.length - 1) ++ [w]))) := fun w => row_ext fun q hq => by
     rw [appF_at (by ((try clear h6); (try clear ho); (try clear hh_ia); (try clear hh_jb); (try clear hh_ib); (try clear z1); (try clear z2); (try clear z3); (try clear z4); (try clear z5); (try clear y5); omega))]
     by_cases e : q < l.length - 1
     ·rw [if_pos e, appF_at (by ((try clear h6); (try clear ho); (try clear hh_ia); (try clear hh_jb); (try clear hh_ib); (try clear z1); (try clear z2); (try clear z3); (try clear z4); (try clear z5); (try clear y5); omega)), if_neg (Nat.not_lt_zero q), Nat.sub_zero]
      simp only [intF]
      rw [List.getD_eq_getElem?_getD, List.getD_eq_getElem?_getD, List.getElem?_append_left (by simp; ((try clear h6); (try clear ho); (try clear hh_ia); (try clear hh_jb); (try clear hh_ib); (try clear z1); (try clear z2); (try clear z3); (try clear z4); (try clear z5); (try clear y5); omega)), List.getElem?_take, if_pos e]
     ·have eq : q = l.length - 1 := by ((try clear h6); (try clear ho); (try clear hh_ia); (try clear hh_jb); (try clear hh_ib); (try clear z1); (try clear z2); (try clear z3); (try clear z4); (try clear z5); (try clear y5); omega)
      rw [if_neg e, eq, Nat.sub_self]
      simp [intF, List.getD_eq_getElem?_getD]
    have lA : ((-1 : Int) :: l).length = 1 + l.length := by simp; ((try clear h6); (try clear ho); (try clear hh_ia); (try clear hh_jb); (try clear hh_ib); (try clear z1); (try clear z2); (try clear z3); (try clear z4); (try clear z5); (try clear y5); omega)
    have lB : ∀ w : Int, (l.take (l.length - 1) ++ [w]).length = l.length - 1 + 1 := fun w => by simp
    refine vs_entL ?_
    refine Ent.step (Ent.of (H' := (((H.set io (.row 1 (fewP p).length (intF (fewP p)))).set ia (.row 1 (1 + l.length) (intF (-1 :: l)))).set ib (.row 1 (l.length - 1 + 1) (intF (l.take (l.length - 1) ++ [(p.ws.length : Int)])))).set ic (.row 1 (l.length - 1 + 1) (intF (l.take (l.length - 1) ++ [-2])))) [(2, pptr p), (8, spansAV p.fl), (9, wsAV p.ws), (10, intsAV l), (19, .sl io 1 (fewP p).length), (20, i64 (fewE p)), (223, .rsl 3 1 fun i => [[.sl ia 1 (1 + l.length)], [.sl ib 1 (l.length - 1 + 1)], [.sl ic 1 (l.length - 1 + 1)]].getD i []), (224, i64 ((3 : Nat) : Int)), (225, i64 0)] (by simp only [vsAll, Nat.reduceEqDiff, Int.reduceNeg, ↓reduceIte, eq_self]) ?_ ?_)
    ·refine HSub_put (o' := .row 1 (l.length - 1 + 1) (appF (l.length - 1) 1 (appF 0 l.length (fun _ => []) (intF l)) (fun i => [[i64 (-2)]].getD i []))) (by rw [Hp.set_same]; try rfl) (RB _) ?_
     refine HSub_put (o' := .row 1 (l.length - 1 + 1) (appF (l.length - 1) 1 (appF 0 l.length (fun _ => []) (intF l)) (fun i => [[i64 p.ws.length]].getD i []))) (by rw [Hp.set_ne _ _ y5.2.2.1, Hp.set_ne _ _ y5.2.2.1, Hp.del_ne _ y5.2.2.2.2.1, Hp.set_ne _ _ y5.2.2.2.2.1, Hp.set_ne _ _ y5.2.2.2.2.1, Hp.set_same]; try rfl) (RB _) ?_
     refine HSub_put (o' := .row 1 (1 + l.length) (appF 1 l.length (fun i => [[i64 (-1)]].getD i []) (intF l))) (by rw [Hp.set_ne _ _ y5.2.1, Hp.set_ne _ _ y5.2.1, Hp.del_ne _ y5.2.2.2.2.2.1, Hp.set_ne _ _ y5.2.2.2.2.2.1, Hp.set_ne _ _ y5.2.2.2.2.2.1, Hp.set_ne _ _ z3.2.2.2.2.2.1, Hp.set_ne _ _ z3.2.2.2.2.2.1, Hp.del_ne _ z2.2.2.2.2, Hp.set_ne _ _ z2.2.2.2.2, Hp.set_ne _ _ z2.2.2.2.2, Hp.set_same]; try rfl) RA ?_
     refine HSub_put_eq (by rw [Hp.set_ne _ _ y5.1, Hp.set_ne _ _ y5.1, Hp.del_ne _ y5.2.2.2.2.2.2, Hp.set_ne _ _ y5.2.2.2.2.2.2, Hp.set_ne _ _ y5.2.2.2.2.2.2, Hp.set_ne _ _ z3.2.2.2.2.1, Hp.set_ne _ _ z3.2.2.2.2.1, Hp.del_ne _ z2.2.2.2.1, Hp.set_ne _ _ z2.2.2.2.1, Hp.set_ne _ _ z2.2.2.2.1, Hp.set_ne _ _ z1.2.2, Hp.set_ne _ _ z1.2.2, Hp.set_same]) ?_
     intro q o hq
     have n1 : q ≠ io := fun e => by rw [e, ho] at hq; cases hq
     have n2 : q ≠ ia := fun e => by rw [e, z1.1] at hq; cases hq
     have n3 : q ≠ jb := fun e => by rw [e, z2.1] at hq; cases hq
     have n4 : q ≠ ib := fun e => by rw [e, z3.1] at hq; cases hq
     have n5 : q ≠ jc := fun e => by rw [e, z4.1] at hq; cases hq
     have n6 : q ≠ ic := fun e => by rw [e, z5.1] at hq; cases hq
     exact ⟨o, by rw [Hp.set_ne _ _ n6, Hp.set_ne _ _ n6, Hp.del_ne _ n5, Hp.set_ne _ _ n5, Hp.set_ne _ _ n5, Hp.set_ne _ _ n4, Hp.set_ne _ _ n4, Hp.del_ne _ n3, Hp.set_ne _ _ n3, Hp.set_ne _ _ n3, Hp.set_ne _ _ n2, Hp.set_ne _ _ n2, Hp.set_ne _ _ n1]; exact hq, .refl _⟩
    ·refine Ent.step (Ent.freezeS (id := ia) (st := 1) (n := 1 + l.length) (f := intF (-1 :: l)) (s' := Fr.of [(2, pptr p), (8, spansAV p.fl), (9, wsAV p.ws), (10, intsAV l), (19, .sl io 1 (fewP p).length), (20, i64 (fewE p)), (223, .rsl 3 1 fun i => [[.rsl (1 + l.length) 1 (intF (-1 :: l))], [.sl ib 1 (l.length - 1 + 1)], [.sl ic 1 (l.length - 1 + 1)]].getD i []), (224, i64 ((3 : Nat) : Int)), (225, i64 0)]) ?_ (FrzL.fr (.cons (.same _) (.cons (.same _) (.cons (.same _) (.cons (.same _) (.cons (.same _) (.cons (.same _) (.cons (.rsl (fun k hk h => ?_) fun k j hk hj => ?_) (FrzL.refl _))))))))) ?_)
     ·rw [Hp.set_ne _ _ y5.2.1, Hp.set_ne _ _ z3.2.2.2.2.2.1, Hp.set_same]
     ·match k, hk with
      | 0, _ => rfl
      | 1, _ => rfl
      | 2, _ => rfl
     ·obtain rfl : j = 0 := by ((try clear h6); (try clear ho); (try clear hh_ia); (try clear hh_jb); (try clear hh_ib); (try clear z1); (try clear z2); (try clear z3); (try clear z4); (try clear z5); (try clear y5); omega)
      match k, hk with
      | 0, _ => exact .leaf ⟨rfl, _, fun _ _ => rfl, rfl⟩
      | 1, _ => exact .same _
      | 2, _ => exact .same _
     refine Ent.step (Ent.freezeS (id := ib) (st := 1) (n := l.length - 1 + 1) (f := intF (l.take (l.length - 1) ++ [(p.ws.length : Int)])) (s' := Fr.of [(2, pptr p), (8, spansAV p.fl), (9, wsAV p.ws), (10, intsAV l), (19, .sl io 1 (fewP p).length), (20, i64 (fewE p)), (223, .rsl 3 1 fun i => [[.rsl (1 + l.length) 1 (intF (-1 :: l))], [.rsl (l.length - 1 + 1) 1 (intF (l.take (l.length - 1) ++ [(p.ws.length : Int)]))], [.sl ic 1 (l.length - 1 + 1)]].getD i []), (224, i64 ((3 : Nat) : Int)), (225, i64 0)]) ?_ (FrzL.fr (.cons (.same _) (.cons (.same _) (.cons (.same _) (.cons (.same _) (.cons (.same _) (.cons (.same _) (.cons (.rsl (fun k hk h => ?_) fun k j hk hj => ?_) (FrzL.refl _))))))))) ?_)
     ·rw [Hp.del_ne _ z3.2.2.1, Hp.set_ne _ _ y5.2.2.1, Hp.set_same]
     ·match k, hk with
      | 0, _ => rfl
      | 1, _ => rfl
      | 2, _ => rfl
     ·obtain rfl : j = 0 := by ((try clear h6); (try clear ho); (try clear hh_ia); (try clear hh_jb); (try clear hh_ib); (try clear z1); (try clear z2); (try clear z3); (try clear z4); (try clear z5); (try clear y5); omega)
      match k, hk with
      | 0, _ => exact .same _
      | 1, _ => exact .leaf ⟨rfl, _, fun _ _ => rfl, rfl⟩
      | 2, _ => exact .same _
     refine Ent.step (Ent.freezeS (id := ic) (st := 1) (n := l.length - 1 + 1) (f := intF (l.take (l.length - 1) ++ [-2])) (s' := Fr.of [(2, pptr p), (8, spansAV p.fl), (9, wsAV p.ws), (10, intsAV l), (19, .sl io 1 (fewP p).length), (20, i64 (fewE p)), (223, .rsl 3 1 fun i => [intsAV (badP p.ws.length l i)]), (224, i64 ((3 : Nat) : Int)), (225, i64 0)]) ?_ (FrzL.fr (.cons (.same _) (.cons (.same _) (.cons (.same _) (.cons (.same _) (.cons (.same _) (.cons (.same _) (.cons (.rsl (fun k hk h => rfl) fun k j hk hj => ?_) (FrzL.refl _))))))))) ?_)
     ·rw [Hp.del_ne _ z5.2.2.2.1, Hp.del_ne _ z5.2.2.1, Hp.set_same]
     ·obtain rfl : j = 0 := by ((try clear h6); (try clear ho); (try clear hh_ia); (try clear hh_jb); (try clear hh_ib); (try clear z1); (try clear z2); (try clear z3); (try clear z4); (try clear z5); (try clear y5); omega)
      match k, hk with
      | 0, _ =>
        show FrzS _ (.rsl (1 + l.length) 1 (intF (-1 :: l))) (.rsl ((-1 : Int) :: l).length 1 (intF (-1 :: l)))
        rw [lA]; exact .same _
      | 1, _ =>
        show FrzS _ (.rsl (l.length - 1 + 1) 1 (intF (l.take (l.length - 1) ++ [(p.ws.length : Int)]))) (.rsl (l.take (l.length - 1) ++ [(p.ws.length : Int)]).length 1 (intF (l.take (l.length - 1) ++ [(p.ws.length : Int)])))
        rw [lB]; exact .same _
      | 2, _ =>
        show FrzS _ (.sl ic 1 (l.length - 1 + 1)) (.rsl (l.take (l.length - 1) ++ [-2]).length 1 (intF (l.take (l.length - 1) ++ [-2])))
        rw [lB]; exact .leaf ⟨rfl, _, fun _ _ => rfl, rfl⟩
     refine Ent.of [(2, pptr p), (8, spansAV p.fl), (9, wsAV p.ws), (10, intsAV l), (19, .sl io 1 (fewP p).length), (20, i64 (fewE p)), (223, .rsl 3 1 fun i => [intsAV (badP p.ws.length l i)]), (224, i64 ((3 : Nat) : Int)), (225, i64 0)] (H' := H.set io (.row 1 (fewP p).length (intF (fewP p)))) (by simp only [vsAll, Nat.reduceEqDiff, ↓reduceIte, eq_self]) (fun q o hq => ?_) ?_
     ·have n2 : q ≠ ia := fun e => by rw [e, Hp.set_ne _ _ z1.2.1, z1.1] at hq; cases hq
      have n4 : q ≠ ib := fun e => by rw [e, Hp.set_ne _ _ z3.2.1, z3.1] at hq; cases hq
      have n6 : q ≠ ic := fun e => by rw [e, Hp.set_ne _ _ z5.2.1, z5.1] at hq; cases hq
      exact ⟨o, by rw [Hp.del_ne _ n6, Hp.del_ne _ n4, Hp.del_ne _ n2, Hp.set_ne _ _ n6, Hp.set_ne _ _ n4, Hp.set_ne _ _ n2]; exact hq, .refl _⟩
     refine vs_loop (σ := Nat) (fun i => i ≤ 3) (fun i => [(2, pptr p), (8, spansAV p.fl), (9, wsAV p.ws), (10, intsAV l), (19, .sl io 1 (fewP p).length), (20, i64 (fewE p)), (223, .rsl 3 1 fun i => [intsAV (badP p.ws.length l i)]), (224, i64 ((3 : Nat) : Int)), (225, i64 i)]) (fun _ => H.set io (.row 1 (fewP p).length (intF (fewP p)))) (fun i => 3 - i) 0 (Nat.zero_le _) ?_ HSub_rfl fun i hi => ?_
     ·simp only [vsAll, Nat.reduceEqDiff, ↓reduceIte, eq_self, Int.natCast_zero]
     ·simp only [vsAll, binA, binLitA, intA, opA, dstOk, Nat.reduceLT, Nat.reduceEqDiff, Int.reduceNeg, ↓reduceIte, eq_self]
      refine condD (fun hd => ?_) (fun hd => ?_)
      ·have hi3 : i < 3 := by ((try clear h6); (try clear ho); (try clear hh_ia); (try clear hh_jb); (try clear hh_ib); (try clear z1); (try clear z2); (try clear z3); (try clear z4); (try clear z5); (try clear y5); omega)
       have hbE := bad_playE k hl i
       have hbL := bad_len p.ws.length l i
       simp only [vsAll, loadA, loadRow, partA, partOk, indexAddrA, okAll, stAll, opsA, opA, dstOk, nilSliceOp, Nat.reduceLT, Nat.reduceEqDiff, Nat.reduceBEq, Int.reduceNeg, ↓reduceIte, eq_self, wtAll]
       refine ⟨⟨by ((try clear h6); (try clear ho); (try clear hh_ia); (try clear hh_jb); (try clear hh_ib); (try clear z1); (try clear z2); (try clear z3); (try clear z4); (try clear z5); (try clear y5); omega), by ((try clear h6); (try clear ho); (try clear hh_ia); (try clear hh_jb); (try clear hh_ib); (try clear z1); (try clear z2); (try clear z3); (try clear z4); (try clear z5); (try clear y5); omega)⟩, hi3, callK_pure (wplay_tri p (badP p.ws.length l i) _ kn (by ((try clear h6); (try clear ho); (try clear hh_ia); (try clear hh_jb); (try clear hh_ib); (try clear z1); (try clear z2); (try clear z3); (try clear z4); (try clear z5); (try clear y5); omega))) ?_⟩
       simp only [vsAll, binA, binLitA, intA, extractA, opA, dstOk, nilSliceOp, Nat.reduceAdd, Nat.reduceLT, Nat.reduceEqDiff, Nat.reduceBEq, Int.reduceNeg, ↓reduceIte, eq_self, hbE]
       refine ⟨by simp only [InR_i64]; ((try clear h6); (try clear ho); (try clear hh_ia); (try clear hh_jb); (try clear hh_ib); (try clear z1); (try clear z2); (try clear z3); (try clear z4); (try clear z5); (try clear y5); omega), loop_next (i + 1) (by ((try clear h6); (try clear ho); (try clear hh_ia); (try clear hh_jb); (try clear hh_ib); (try clear z1); (try clear z2); (try clear z3); (try clear z4); (try clear z5); (try clear y5); omega)) (by ((try clear h6); (try clear ho); (try clear hh_ia); (try clear hh_jb); (try clear hh_ib); (try clear z1); (try clear z2); (try clear z3); (try clear z4); (try clear z5); (try clear y5); omega)) ?_ HSub_rfl⟩
       simp only [vsAll, Nat.reduceEqDiff, ↓reduceIte, eq_self, Int.natCast_add, Int.natCast_one]
      ·have o1 := out_bad k l (h := (l.length : Int)) (.inr (by ((try clear h6); (try clear ho); (try clear hh_ia); (try clear hh_jb); (try clear hh_ib); (try clear z1); (try clear z2); (try clear z3); (try clear z4); (try clear z5); (try clear y5); omega)))
       have o2 := out_bad k l (h := -1) (.inl (by decide))
       have o3 : outV p l (l.length : Int) = (0, 0) := if_neg (by rw [o1]; decide)
       have o4 : outV p l (-1) = (0, 0) := if_neg (by rw [o2]; decide)
       have hfl : (fewP p).length ≤ 8 := by
        by_cases hz : fewE p = 0
        ·have := (few_spec hz).1; ((try clear h6); (try clear ho); (try clear hh_ia); (try clear hh_jb); (try clear hh_ib); (try clear z1); (try clear z2); (try clear z3); (try clear z4); (try clear z5); (try clear y5); omega)
        ·have e : fewP p = [] := if_neg hz
         rw [e]; decide
       simp only [vsAll, loadA, loadRow, partA, partOk, lenA, okAll, stAll, opsA, opA, dstOk, Nat.reduceLT, Nat.reduceEqDiff, Int.reduceNeg, ↓reduceIte, eq_self, wtAll]
       refine callK_pure (wout_tri p l l.length _ kn (by ((try clear h6); (try clear ho); (try clear hh_ia); (try clear hh_jb); (try clear hh_ib); (try clear z1); (try clear z2); (try clear z3); (try clear z4); (try clear z5); (try clear y5); omega))) ?_
       simp only [vsAll, loadA, loadRow, partA, partOk, extractA, cellA, okAll, stAll, opsA, opA, allocA, newCells, okCells, storeObj, dstOk, nilSliceOp, Nat.reduceAdd, Nat.reduceLT, Nat.reduceEqDiff, Nat.reduceBEq, Int.reduceNeg, ↓reduceIte, eq_self, wtAll, o1, o3]
       intro i37 hh_i37; (try simp only [ite_none] at hh_i37)
       refine callK_pure (wout_tri p l (-1) _ kn (by ((try clear h6); (try clear ho); (try clear hh_ia); (try clear hh_jb); (try clear hh_ib); (try clear z1); (try clear z2); (try clear z3); (try clear z4); (try clear z5); (try clear y5); (try clear hh_i37); omega))) ?_
       simp only [vsAll, binA, binLitA, intA, extractA, lenA, cellA, okParts, buildMutA, partIdx, elemsA, lensA, pickA, partsA, partsOk, opA, allocA, newCells, okCells, storeObj, appendA, guardV, dstOk, nilSliceOp, Nat.reduceAdd, Nat.reduceMul, Nat.reduceLT, Nat.reduceLeDiff, Nat.reduceEqDiff, Nat.reduceBEq, Int.reduceNeg, ↓reduceIte, implies_true, eq_self, wtAll, hh_i37, o2, o4]
       intro i39 hh_i39; (try simp only [ite_none] at hh_i39)
       intro ik hh_ik; (try simp only [ite_none] at hh_ik)
       simp only [vsAll, Int.reduceNeg, ↓reduceIte, eq_self, hh_i39, hh_ik]
       have v1 : H ik = none ∧ ¬ ik = io ∧ ¬ io = ik := by simp_all
       skip
       refine ⟨fun i _ => ⟨rfl, trivial⟩, by ((try clear h6); (try clear ho); (try clear hh_ia); (try clear hh_jb); (try clear hh_ib); (try clear z1); (try clear z2); (try clear z3); (try clear z4); (try clear z5); (try clear y5); (try clear hh_i37); (try clear hh_i39); (try clear hh_ik); (try clear v1); omega), by ((try clear h6); (try clear ho); (try clear hh_ia); (try clear hh_jb); (try clear hh_ib); (try clear z1); (try clear z2); (try clear z3); (try clear z4); (try clear z5); (try clear y5); (try clear hh_i37); (try clear hh_i39); (try clear hh_ik); (try clear v1); omega), ?_⟩
       have RK : Obj.Le (.row 1 (fewP p).length (appF 0 (fewP p).length (fun _ => []) (intF (fewP p)))) (.row 1 (fewP p).length (intF (fewP p))) := row_ext fun q hq => by rw [appF_at (by ((try clear h6); (try clear ho); (try clear hh_ia); (try clear hh_jb); (try clear hh_ib); (try clear z1); (try clear z2); (try clear z3); (try clear z4); (try clear z5); (try clear y5); (try clear hh_i37); (try clear hh_i39); (try clear hh_ik); (try clear v1); omega)), if_neg (by ((try clear h6); (try clear ho); (try clear hh_ia); (try clear hh_jb); (try clear hh_ib); (try clear z1); (try clear z2); (try clear z3); (try clear z4); (try clear z5); (try clear y5); (try clear hh_i37); (try clear hh_i39); (try clear hh_ik); (try clear v1); omega)), Nat.sub_zero]
       refine vs_loop (σ := Nat) (fun i => i ≤ (fewP p).length) (fun i => [(2, pptr p), (8, spansAV p.fl), (9, wsAV p.ws), (19, .sl io 1 (fewP p).length), (20, i64 (fewE p)), (41, .sl ik 1 (fewP p).length), (262, i64 (fewP p).length), (263, i64 i)])
        (fun i => (H.set io (.row 1 (fewP p).length (fun q => if q < i then [i64 (-9)] else intF (fewP p) q))).set ik (.row 1 (fewP p).length (intF (fewP p)))) (fun i => (fewP p).length - i) 0 (Nat.zero_le _) ?_ ?_ fun i hi => ?_
       ·simp only [vsAll, Nat.reduceEqDiff, ↓reduceIte, eq_self, Int.natCast_zero]
       ·refine HSub_put (o' := .row 1 (fewP p).length (appF 0 (fewP p).length (fun _ => []) (intF (fewP p)))) (by simp only [vsAll, ↓reduceIte, eq_self]; try rfl) RK ?_
        refine HSub_put (o' := .row 1 (fewP p).length (intF (fewP p))) (by simp only [vsAll, ↓reduceIte, eq_self, hh_i37, hh_i39, hh_ik]; try rfl) (row_ext fun q hq => by rw [if_neg (Nat.not_lt_zero q)]) ?_
        (repeat (first | exact HSub_rfl | refine HSub_put_eq (by simp only [vsAll, binA, binLitA, intA, aggA, aggV, boolA, nilA2, isConst, unA, loadA, loadRow, partA, partOk, fieldAddrA, indexAddrA, indexA, fieldA, extractA, lenA, nilCheckA, boxA, boxZ, cellA, cellsA, fillA, okParts, buildSliceA, buildMutA, makeSliceA, partIdx, elemsA, lensA, ifaceA, convA, mmA, pickA, okAll, stAll, opsA, partsA, partsOk, opA, allocA, boxMutA, newCells, okCells, storeObj, appendA, guardV, taA, nM, mapUpA, lookA, sliceA, sliceM, sliceS, boundsA, opO, okO, copyA, dstOk, nilA, quietOk, nilSliceOp, deferV, panA, resA, argFr, retA.eq_1, retA.eq_2, Nat.reduceAdd, Nat.reduceSub, Nat.reduceMul, Nat.reduceLT, Nat.reduceLeDiff, Nat.reduceEqDiff, Nat.reduceBEq, Int.reduceAdd, Int.reduceSub, Int.reduceMul, Int.reduceNeg, Int.reduceLE, Int.reduceLT, Int.reduceEq, Int.reduceNe, Int.reduceToNat, ↓reduceIte, reduceCtorEq, implies_true, forall_const, eq_self, ne_eq, wtAll, Try.ntmps10, Try.results10, h6, ho, hh_ia, hh_jb, hh_ib, z1, z2, z3, z4, z5, y5, hh_i37, hh_i39, hh_ik, v1]) ?_ | refine HSub_drop2 (by simp only [eq_self, ho, hh_i37, hh_i39, hh_ik]) ?_ | refine HSub_keep_eq (by simp only [vsAll, binA, binLitA, intA, aggA, aggV, boolA, nilA2, isConst, unA, loadA, loadRow, partA, partOk, fieldAddrA, indexAddrA, indexA, fieldA, extractA, lenA, nilCheckA, boxA, boxZ, cellA, cellsA, fillA, okParts, buildSliceA, buildMutA, makeSliceA, partIdx, elemsA, lensA, ifaceA, convA, mmA, pickA, okAll, stAll, opsA, partsA, partsOk, opA, allocA, boxMutA, newCells, okCells, storeObj, appendA, guardV, taA, nM, mapUpA, lookA, sliceA, sliceM, sliceS, boundsA, opO, okO, copyA, dstOk, nilA, quietOk, nilSliceOp, deferV, panA, resA, argFr, retA.eq_1, retA.eq_2, Nat.reduceAdd, Nat.reduceSub, Nat.reduceMul, Nat.reduceLT, Nat.reduceLeDiff, Nat.reduceEqDiff, Nat.reduceBEq, Int.reduceAdd, Int.reduceSub, Int.reduceMul, Int.reduceNeg, Int.reduceLE, Int.reduceLT, Int.reduceEq, Int.reduceNe, Int.reduceToNat, ↓reduceIte, reduceCtorEq, implies_true, forall_const, eq_self, ne_eq, wtAll, Try.ntmps10, Try.results10, h6, ho, hh_ia, hh_jb, hh_ib, z1, z2, z3, z4, z5, y5, hh_i37, hh_i39, hh_ik, v1]) ?_))
       ·simp only [vsAll, binA, binLitA, intA, opA, dstOk, Nat.reduceLT, Nat.reduceEqDiff, Int.reduceNeg, ↓reduceIte, eq_self]
        refine condD (fun hd => ?_) (fun hd => ?_)
        ·have his : i < (fewP p).length := by ((try clear h6); (try clear ho); (try clear hh_ia); (try clear hh_jb); (try clear hh_ib); (try clear z1); (try clear z2); (try clear z3); (try clear z4); (try clear z5); (try clear y5); (try clear hh_i37); (try clear hh_i39); (try clear hh_ik); (try clear v1); omega)
         simp only [vsAll, binA, binLitA, intA, indexAddrA, cellA, cellsA, opA, newCells, okCells, storeObj, dstOk, nilSliceOp, Nat.reduceLT, Nat.reduceEqDiff, Nat.reduceBEq, Int.reduceNeg, ↓reduceIte, eq_self, wtAll, hh_ik]
         refine ⟨⟨by ((try clear h6); (try clear ho); (try clear hh_ia); (try clear hh_jb); (try clear hh_ib); (try clear z1); (try clear z2); (try clear z3); (try clear z4); (try clear z5); (try clear y5); (try clear hh_i37); (try clear hh_i39); (try clear hh_ik); (try clear v1); omega), by ((try clear h6); (try clear ho); (try clear hh_ia); (try clear hh_jb); (try clear hh_ib); (try clear z1); (try clear z2); (try clear z3); (try clear z4); (try clear z5); (try clear y5); (try clear hh_i37); (try clear hh_i39); (try clear hh_ik); (try clear v1); omega)⟩, his, by simp only [InR_i64]; ((try clear h6); (try clear ho); (try clear hh_ia); (try clear hh_jb); (try clear hh_ib); (try clear z1); (try clear z2); (try clear z3); (try clear z4); (try clear z5); (try clear y5); (try clear hh_i37); (try clear hh_i39); (try clear hh_ik); (try clear v1); omega), loop_next (i + 1) (by ((try clear h6); (try clear ho); (try clear hh_ia); (try clear hh_jb); (try clear hh_ib); (try clear z1); (try clear z2); (try clear z3); (try clear z4); (try clear z5); (try clear y5); (try clear hh_i37); (try clear hh_i39); (try clear hh_ik); (try clear v1); omega)) (by ((try clear h6); (try clear ho); (try clear hh_ia); (try clear hh_jb); (try clear hh_ib); (try clear z1); (try clear z2); (try clear z3); (try clear z4); (try clear z5); (try clear y5); (try clear hh_i37); (try clear hh_i39); (try clear hh_ik); (try clear v1); omega)) ?_ ?_⟩
         ·simp only [vsAll, Nat.reduceEqDiff, ↓reduceIte, eq_self, Int.natCast_add, Int.natCast_one]
         ·refine HSub_put_eq (by simp only [vsAll, Int.reduceNeg, ↓reduceIte, eq_self, hh_ik]; try rfl) ?_
          refine HSub_put (o' := .row 1 (fewP p).length (updF (fewP p).length i (fun q => if q < i then [i64 (-9)] else intF (fewP p) q) [i64 (-9)])) (by simp only [vsAll, Int.reduceNeg, ↓reduceIte, eq_self]; try rfl) (row_ext fun q hq => ?_) ?_
          ·rw [updF_at his hq]
           by_cases e : q = i
           ·rw [if_pos e, if_pos (by ((try clear h6); (try clear ho); (try clear hh_ia); (try clear hh_jb); (try clear hh_ib); (try clear z1); (try clear z2); (try clear z3); (try clear z4); (try clear z5); (try clear y5); (try clear hh_i37); (try clear hh_i39); (try clear hh_ik); (try clear v1); omega))]
           ·rw [if_neg e]
            by_cases e2 : q < i
            ·rw [if_pos e2, if_pos (by ((try clear h6); (try clear ho); (try clear hh_ia); (try clear hh_jb); (try clear hh_ib); (try clear z1); (try clear z2); (try clear z3); (try clear z4); (try clear z5); (try clear y5); (try clear hh_i37); (try clear hh_i39); (try clear hh_ik); (try clear v1); omega))]
            ·rw [if_neg e2, if_neg (by ((try clear h6); (try clear ho); (try clear hh_ia); (try clear hh_jb); (try clear hh_ib); (try clear z1); (try clear z2); (try clear z3); (try clear z4); (try clear z5); (try clear y5); (try clear hh_i37); (try clear hh_i39); (try clear hh_ik); (try clear v1); omega))]
          ·(repeat (first | exact HSub_rfl | refine HSub_put_eq (by simp only [vsAll, binA, binLitA, intA, aggA, aggV, boolA, nilA2, isConst, unA, loadA, loadRow, partA, partOk, fieldAddrA, indexAddrA, indexA, fieldA, extractA, lenA, nilCheckA, boxA, boxZ, cellA, cellsA, fillA, okParts, buildSliceA, buildMutA, makeSliceA, partIdx, elemsA, lensA, ifaceA, convA, mmA, pickA, okAll, stAll, opsA, partsA, partsOk, opA, allocA, boxMutA, newCells, okCells, storeObj, appendA, guardV, taA, nM, mapUpA, lookA, sliceA, sliceM, sliceS, boundsA, opO, okO, copyA, dstOk, nilA, quietOk, nilSliceOp, deferV, panA, resA, argFr, retA.eq_1, retA.eq_2, Nat.reduceAdd, Nat.reduceSub, Nat.reduceMul, Nat.reduceLT, Nat.reduceLeDiff, Nat.reduceEqDiff, Nat.reduceBEq, Int.reduceAdd, Int.reduceSub, Int.reduceMul, Int.reduceNeg, Int.reduceLE, Int.reduceLT, Int.reduceEq, Int.reduceNe, Int.reduceToNat, ↓reduceIte, reduceCtorEq, implies_true, forall_const, eq_self, ne_eq, wtAll, Try.ntmps10, Try.results10, h6, ho, hh_ia, hh_jb, hh_ib, z1, z2, z3, z4, z5, y5, hh_i37, hh_i39, hh_ik, v1]) ?_ | refine HSub_drop2 (by simp only [eq_self, ho, hh_ik]) ?_ | refine HSub_keep_eq (by simp only [vsAll, binA, binLitA, intA, aggA, aggV, boolA, nilA2, isConst, unA, loadA, loadRow, partA, partOk, fieldAddrA, indexAddrA, indexA, fieldA, extractA, lenA, nilCheckA, boxA, boxZ, cellA, cellsA, fillA, okParts, buildSliceA, buildMutA, makeSliceA, partIdx, elemsA, lensA, ifaceA, convA, mmA, pickA, okAll, stAll, opsA, partsA, partsOk, opA, allocA, boxMutA, newCells, okCells, storeObj, appendA, guardV, taA, nM, mapUpA, lookA, sliceA, sliceM, sliceS, boundsA, opO, okO, copyA, dstOk, nilA, quietOk, nilSliceOp, deferV, panA, resA, argFr, retA.eq_1, retA.eq_2, Nat.reduceAdd, Nat.reduceSub, Nat.reduceMul, Nat.reduceLT, Nat.reduceLeDiff, Nat.reduceEqDiff, Nat.reduceBEq, Int.reduceAdd, Int.reduceSub, Int.reduceMul, Int.reduceNeg, Int.reduceLE, Int.reduceLT, Int.reduceEq, Int.reduceNe, Int.reduceToNat, ↓reduceIte, reduceCtorEq, implies_true, forall_const, eq_self, ne_eq, wtAll, Try.ntmps10, Try.results10, h6, ho, hh_ia, hh_jb, hh_ib, z1, z2, z3, z4, z5, y5, hh_i37, hh_i39, hh_ik, v1]) ?_))
        ·simp only [vsAll, loadA, loadRow, partA, partOk, okAll, stAll, opsA, opA, dstOk, Nat.reduceLT, Nat.reduceEqDiff, Int.reduceNeg, ↓reduceIte, eq_self, wtAll]
         refine callK_pure (few_tri p _ kn) ?_
         have hin := rints_tri (fewP p) (fewP p)
         rw [decide_eq_true (rfl : fewP p = fewP p)] at hin
         have hsp := rspans_tri p.fl p.fl
         rw [decide_eq_true (rfl : p.fl = p.fl)] at hsp
         simp only [vsAll, binA, binLitA, intA, extractA, opA, guardV, dstOk, nilSliceOp, Nat.reduceAdd, Nat.reduceLT, Nat.reduceEqDiff, Nat.reduceBEq, Int.reduceNeg, ↓reduceIte, eq_self]
         refine gcall_split (fun _ => ?_) (fun g => by cases g)
         simp only [vsAll, okAll, stAll, opsA, opA, Nat.reduceEqDiff, Int.reduceNeg, ↓reduceIte, eq_self]
         refine callK (tri_freezeD (args' := [intsAV (fewP p), intsAV (fewP p)]) (id := ik) (st := 1) (n := (fewP p).length) (f := intF (fewP p)) (Hp.set_same _ _ _) rfl (fun q hq => ?_) (hin _ (by ((try clear h6); (try clear ho); (try clear hh_ia); (try clear hh_jb); (try clear hh_ib); (try clear z1); (try clear z2); (try clear z3); (try clear z4); (try clear z5); (try clear y5); (try clear hh_i37); (try clear hh_i39); (try clear hh_ik); (try clear v1); omega)) (by ((try clear h6); (try clear ho); (try clear hh_ia); (try clear hh_jb); (try clear hh_ib); (try clear z1); (try clear z2); (try clear z3); (try clear z4); (try clear z5); (try clear y5); (try clear hh_i37); (try clear hh_i39); (try clear hh_ik); (try clear v1); omega)))) ?_
         ·match q, hq with
          | 0, _ => exact .same _
          | 1, _ => exact .hit fun _ _ => rfl
         rintro r H' ⟨rfl, rfl⟩
         rw [set_del (by simp only [vsAll, Int.reduceNeg, ↓reduceIte, eq_self, hh_ik])]
         simp only [vsAll, unA, loadA, loadRow, partA, partOk, fieldAddrA, pickA, opA, guardV, dstOk, Nat.reduceLT, Nat.reduceEqDiff, Int.reduceNeg, ↓reduceIte, implies_true, eq_self, wtAll]
         refine gcall (boo true) (fun _ => ⟨by simp only [vsAll, opA], by simp only [vsAll, okAll, opsA, opA, Nat.reduceEqDiff, ↓reduceIte, eq_self], hsp _ (by ((try clear h6); (try clear ho); (try clear hh_ia); (try clear hh_jb); (try clear hh_ib); (try clear z1); (try clear z2); (try clear z3); (try clear z4); (try clear z5); (try clear y5); (try clear hh_i37); (try clear hh_i39); (try clear hh_ik); (try clear v1); omega)) (by ((try clear h6); (try clear ho); (try clear hh_ia); (try clear hh_jb); (try clear hh_ib); (try clear z1); (try clear z2); (try clear z3); (try clear z4); (try clear z5); (try clear y5); (try clear hh_i37); (try clear hh_i39); (try clear hh_ik); (try clear v1); omega))⟩) ?_
         simp only [vsAll, unA, lenA, pickA, opA, guardV, dstOk, Nat.reduceLT, Nat.reduceEqDiff, Int.reduceNeg, ↓reduceIte, implies_true, eq_self, wtAll]
         refine vs_loop (σ := Nat) (fun j => j ≤ p.ws.length) (fun j => [(2, pptr p), (9, wsAV p.ws), (293, i64 p.ws.length), (294, i64 j)]) (fun _ => H) (fun j => p.ws.length - j) 0 (Nat.zero_le _) ?_ (HSub_drop2 ho HSub_rfl) fun j hj => ?_
         ·simp only [vsAll, Nat.reduceEqDiff, ↓reduceIte, eq_self, Int.natCast_zero]
         ·simp only [vsAll, binA, binLitA, intA, opA, dstOk, Nat.reduceLT, Nat.reduceEqDiff, ↓reduceIte, eq_self]
          refine condD (fun hd2 => ?_) (fun hd2 => ?_)
          ·have hjs : j < p.ws.length := by ((try clear h6); (try clear ho); (try clear hh_ia); (try clear hh_jb); (try clear hh_ib); (try clear z1); (try clear z2); (try clear z3); (try clear z4); (try clear z5); (try clear y5); (try clear hh_i37); (try clear hh_i39); (try clear hh_ik); (try clear v1); omega)
           simp only [vsAll, opA, dstOk, nilSliceOp, Nat.reduceLT, Nat.reduceEqDiff, Nat.reduceBEq, ↓reduceIte, eq_self]
           refine vs_draw2 [0, 0, 0, 0, 0, 0, 0, 0, 0, 0] [] [0, 1, 2, 3, 4, 5, 6, 7, 8, 9] (by decide +kernel) ?_
           simp only [vsAll, binA, binLitA, intA, aggA, loadA, loadRow, partA, partOk, fieldAddrA, indexAddrA, opA, dstOk, Nat.reduceAdd, Nat.reduceLT, Nat.reduceEqDiff, ↓reduceIte, eq_self, wtAll, wsF_at]
           refine ⟨⟨by ((try clear h6); (try clear ho); (try clear hh_ia); (try clear hh_jb); (try clear hh_ib); (try clear z1); (try clear z2); (try clear z3); (try clear z4); (try clear z5); (try clear y5); (try clear hh_i37); (try clear hh_i39); (try clear hh_ik); (try clear v1); omega), by ((try clear h6); (try clear ho); (try clear hh_ia); (try clear hh_jb); (try clear hh_ib); (try clear z1); (try clear z2); (try clear z3); (try clear z4); (try clear z5); (try clear y5); (try clear hh_i37); (try clear hh_i39); (try clear hh_ik); (try clear v1); omega)⟩, hjs, ⟨by ((try clear h6); (try clear ho); (try clear hh_ia); (try clear hh_jb); (try clear hh_ib); (try clear z1); (try clear z2); (try clear z3); (try clear z4); (try clear z5); (try clear y5); (try clear hh_i37); (try clear hh_i39); (try clear hh_ik); (try clear v1); omega), by ((try clear h6); (try clear ho); (try clear hh_ia); (try clear hh_jb); (try clear hh_ib); (try clear z1); (try clear z2); (try clear z3); (try clear z4); (try clear z5); (try clear y5); (try clear hh_i37); (try clear hh_i39); (try clear hh_ik); (try clear v1); omega)⟩, hjs, eq_wt, by simp only [InR_i64]; ((try clear h6); (try clear ho); (try clear hh_ia); (try clear hh_jb); (try clear hh_ib); (try clear z1); (try clear z2); (try clear z3); (try clear z4); (try clear z5); (try clear y5); (try clear hh_i37); (try clear hh_i39); (try clear hh_ik); (try clear v1); omega), loop_next (j + 1) (by ((try clear h6); (try clear ho); (try clear hh_ia); (try clear hh_jb); (try clear hh_ib); (try clear z1); (try clear z2); (try clear z3); (try clear z4); (try clear z5); (try clear y5); (try clear hh_i37); (try clear hh_i39); (try clear hh_ik); (try clear v1); omega)) (by ((try clear h6); (try clear ho); (try clear hh_ia); (try clear hh_jb); (try clear hh_ib); (try clear z1); (try clear z2); (try clear z3); (try clear z4); (try clear z5); (try clear y5); (try clear hh_i37); (try clear hh_i39); (try clear hh_ik); (try clear v1); omega)) ?_ HSub_rfl⟩
           simp only [vsAll, Nat.reduceEqDiff, ↓reduceIte, eq_self, Int.natCast_add, Int.natCast_one]
          ·simp only [vsAll, okAll, stAll, opsA, opA, dstOk, Nat.reduceLT, ↓reduceIte, eq_self]
           refine callK_pure (awake_tri _) ?_
           simp only [vsAll, opA, dstOk, nilSliceOp, resA, retA.eq_1, Nat.reduceLT, Nat.reduceBEq, ↓reduceIte, eq_self, Try.results10]
           exact dropR_pure rfl HSub_rfl
end Go.Proofs.Ytkcgocmjaggdiaa
end
section
set_option linter.unusedVariables false
set_option linter.unusedSimpArgs false
set_option maxRecDepth 100000
namespace Go.Proofs.Ytkcgocmjaggdiaa
open Go.V Go.ChangeShapes Go.WideShapes Go.ChangeAt Go.RowKit
theorem pumpTurned_lifted (os : Os) (started : os.Started) (H : Type) (enc : TypeId × Value → H) :
 ReturnsInHanded {} Try.checked os 10 .any (Rows.pumpTurnedSpec.pre6 enc Try.prog Try.f10 Rows.pumpTurnedRow.domain false) (Rows.pumpTurnedSpec.post enc Try.prog Try.f10 false true false false) := by
 refine returnsInHanded_of_change (C := Try.checked) Try.own started (by kernel_rfl) Try.func10
  (ChangeSpec.witness6 (enc := enc) (C := Try.checked) false ⟨#[], #[.agg #[.slice none 0 0, .int .i64 0, .slice none 0 0, .slice none 0 0, .slice none 0 0], .slice none 0 0], []⟩ 8 (by kernel_rfl) (by kernel_rfl) (by kernel_rfl) (by kernel_rfl)) ?_
 intro W base args ds gs before hval hW hcnd _
 have hW' := hW
 obtain ⟨p, q, hA, hV, rfl, hfz, hnd⟩ := hW
 obtain ⟨rfl, rfl⟩ := trodVars_none hV
 rw [show Try.f10.params.toList = [29, 43] from by kernel_rfl] at hA
 obtain ⟨v0, v1, d0, d1, p0, p1, rfl, rfl, rfl, h0, h1⟩ := trodAll_two hA
 have hval : ∀ (j : Nat) t v, Try.f10.params[j]? = some t → (#[v0, v1] : Array Value)[j]? = some v → Value.okWide Try.prog W .any base t v := hval
 rw [show Try.f10.params = #[29, 43] from by kernel_rfl] at hval
 obtain ⟨x0, b0, r0⟩ := pump_rel (hval 0 29 v0 rfl rfl) h0
 obtain ⟨N1, x1, b1, r1⟩ := by_rel (hval 1 43 v1 rfl rfl) h1
 refine (law_calls (W := W) (args := #[v0, v1]) Try.func10 (by kernel_rfl) rfl (Tri.mono (turned_law x0 N1 x1 H0 b1) ?_) (fun p hp => by cases hp) ⟨rfl, fun k hk => match k, hk with | 0, _ => r0 | 1, _ => r1⟩).mono fun e W' he => ?_
 ·rintro r H' ⟨rfl, _⟩; rfl
 ·obtain ⟨rfl, hh, ho, hp⟩ := he
  exact ⟨_, rfl, law_post (d := 6) rfl (tb := 4) (by kernel_rfl) u4 (by decide +kernel) hW' rfl hh ho hp⟩

theorem pumpTurned_holds : Rows.PumpTurnedSaid :=
 OpenClaim.holds_of_wide (p := Try.pinned) (s := Rows.pumpTurnedSpec) (c := Rows.pumpTurnedRow) 10 Try.f10 rfl rfl rfl rfl rfl rfl rfl ⟨rfl, rfl, rfl, rfl, rfl⟩ rfl rfl rfl rfl rfl (by kernel_rfl) Try.func10 (by kernel_rfl)
  (of_decide_eq_true (by kernel_rfl)) (by unfold Func.isWrapper; first | (rw [if_pos (by decide +kernel)]; kernel_rfl) | (rw [if_neg (by decide +kernel)]; exact ⟨rfl, rfl⟩))
  (fun os started H enc _ => pumpTurned_lifted os started H enc)

end Go.Proofs.Ytkcgocmjaggdiaa
end
