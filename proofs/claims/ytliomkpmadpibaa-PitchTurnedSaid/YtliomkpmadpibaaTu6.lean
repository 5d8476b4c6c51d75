/- WHAT IS PROVED: the given statement of this claim. Conditions: none beyond the given row. -/
import Derived.Test.YtliomkpmadpibaaRows
import Derived.ChangeVars
import Derived.Test.YtliomkpmadpibaaTu5
section
set_option linter.unusedVariables false
set_option linter.unusedSimpArgs false
set_option maxHeartbeats 4000000
set_option maxRecDepth 100000
namespace Go.Proofs.Ytliomkpmadpibaa
open Go.V
/-- A row frozen in what the slots hold. -/
inductive FzL (id st n : Nat) (f : Nat → List AV) : List (Nat × AV) → List (Nat × AV) → Prop
  | nil : FzL id st n f [] []
  | same {t : Nat} {v : AV} {l l' : List (Nat × AV)} : FzL id st n f l l' → FzL id st n f ((t, v) :: l) ((t, v) :: l')
  | hit {t : Nat} {l l' : List (Nat × AV)} : FzL id st n f l l' → FzL id st n f ((t, .sl id st n) :: l) ((t, .rsl n st f) :: l')
theorem FzL.frz {id st n : Nat} {f : Nat → List AV} {l l' : List (Nat × AV)} (h : FzL id st n f l l') : ∀ t, Fr.of l' t = Fr.of l t ∨ (Fr.of l t = .sl id st n ∧ Fr.of l' t = .rsl n st f) := by
  intro t
  induction h with
  | nil => exact .inl rfl
  | same _ ih =>
    simp only [Fr.of]
    split
    · exact .inl rfl
    · exact ih
  | hit _ ih =>
    simp only [Fr.of]
    split
    · exact .inr ⟨rfl, rfl⟩
    · exact ih
theorem HSub_eqn {A B : Hp} (h : ∀ q, B q = none ∨ A q = B q) : Go.V.HSub A B := fun q o hq => by
  rcases h q with e | e
  · rw [e] at hq; cases hq
  · exact ⟨o, by rw [e]; exact hq, .refl _⟩
theorem Fr_nl {id st k t : Nat} {L : List (Nat × AV)} : Nld id st (Fr.of ((k, .lit (.slice none 0 0)) :: L) t) (Fr.of ((k, .sl id st 0) :: L) t) := by
  simp only [Fr.of]
  split
  · exact .hit
  · exact .rfl
theorem FzL.refl {id st n : Nat} {f : Nat → List AV} : ∀ l : List (Nat × AV), FzL id st n f l l
  | [] => .nil
  | (t, v) :: l => .same (FzL.refl l)
/-- Behind the copying nothing is written into the copies. -/
theorem cut_cp {σ : Type} {inv : σ → Prop} {fr : σ → List (Nat × AV)} {hp : σ → Hp} {dsf : σ → List AD} {Q : Post} {sF : Fr} {A H0 : Hp} {B : List (Nat × AV)} (x : σ) (hx : inv x) (p : Pt) (ih is : Nat) (h1 : H0 ih = none) (h2 : H0 is = none) (n12 : ¬ is = ih)
    (hS : Slots sF ((10, .sl ih 1 p.fs.length) :: (11, .sl is 3 p.ps.length) :: B)) (hf : fr x = (10, intsAV p.fs) :: (11, psAV p.ps) :: B) (hS2 : Slots (Fr.of ((10, intsAV p.fs) :: (11, psAV p.ps) :: B)) ((10, intsAV p.fs) :: (11, psAV p.ps) :: B)) (hh : hp x = H0)
    (hH : Go.V.HSub A ((H0.set ih (.row 1 p.fs.length (intF p.fs))).set is (.row 3 p.ps.length (psF p.ps)))) : CutG inv fr hp dsf Q .normal sF (dsf x) A := by
  refine cutG_ent (Ent.of _ hS hH ?_)
  refine cutG_ent (Ent.freeze (id := ih) (st := 1) (n := p.fs.length) (f := intF p.fs) (s' := Fr.of ((10, intsAV p.fs) :: (11, .sl is 3 p.ps.length) :: B)) ?_ (FzL.frz (.hit (.same (FzL.refl _)))) ?_)
  · rw [Hp.set_ne _ _ (fun e => n12 e.symm), Hp.set_same]
  refine cutG_ent (Ent.freeze (id := is) (st := 3) (n := p.ps.length) (f := psF p.ps) (s' := Fr.of ((10, intsAV p.fs) :: (11, psAV p.ps) :: B)) ?_ (FzL.frz (.same (.hit (FzL.refl _)))) ?_)
  · rw [Hp.del_ne _ n12, Hp.set_same]
  refine cutG_of x hx ?_ rfl (HSub_eqn fun q => ?_)
  · rw [hf]; exact hS2
  · rw [hh]
    by_cases e1 : q = ih
    · subst e1; left; exact h1
    by_cases e2 : q = is
    · subst e2; left; exact h2
    right
    rw [Hp.del_ne _ e2, Hp.del_ne _ e1, Hp.set_ne _ _ e2, Hp.set_ne _ _ e1]
theorem eq_po : eqT Try.prog 54 3 := eqT_of (by kernel_rfl) (by kernel_rfl) (by kernel_rfl) (by kernel_rfl) (by kernel_rfl)
def bestL (p : Pt) : List (Int × Int) := if rgtE p true = 0 then bestP p else []
theorem best_len {p : Pt} (h : rgtE p true = 0) : (bestP p).length = p.ps.length := (mem_rpl.1 (best_first h).1).len
/-- Places that are none. -/
def badL (p : Pt) : List (Int × Int) := [(-1, 0), (p.fs.length, 0), (0, -1), (0, p.hr)]
theorem badL_bad {p : Pt} (k : Ok p) {i : Nat} (hi : i < 4) : ¬ (badL p).getD i (0, 0) ∈ places p := by
  have eH := k.H_eq
  rw [mem_places]
  match i, hi with
  | 0, _ => show ¬ ((0 ≤ (-1 : Int) ∧ (-1 : Int) < p.fs.length) ∧ 0 ≤ (0 : Int) ∧ (0 : Int) < p.H); omega
  | 1, _ => show ¬ ((0 ≤ (p.fs.length : Int) ∧ (p.fs.length : Int) < p.fs.length) ∧ 0 ≤ (0 : Int) ∧ (0 : Int) < p.H); omega
  | 2, _ => show ¬ ((0 ≤ (0 : Int) ∧ (0 : Int) < p.fs.length) ∧ 0 ≤ (-1 : Int) ∧ (-1 : Int) < p.H); omega
  | 3, _ => show ¬ ((0 ≤ (0 : Int) ∧ (0 : Int) < p.fs.length) ∧ 0 ≤ p.hr ∧ p.hr < p.H); omega
theorem badL_rng {p : Pt} (k : Ok p) {i : Nat} (hi : i < 4) : (-1 ≤ ((badL p).getD i (0, 0)).1 ∧ ((badL p).getD i (0, 0)).1 ≤ 12) ∧ -1 ≤ ((badL p).getD i (0, 0)).2 ∧ ((badL p).getD i (0, 0)).2 ≤ 12 := by
  have h1 := k.hr
  have h2 := k.nF
  match i, hi with
  | 0, _ => show (-1 ≤ (-1 : Int) ∧ (-1 : Int) ≤ 12) ∧ -1 ≤ (0 : Int) ∧ (0 : Int) ≤ 12; omega
  | 1, _ => show (-1 ≤ (p.fs.length : Int) ∧ (p.fs.length : Int) ≤ 12) ∧ -1 ≤ (0 : Int) ∧ (0 : Int) ≤ 12; omega
  | 2, _ => show (-1 ≤ (0 : Int) ∧ (0 : Int) ≤ 12) ∧ -1 ≤ (-1 : Int) ∧ (-1 : Int) ≤ 12; omega
  | 3, _ => show (-1 ≤ (0 : Int) ∧ (0 : Int) ≤ 12) ∧ -1 ≤ p.hr ∧ p.hr ≤ 12; omega
theorem bad_check {p : Pt} (k : Ok p) {l : List (Int × Int)} {x : Int × Int} {lo : Nat} (hlo : lo ≤ l.length) (hx : ¬ x ∈ places p) : checkW p ((l ++ [x]).drop lo) = 0 ∧ checkR p ((l ++ [x]).drop lo) = 0 ∧ checkE p ((l ++ [x]).drop lo) = 2 := by
  have hm : x ∈ (l ++ [x]).drop lo := by
    rw [List.drop_append_of_le_length hlo]
    simp
  have hp : planB p ((l ++ [x]).drop lo) = false := by
    rw [← Bool.not_eq_true]
    intro h
    rw [planB, Bool.and_eq_true, List.all_eq_true] at h
    exact hx ((placeB_iff k).1 (h.1 x hm))
  have he : errE p (planB p ((l ++ [x]).drop lo)) = 2 := by rw [hp]; exact errE_bad k
  have e : checkE p ((l ++ [x]).drop lo) = 2 := by
    unfold checkE
    rw [if_neg (by rw [he]; decide), he]
  refine ⟨?_, ?_, e⟩
  · unfold checkW; rw [if_neg (by rw [e]; decide)]
  · unfold checkR; rw [if_neg (by rw [e]; decide)]
theorem few_lt {p : Pt} (k : Ok p) : fewN p < 2 ^ p.fs.length := by
  by_cases h0 : rgtE p true = 0
  · exact (few_is k h0).lt
  · rw [fewN, if_neg h0]; exact Nat.two_pow_pos _
theorem cl_lt {p : Pt} (k : Ok p) : clV p < 2 ^ p.ps.length := by
  by_cases h0 : clE p = 0
  · exact (fewV_some ((cl_eq k).trans (if_pos h0))).lt
  · rw [clV, if_neg h0]; exact Nat.two_pow_pos _
theorem turned_law (p : Pt) (N : Nat) (b : Nat → Int) (H : Hp) (hb : N < 2 ^ 63 ∧ ∀ i, i < N → 0 ≤ b i ∧ b i ≤ 255) :
    PTri Try.prog (fnA 12) [p.av, .rsl N 1 (byF b)] H (boo true) := by
  refine Tri.drop ?_
  refine tri_w0 Try.func12 (by kernel_rfl) rfl (by simp only [List.length_append, List.length_cons, List.length_nil, Try.ntmps12]; decide) ?_
  refine wps_cutG6 (m := fun _ => false) (σ := Nat) (fun i7 => H i7 = none ∧ Ok p)
    (fun i7 => [(1, .rsl N 1 (byF b)), (2, pptr p), (5, i64 p.ps.length), (6, i64 p.fs.length), (7, .ref i7 0 5 0 0)])
    (fun i7 => H.set i7 (.box 5 1 fun _ => [i64 p.hr, i64 p.fro, i64 p.per, intsAV (bk p.fs 0), .lit (.slice none 0 0)])) (fun _ => []) ?_ fun i7 hy => ?_
  · simp only [vsAll, loadA, loadRow, partA, partOk, boxA, boxZ, okAll, stAll, opsA, opA, dstOk, nilSliceOp, argFr, Nat.reduceAdd, Nat.reduceLT, Nat.reduceEqDiff, ↓reduceIte, eq_self, wtAll, Try.ntmps12]
    refine callK_pure (fine_tri p _) ?_
    simp only [vsAll, unA, opA, dstOk, Nat.reduceLT, ↓reduceIte, eq_self]
    refine condV (fun hc => ?_) (fun hc => ?_)
    · simp only [vsAll, okAll, stAll, opsA, opA, dstOk, Nat.reduceLT]
      refine callK_pure (awake_tri _) ?_
      simp only [vsAll, opA, dstOk, nilSliceOp, resA, retA.eq_1, Nat.reduceLT, ↓reduceIte, eq_self, Try.results12, CutG_ret]
      exact dropR_pure rfl (by (repeat (first | exact HSub_rfl | refine HSub_put_eq (by simp only [vsAll, binA, binLitA, intA, aggA, aggV, boolA, nilA2, isConst, unA, loadA, loadRow, partA, partOk, fieldAddrA, indexAddrA, indexA, fieldA, extractA, lenA, nilCheckA, boxA, boxZ, cellA, cellsA, fillA, okParts, buildSliceA, buildMutA, makeSliceA, partIdx, elemsA, lensA, ifaceA, convA, mmA, pickA, okAll, stAll, opsA, partsA, partsOk, opA, allocA, boxMutA, newCells, okCells, storeObj, appendA, guardV, taA, nM, mapUpA, lookA, sliceA, sliceS, boundsA, opO, okO, copyA, dstOk, nilA, quietOk, nilSliceOp, deferV, panA, resA, argFr, retA.eq_1, retA.eq_2, Nat.reduceAdd, Nat.reduceSub, Nat.reduceMul, Nat.reduceLT, Nat.reduceLeDiff, Nat.reduceEqDiff, Nat.reduceBEq, Int.reduceAdd, Int.reduceSub, Int.reduceMul, Int.reduceNeg, Int.reduceLE, Int.reduceLT, Int.reduceEq, Int.reduceNe, Int.reduceToNat, ↓reduceIte, reduceCtorEq, implies_true, forall_const, eq_self, ne_eq, arrL, wtAll, Try.ntmps12, Try.results12]) ?_ | refine HSub_drop2 (by simp only [vsAll, binA, binLitA, intA, aggA, aggV, boolA, nilA2, isConst, unA, loadA, loadRow, partA, partOk, fieldAddrA, indexAddrA, indexA, fieldA, extractA, lenA, nilCheckA, boxA, boxZ, cellA, cellsA, fillA, okParts, buildSliceA, buildMutA, makeSliceA, partIdx, elemsA, lensA, ifaceA, convA, mmA, pickA, okAll, stAll, opsA, partsA, partsOk, opA, allocA, boxMutA, newCells, okCells, storeObj, appendA, guardV, taA, nM, mapUpA, lookA, sliceA, sliceS, boundsA, opO, okO, copyA, dstOk, nilA, quietOk, nilSliceOp, deferV, panA, resA, argFr, retA.eq_1, retA.eq_2, Nat.reduceAdd, Nat.reduceSub, Nat.reduceMul, Nat.reduceLT, Nat.reduceLeDiff, Nat.reduceEqDiff, Nat.reduceBEq, Int.reduceAdd, Int.reduceSub, Int.reduceMul, Int.reduceNeg, Int.reduceLE, Int.reduceLT, Int.reduceEq, Int.reduceNe, Int.reduceToNat, ↓reduceIte, reduceCtorEq, implies_true, forall_const, eq_self, ne_eq, arrL, wtAll, Try.ntmps12, Try.results12]) ?_ | refine HSub_keep_eq (by simp only [vsAll, binA, binLitA, intA, aggA, aggV, boolA, nilA2, isConst, unA, loadA, loadRow, partA, partOk, fieldAddrA, indexAddrA, indexA, fieldA, extractA, lenA, nilCheckA, boxA, boxZ, cellA, cellsA, fillA, okParts, buildSliceA, buildMutA, makeSliceA, partIdx, elemsA, lensA, ifaceA, convA, mmA, pickA, okAll, stAll, opsA, partsA, partsOk, opA, allocA, boxMutA, newCells, okCells, storeObj, appendA, guardV, taA, nM, mapUpA, lookA, sliceA, sliceS, boundsA, opO, okO, copyA, dstOk, nilA, quietOk, nilSliceOp, deferV, panA, resA, argFr, retA.eq_1, retA.eq_2, Nat.reduceAdd, Nat.reduceSub, Nat.reduceMul, Nat.reduceLT, Nat.reduceLeDiff, Nat.reduceEqDiff, Nat.reduceBEq, Int.reduceAdd, Int.reduceSub, Int.reduceMul, Int.reduceNeg, Int.reduceLE, Int.reduceLT, Int.reduceEq, Int.reduceNe, Int.reduceToNat, ↓reduceIte, reduceCtorEq, implies_true, forall_const, eq_self, ne_eq, arrL, wtAll, Try.ntmps12, Try.results12]) ?_)))
    · obtain ⟨k, kn⟩ := fine_ok (by simpa using hc)
      have nF := k.nF
      have nP := k.nP
      simp only [vsAll]
      refine vs_draw2 [0, 0, 0, 0, 0, 0, 0, 0] [] [0, 1, 2, 3, 4, 5, 6, 7] (by decide +kernel) ?_
      simp only [vsAll, loadA, loadRow, partA, partOk, fieldAddrA, lenA, cellA, cellsA, opA, allocA, newCells, okCells, storeObj, dstOk, Nat.reduceAdd, Nat.reduceLT, Nat.reduceLeDiff, Nat.reduceEqDiff, ↓reduceIte, eq_self, wtAll]
      intro i7 hh_i7; (try simp only [Hp.set_none, ite_none] at hh_i7)
      refine vs_entL (Ent.nilBox 1 (intF []) (fun id _ => [i64 p.hr, i64 p.fro, i64 p.per, .sl id 1 0, .lit (.slice none 0 0)]) (j := i7) (st' := 5) (n' := 1) (g := fun _ => [i64 p.hr, i64 p.fro, i64 p.per, .lit (.slice none 0 0), .lit (.slice none 0 0)]) (by simp only [vsAll, ↓reduceIte, eq_self]; try rfl) (fun _ _ _ => rfl) (fun id q d hq hd => ?_) fun ih hih => ?_)
      · match d, hd with
        | 0, _ => exact .rfl
        | 1, _ => exact .rfl
        | 2, _ => exact .rfl
        | 3, _ => exact .hit
        | 4, _ => exact .rfl
      simp only [Hp.set_none] at hih
      skip
      refine vs_loop (σ := Nat) (fun i => i ≤ p.fs.length) (fun i => [(1, .rsl N 1 (byF b)), (2, pptr p), (5, i64 p.ps.length), (6, i64 p.fs.length), (7, .ref i7 0 5 0 0), (73, i64 p.fs.length), (74, i64 i)])
        (fun i => (H.set ih (.row 1 (bkL p.fs 0 i).length (intF (bkL p.fs 0 i)))).set i7 (.box 5 1 fun _ => [i64 p.hr, i64 p.fro, i64 p.per, .sl ih 1 (bkL p.fs 0 i).length, .lit (.slice none 0 0)])) (fun i => p.fs.length - i) 0 (Nat.zero_le _) ?_ ?_ fun i hi => ?_
      · simp only [vsAll, argFr, Nat.reduceEqDiff, ↓reduceIte, eq_self, Int.natCast_zero]
      · show Go.V.HSub _ ((H.set ih (.row 1 0 (intF []))).set i7 (.box 5 1 fun _ => [i64 p.hr, i64 p.fro, i64 p.per, .sl ih 1 0, .lit (.slice none 0 0)]))
        (repeat (first | exact HSub_rfl | refine HSub_put_eq (by simp only [vsAll, ↓reduceIte, eq_self, hih]) ?_ | refine HSub_drop2 (by simp only [eq_self, hh_i7, hih]) ?_ | refine HSub_keep_eq (by simp only [vsAll, binA, binLitA, intA, aggA, aggV, boolA, nilA2, isConst, unA, loadA, loadRow, partA, partOk, fieldAddrA, indexAddrA, indexA, fieldA, extractA, lenA, nilCheckA, boxA, boxZ, cellA, cellsA, fillA, okParts, buildSliceA, buildMutA, makeSliceA, partIdx, elemsA, lensA, ifaceA, convA, mmA, pickA, okAll, stAll, opsA, partsA, partsOk, opA, allocA, boxMutA, newCells, okCells, storeObj, appendA, guardV, taA, nM, mapUpA, lookA, sliceA, sliceS, boundsA, opO, okO, copyA, dstOk, nilA, quietOk, nilSliceOp, deferV, panA, resA, argFr, retA.eq_1, retA.eq_2, Nat.reduceAdd, Nat.reduceSub, Nat.reduceMul, Nat.reduceLT, Nat.reduceLeDiff, Nat.reduceEqDiff, Nat.reduceBEq, Int.reduceAdd, Int.reduceSub, Int.reduceMul, Int.reduceNeg, Int.reduceLE, Int.reduceLT, Int.reduceEq, Int.reduceNe, Int.reduceToNat, ↓reduceIte, reduceCtorEq, implies_true, forall_const, eq_self, ne_eq, arrL, wtAll, Try.ntmps12, Try.results12, hh_i7, hih]) ?_))
      · have lb := bkL_len p.fs 0 i
        simp only [vsAll, binA, binLitA, intA, opA, dstOk, Nat.reduceLT, Nat.reduceEqDiff, ↓reduceIte, eq_self]
        refine condD (fun hd => ?_) (fun hd => ?_)
        · have his : i < p.fs.length := by ((try clear hh_i7); (try clear hih); omega)
          have eb : bkL p.fs 0 (i + 1) = bkL p.fs 0 i ++ [p.fs.getD (p.fs.length - 1 - i) 0] := rfl
          have ei : (p.fs.length : Int) - 1 - i = ((p.fs.length - 1 - i : Nat) : Int) := by ((try clear hh_i7); (try clear hih); omega)
          simp only [vsAll, opA, dstOk, nilSliceOp, Nat.reduceLT, Nat.reduceEqDiff, ↓reduceIte, eq_self]
          refine vs_draw2 [0, 0, 0, 0, 0, 0, 0, 0, 0, 0, 0, 1, 2, 3] [([0, 1, 2, 3, 4, 5, 6, 7, 8, 9, 10], [], 11), ([12], [], 13)] [] (by decide +kernel) ?_
          simp only [vsAll, binA, binLitA, intA, loadA, loadRow, partA, partOk, fieldAddrA, indexAddrA, cellA, cellsA, okParts, buildSliceA, partIdx, elemsA, lensA, partsA, partsOk, opA, newCells, okCells, storeObj, appendA, dstOk, Nat.reduceAdd, Nat.reduceMul, Nat.reduceLT, Nat.reduceLeDiff, Nat.reduceEqDiff, ↓reduceIte, eq_self, wtAll, hih, intF_at, ei]
          refine ⟨by simp only [InR_i64]; ((try clear hh_i7); (try clear hih); omega), by simp only [InR_i64]; ((try clear hh_i7); (try clear hih); omega), by ((try clear hh_i7); (try clear hih); omega), by ((try clear hh_i7); (try clear hih); omega), fun q hq => by (have : q = 0 := by ((try clear hh_i7); (try clear hih); omega)); subst this; exact ⟨rfl, trivial⟩, by ((try clear hh_i7); (try clear hih); omega), by ((try clear hh_i7); (try clear hih); omega), by simp only [InR_i64]; ((try clear hh_i7); (try clear hih); omega), loop_next (i + 1) (by ((try clear hh_i7); (try clear hih); omega)) (by ((try clear hh_i7); (try clear hih); omega)) ?_ ?_⟩
          · simp only [vsAll, Nat.reduceEqDiff, ↓reduceIte, eq_self, Int.natCast_add, Int.natCast_one]
          · rw [app_ints _ (p.fs.getD (p.fs.length - 1 - i) 0) _ rfl, eb]
            simp only [List.length_append, List.length_cons, List.length_nil, Nat.zero_add]
            (repeat (first | exact HSub_rfl | refine HSub_put_eq (by simp only [vsAll, ↓reduceIte, eq_self, hih]) ?_ | refine HSub_drop2 (by simp only [eq_self, hh_i7, hih]) ?_ | refine HSub_keep_eq (by simp only [vsAll, binA, binLitA, intA, aggA, aggV, boolA, nilA2, isConst, unA, loadA, loadRow, partA, partOk, fieldAddrA, indexAddrA, indexA, fieldA, extractA, lenA, nilCheckA, boxA, boxZ, cellA, cellsA, fillA, okParts, buildSliceA, buildMutA, makeSliceA, partIdx, elemsA, lensA, ifaceA, convA, mmA, pickA, okAll, stAll, opsA, partsA, partsOk, opA, allocA, boxMutA, newCells, okCells, storeObj, appendA, guardV, taA, nM, mapUpA, lookA, sliceA, sliceS, boundsA, opO, okO, copyA, dstOk, nilA, quietOk, nilSliceOp, deferV, panA, resA, argFr, retA.eq_1, retA.eq_2, Nat.reduceAdd, Nat.reduceSub, Nat.reduceMul, Nat.reduceLT, Nat.reduceLeDiff, Nat.reduceEqDiff, Nat.reduceBEq, Int.reduceAdd, Int.reduceSub, Int.reduceMul, Int.reduceNeg, Int.reduceLE, Int.reduceLT, Int.reduceEq, Int.reduceNe, Int.reduceToNat, ↓reduceIte, reduceCtorEq, implies_true, forall_const, eq_self, ne_eq, arrL, wtAll, Try.ntmps12, Try.results12, hh_i7, hih]) ?_))
        · have ei : i = p.fs.length := by ((try clear hh_i7); (try clear hih); omega)
          subst ei
          simp only [vsAll, ↓reduceIte, eq_self]
          refine cutG_ent (Ent.weak (fun t => AV.Le.refl _) (H' := (H.set ih (.row 1 (bk p.fs 0).length (intF (bk p.fs 0)))).set i7 (.box 5 1 fun _ => [i64 p.hr, i64 p.fro, i64 p.per, .sl ih 1 (bk p.fs 0).length, .lit (.slice none 0 0)])) HSub_rfl ?_)
          refine cutG_ent (Ent.freezeBox (id := ih) (st := 1) (n := (bk p.fs 0).length) (f := intF (bk p.fs 0)) (j := i7) (st' := 5) (n' := 1) (g := fun _ => [i64 p.hr, i64 p.fro, i64 p.per, .sl ih 1 (bk p.fs 0).length, .lit (.slice none 0 0)]) (g' := fun _ => [i64 p.hr, i64 p.fro, i64 p.per, intsAV (bk p.fs 0), .lit (.slice none 0 0)]) (by simp only [vsAll, ↓reduceIte, eq_self, hih]) (by simp only [vsAll, ↓reduceIte, eq_self]) (fun t => .rfl) (fun _ _ => rfl) (fun q c hq hc => ?_) ?_)
          · match c, hc with
            | 0, _ => exact .rfl
            | 1, _ => exact .rfl
            | 2, _ => exact .rfl
            | 3, _ => exact .hit
            | 4, _ => exact .rfl
          obtain ⟨⟨a1, a2⟩, a3⟩ : (¬ ih = i7 ∧ ¬ i7 = ih) ∧ H ih = none := by simp_all
          refine cutG_of i7 ⟨hh_i7, k⟩ (by simp only [vsAll, Nat.reduceEqDiff, ↓reduceIte, eq_self]) rfl (HSub_eqn fun q => ?_)
          clear hih
          simp only [Hp.set, Hp.del]
          by_cases e1 : q = ih
          · subst e1; left; simp only [a1, a3, if_false]
          right
          by_cases e7 : q = i7
          · subst e7; simp only [if_true]
          simp only [e1, e7, if_false]
  · obtain ⟨h7, k⟩ := hy
    skip
    have kn := k.near
    have kt := turn_ok k
    have nF := k.nF
    have nP := k.nP
    have hhr := k.hr
    refine wps_cutG (m := fun _ => false) (σ := Unit) (fun _ => True) (fun _ => [(1, .rsl N 1 (byF b)), (2, pptr p), (5, i64 p.ps.length), (6, i64 p.fs.length), (7, .ref i7 0 5 0 0)]) (fun _ => (H.set i7 (.box 5 1 fun _ => (turnP p).cs))) (fun _ => []) ?_ fun _ _ => ?_
    · simp only [vsAll, loadA, loadRow, partA, partOk, fieldAddrA, lenA, opA, dstOk, Nat.reduceLT, Nat.reduceEqDiff, ↓reduceIte, eq_self, wtAll, Try.ntmps12]
      refine vs_entL (Ent.nilBox 3 (psF []) (fun id _ => [i64 p.hr, i64 p.fro, i64 p.per, intsAV (bk p.fs 0), .sl id 3 0]) (j := i7) (st' := 5) (n' := 1) (g := fun _ => [i64 p.hr, i64 p.fro, i64 p.per, intsAV (bk p.fs 0), .lit (.slice none 0 0)]) (by simp only [vsAll, ↓reduceIte, eq_self]; try rfl) (fun _ _ _ => rfl) (fun id q d hq hd => ?_) fun ih hih => ?_)
      · match d, hd with
        | 0, _ => exact .rfl
        | 1, _ => exact .rfl
        | 2, _ => exact .rfl
        | 3, _ => exact .rfl
        | 4, _ => exact .hit
      simp only [Hp.set_none] at hih
      skip
      refine vs_loop (σ := Nat) (fun i => i ≤ p.ps.length) (fun i => [(1, .rsl N 1 (byF b)), (2, pptr p), (5, i64 p.ps.length), (6, i64 p.fs.length), (7, .ref i7 0 5 0 0), (93, i64 p.ps.length), (94, i64 i)])
        (fun i => (H.set ih (.row 3 (bkL p.ps po0 i).length (psF (bkL p.ps po0 i)))).set i7 (.box 5 1 fun _ => [i64 p.hr, i64 p.fro, i64 p.per, intsAV (bk p.fs 0), .sl ih 3 (bkL p.ps po0 i).length])) (fun i => p.ps.length - i) 0 (Nat.zero_le _) ?_ ?_ fun i hi => ?_
      · simp only [vsAll, Nat.reduceEqDiff, ↓reduceIte, eq_self, Int.natCast_zero]
      · show Go.V.HSub _ ((H.set ih (.row 3 0 (psF []))).set i7 (.box 5 1 fun _ => [i64 p.hr, i64 p.fro, i64 p.per, intsAV (bk p.fs 0), .sl ih 3 0]))
        (repeat (first | exact HSub_rfl | refine HSub_put_eq (by simp only [vsAll, ↓reduceIte, eq_self, hih]) ?_ | refine HSub_drop2 (by simp only [eq_self, h7, hih]) ?_ | refine HSub_keep_eq (by simp only [vsAll, binA, binLitA, intA, aggA, aggV, boolA, nilA2, isConst, unA, loadA, loadRow, partA, partOk, fieldAddrA, indexAddrA, indexA, fieldA, extractA, lenA, nilCheckA, boxA, boxZ, cellA, cellsA, fillA, okParts, buildSliceA, buildMutA, makeSliceA, partIdx, elemsA, lensA, ifaceA, convA, mmA, pickA, okAll, stAll, opsA, partsA, partsOk, opA, allocA, boxMutA, newCells, okCells, storeObj, appendA, guardV, taA, nM, mapUpA, lookA, sliceA, sliceS, boundsA, opO, okO, copyA, dstOk, nilA, quietOk, nilSliceOp, deferV, panA, resA, argFr, retA.eq_1, retA.eq_2, Nat.reduceAdd, Nat.reduceSub, Nat.reduceMul, Nat.reduceLT, Nat.reduceLeDiff, Nat.reduceEqDiff, Nat.reduceBEq, Int.reduceAdd, Int.reduceSub, Int.reduceMul, Int.reduceNeg, Int.reduceLE, Int.reduceLT, Int.reduceEq, Int.reduceNe, Int.reduceToNat, ↓reduceIte, reduceCtorEq, implies_true, forall_const, eq_self, ne_eq, arrL, wtAll, Try.ntmps12, Try.results12, h7, hih]) ?_))
      · have lb := bkL_len p.ps po0 i
        simp only [vsAll, binA, binLitA, intA, opA, dstOk, Nat.reduceLT, Nat.reduceEqDiff, ↓reduceIte, eq_self]
        refine condD (fun hd => ?_) (fun hd => ?_)
        · have his : i < p.ps.length := by ((try clear h7); (try clear hih); omega)
          have eb : bkL p.ps po0 (i + 1) = bkL p.ps po0 i ++ [p.ps.getD (p.ps.length - 1 - i) po0] := rfl
          have ei : (p.ps.length : Int) - 1 - i = ((p.ps.length - 1 - i : Nat) : Int) := by ((try clear h7); (try clear hih); omega)
          simp only [vsAll, opA, dstOk, nilSliceOp, Nat.reduceLT, Nat.reduceEqDiff, ↓reduceIte, eq_self]
          refine vs_draw2 [0, 0, 0, 0, 0, 0, 0, 0, 0, 0, 0, 1, 2, 3] [([0, 1, 2, 3, 4, 5, 6, 7, 8, 9, 10], [], 11), ([12], [], 13)] [] (by decide +kernel) ?_
          simp only [vsAll, binA, binLitA, intA, loadA, loadRow, partA, partOk, fieldAddrA, indexAddrA, cellA, cellsA, okParts, buildSliceA, partIdx, elemsA, lensA, partsA, partsOk, opA, newCells, okCells, storeObj, appendA, dstOk, Nat.reduceAdd, Nat.reduceMul, Nat.reduceLT, Nat.reduceLeDiff, Nat.reduceEqDiff, ↓reduceIte, eq_self, wtAll, hih, psF_at, ei]
          refine ⟨by simp only [InR_i64]; ((try clear h7); (try clear hih); omega), by simp only [InR_i64]; ((try clear h7); (try clear hih); omega), by ((try clear h7); (try clear hih); omega), by ((try clear h7); (try clear hih); omega), fun q hq => by (have : q = 0 := by ((try clear h7); (try clear hih); omega)); subst this; exact ⟨rfl, rfl, rfl, trivial⟩, by ((try clear h7); (try clear hih); omega), by ((try clear h7); (try clear hih); omega), by simp only [InR_i64]; ((try clear h7); (try clear hih); omega), loop_next (i + 1) (by ((try clear h7); (try clear hih); omega)) (by ((try clear h7); (try clear hih); omega)) ?_ ?_⟩
          · simp only [vsAll, Nat.reduceEqDiff, ↓reduceIte, eq_self, Int.natCast_add, Int.natCast_one]
          · rw [app_ps _ (p.ps.getD (p.ps.length - 1 - i) po0) _ rfl, eb]
            simp only [List.length_append, List.length_cons, List.length_nil, Nat.zero_add]
            (repeat (first | exact HSub_rfl | refine HSub_put_eq (by simp only [vsAll, ↓reduceIte, eq_self, hih]) ?_ | refine HSub_drop2 (by simp only [eq_self, h7, hih]) ?_ | refine HSub_keep_eq (by simp only [vsAll, binA, binLitA, intA, aggA, aggV, boolA, nilA2, isConst, unA, loadA, loadRow, partA, partOk, fieldAddrA, indexAddrA, indexA, fieldA, extractA, lenA, nilCheckA, boxA, boxZ, cellA, cellsA, fillA, okParts, buildSliceA, buildMutA, makeSliceA, partIdx, elemsA, lensA, ifaceA, convA, mmA, pickA, okAll, stAll, opsA, partsA, partsOk, opA, allocA, boxMutA, newCells, okCells, storeObj, appendA, guardV, taA, nM, mapUpA, lookA, sliceA, sliceS, boundsA, opO, okO, copyA, dstOk, nilA, quietOk, nilSliceOp, deferV, panA, resA, argFr, retA.eq_1, retA.eq_2, Nat.reduceAdd, Nat.reduceSub, Nat.reduceMul, Nat.reduceLT, Nat.reduceLeDiff, Nat.reduceEqDiff, Nat.reduceBEq, Int.reduceAdd, Int.reduceSub, Int.reduceMul, Int.reduceNeg, Int.reduceLE, Int.reduceLT, Int.reduceEq, Int.reduceNe, Int.reduceToNat, ↓reduceIte, reduceCtorEq, implies_true, forall_const, eq_self, ne_eq, arrL, wtAll, Try.ntmps12, Try.results12, h7, hih]) ?_))
        · have ei : i = p.ps.length := by ((try clear h7); (try clear hih); omega)
          subst ei
          simp only [vsAll, ↓reduceIte, eq_self]
          refine cutG_ent (Ent.weak (fun t => AV.Le.refl _) (H' := (H.set ih (.row 3 (bk p.ps po0).length (psF (bk p.ps po0)))).set i7 (.box 5 1 fun _ => [i64 p.hr, i64 p.fro, i64 p.per, intsAV (bk p.fs 0), .sl ih 3 (bk p.ps po0).length])) HSub_rfl ?_)
          refine cutG_ent (Ent.freezeBox (id := ih) (st := 3) (n := (bk p.ps po0).length) (f := psF (bk p.ps po0)) (j := i7) (st' := 5) (n' := 1) (g := fun _ => [i64 p.hr, i64 p.fro, i64 p.per, intsAV (bk p.fs 0), .sl ih 3 (bk p.ps po0).length]) (g' := fun _ => (turnP p).cs) (by simp only [vsAll, ↓reduceIte, eq_self, hih]) (by simp only [vsAll, ↓reduceIte, eq_self]) (fun t => .rfl) (fun _ _ => rfl) (fun q c hq hc => ?_) ?_)
          · match c, hc with
            | 0, _ => exact .rfl
            | 1, _ => exact .rfl
            | 2, _ => exact .rfl
            | 3, _ => exact .rfl
            | 4, _ => exact .hit
          obtain ⟨⟨a1, a2⟩, a3⟩ : (¬ ih = i7 ∧ ¬ i7 = ih) ∧ H ih = none := by simp_all
          refine cutG_of () trivial (by simp only [vsAll, Nat.reduceEqDiff, ↓reduceIte, eq_self]) rfl (HSub_eqn fun q => ?_)
          clear hih
          simp only [Hp.set, Hp.del]
          by_cases e1 : q = ih
          · subst e1; left; simp only [a1, a3, if_false]
          right
          by_cases e7 : q = i7
          · subst e7; simp only [if_true]
          simp only [e1, e7, if_false]
    · refine wps_cutG (m := mset [111, 115]) (σ := Unit) (fun _ => True) (fun _ => [(10, intsAV p.fs), (11, psAV p.ps), (1, .rsl N 1 (byF b)), (2, pptr p), (5, i64 p.ps.length), (6, i64 p.fs.length), (7, .ref i7 0 5 0 0)]) (fun _ => (H.set i7 (.box 5 1 fun _ => (turnP p).cs))) (fun _ => []) ?_ fun _ _ => ?_
      · simp only [Try.ntmps12]
        refine vs_draw3 [0, 3, 4, 7] [([1, 0, 0, 3, 5, 0, 0, 7, 8, 8], [([1, 2, 5, 6], [2, 6], 0), ([], [6], 3), ([], [6], 4), ([], [], 7)], [8, 9]), ([1, 0, 0, 5, 3, 0, 0, 7, 8, 8], [([1, 2, 5, 6], [2, 6], 0), ([], [2, 6], 4), ([], [6], 3), ([], [], 7)], [8, 9]), ([3, 0, 0, 5, 1, 0, 0, 7, 8, 8], [([1, 2, 5, 6], [2, 6], 4), ([], [2, 6], 0), ([], [6], 3), ([], [], 7)], [8, 9])] (by decide +kernel) fun pn hpn => ?_
        have okF : ∀ i, i < p.fs.length → okCells (intF p.fs i) := fun i _ => ⟨rfl, trivial⟩
        have okS' : ∀ i, i < p.ps.length → okCells (psF p.ps i) := fun i _ => ⟨rfl, rfl, rfl, trivial⟩
        have leF : Obj.Le (.row 1 p.fs.length (appF 0 p.fs.length (fun _ => []) (intF p.fs))) (.row 1 p.fs.length (intF p.fs)) := row_ext fun q hq => by rw [appF_at (by ((try clear h7); omega)), if_neg (by ((try clear h7); omega)), Nat.sub_zero]
        have leS : Obj.Le (.row 3 p.ps.length (appF 0 p.ps.length (fun _ => []) (psF p.ps))) (.row 3 p.ps.length (psF p.ps)) := row_ext fun q hq => by rw [appF_at (by ((try clear h7); omega)), if_neg (by ((try clear h7); omega)), Nat.sub_zero]
        simp only [List.mem_cons, List.not_mem_nil, or_false] at hpn
        rcases hpn with rfl | rfl | rfl
        · simp only [vsAll, loadA, loadRow, partA, partOk, fieldAddrA, okParts, buildMutA, partIdx, elemsA, lensA, partsA, partsOk, opA, appendA, dstOk, Nat.reduceMul, Nat.reduceLT, Nat.reduceLeDiff, Nat.reduceEqDiff, Nat.reduceBEq, ↓reduceIte, eq_self, wtAll]
          intro ih hh_ih; (try simp only [ite_none] at hh_ih)
          refine ⟨okF, by ((try clear h7); (try clear hh_ih); omega), by ((try clear h7); (try clear hh_ih); omega), ?_⟩
          intro is hh_is; (try simp only [ite_none] at hh_is)
          refine ⟨okS', by ((try clear h7); (try clear hh_ih); (try clear hh_is); omega), by ((try clear h7); (try clear hh_ih); (try clear hh_is); omega), ?_⟩
          refine cut_cp () trivial p ih is (H0 := (H.set i7 (.box 5 1 fun _ => (turnP p).cs))) (by simp_all [Hp.set]) (by simp_all [Hp.set]) (by simp_all) (by simp only [vsAll, Nat.reduceEqDiff, ↓reduceIte, eq_self]) rfl (by simp only [vsAll, Nat.reduceEqDiff, ↓reduceIte, eq_self]) rfl ?_
          exact HSub.trans (B := ((H.set i7 (.box 5 1 fun _ => (turnP p).cs)).set ih (.row 1 p.fs.length (appF 0 p.fs.length (fun _ => []) (intF p.fs)))).set is (.row 3 p.ps.length (appF 0 p.ps.length (fun _ => []) (psF p.ps)))) (by (repeat (first | exact HSub_rfl | refine HSub_put_eq (by simp only [vsAll, ↓reduceIte, eq_self, hh_ih, hh_is]) ?_ | refine HSub_drop2 (by simp only [eq_self, h7, hh_ih, hh_is]) ?_ | refine HSub_keep_eq (by simp only [vsAll, binA, binLitA, intA, aggA, aggV, boolA, nilA2, isConst, unA, loadA, loadRow, partA, partOk, fieldAddrA, indexAddrA, indexA, fieldA, extractA, lenA, nilCheckA, boxA, boxZ, cellA, cellsA, fillA, okParts, buildSliceA, buildMutA, makeSliceA, partIdx, elemsA, lensA, ifaceA, convA, mmA, pickA, okAll, stAll, opsA, partsA, partsOk, opA, allocA, boxMutA, newCells, okCells, storeObj, appendA, guardV, taA, nM, mapUpA, lookA, sliceA, sliceS, boundsA, opO, okO, copyA, dstOk, nilA, quietOk, nilSliceOp, deferV, panA, resA, argFr, retA.eq_1, retA.eq_2, Nat.reduceAdd, Nat.reduceSub, Nat.reduceMul, Nat.reduceLT, Nat.reduceLeDiff, Nat.reduceEqDiff, Nat.reduceBEq, Int.reduceAdd, Int.reduceSub, Int.reduceMul, Int.reduceNeg, Int.reduceLE, Int.reduceLT, Int.reduceEq, Int.reduceNe, Int.reduceToNat, ↓reduceIte, reduceCtorEq, implies_true, forall_const, eq_self, ne_eq, arrL, wtAll, Try.ntmps12, Try.results12, h7, hh_ih, hh_is]) ?_))) (HSub.set (HSub.set (HSub.refl _) leF) leS)
        · simp only [vsAll, loadA, loadRow, partA, partOk, fieldAddrA, okParts, buildMutA, partIdx, elemsA, lensA, partsA, partsOk, opA, appendA, dstOk, Nat.reduceMul, Nat.reduceLT, Nat.reduceLeDiff, Nat.reduceEqDiff, Nat.reduceBEq, ↓reduceIte, eq_self, wtAll]
          intro ih hh_ih; (try simp only [ite_none] at hh_ih); intro is hh_is; (try simp only [ite_none] at hh_is)
          simp only [vsAll, ↓reduceIte, eq_self, hh_is]
          refine ⟨okF, by ((try clear h7); (try clear hh_ih); (try clear hh_is); omega), by ((try clear h7); (try clear hh_ih); (try clear hh_is); omega), okS', by ((try clear h7); (try clear hh_ih); (try clear hh_is); omega), by ((try clear h7); (try clear hh_ih); (try clear hh_is); omega), ?_⟩
          refine cut_cp () trivial p ih is (H0 := (H.set i7 (.box 5 1 fun _ => (turnP p).cs))) (by simp_all [Hp.set]) (by simp_all [Hp.set]) (by simp_all) (by simp only [vsAll, Nat.reduceEqDiff, ↓reduceIte, eq_self]) rfl (by simp only [vsAll, Nat.reduceEqDiff, ↓reduceIte, eq_self]) rfl ?_
          exact HSub.trans (B := ((H.set i7 (.box 5 1 fun _ => (turnP p).cs)).set ih (.row 1 p.fs.length (appF 0 p.fs.length (fun _ => []) (intF p.fs)))).set is (.row 3 p.ps.length (appF 0 p.ps.length (fun _ => []) (psF p.ps)))) (by (repeat (first | exact HSub_rfl | refine HSub_put_eq (by simp only [vsAll, ↓reduceIte, eq_self, hh_ih, hh_is]) ?_ | refine HSub_drop2 (by simp only [eq_self, h7, hh_ih, hh_is]) ?_ | refine HSub_keep_eq (by simp only [vsAll, binA, binLitA, intA, aggA, aggV, boolA, nilA2, isConst, unA, loadA, loadRow, partA, partOk, fieldAddrA, indexAddrA, indexA, fieldA, extractA, lenA, nilCheckA, boxA, boxZ, cellA, cellsA, fillA, okParts, buildSliceA, buildMutA, makeSliceA, partIdx, elemsA, lensA, ifaceA, convA, mmA, pickA, okAll, stAll, opsA, partsA, partsOk, opA, allocA, boxMutA, newCells, okCells, storeObj, appendA, guardV, taA, nM, mapUpA, lookA, sliceA, sliceS, boundsA, opO, okO, copyA, dstOk, nilA, quietOk, nilSliceOp, deferV, panA, resA, argFr, retA.eq_1, retA.eq_2, Nat.reduceAdd, Nat.reduceSub, Nat.reduceMul, Nat.reduceLT, Nat.reduceLeDiff, Nat.reduceEqDiff, Nat.reduceBEq, Int.reduceAdd, Int.reduceSub, Int.reduceMul, Int.reduceNeg, Int.reduceLE, Int.reduceLT, Int.reduceEq, Int.reduceNe, Int.reduceToNat, ↓reduceIte, reduceCtorEq, implies_true, forall_const, eq_self, ne_eq, arrL, wtAll, Try.ntmps12, Try.results12, h7, hh_ih, hh_is]) ?_))) (HSub.set (HSub.set (HSub.refl _) leF) leS)
        · simp only [vsAll, loadA, loadRow, partA, partOk, fieldAddrA, okParts, buildMutA, partIdx, elemsA, lensA, partsA, partsOk, opA, appendA, dstOk, Nat.reduceMul, Nat.reduceLT, Nat.reduceLeDiff, Nat.reduceEqDiff, Nat.reduceBEq, ↓reduceIte, eq_self, wtAll]
          intro is hh_is; (try simp only [ite_none] at hh_is); intro ih hh_ih; (try simp only [ite_none] at hh_ih)
          simp only [vsAll, ↓reduceIte, eq_self, hh_ih]
          refine ⟨okF, by ((try clear h7); (try clear hh_is); (try clear hh_ih); omega), by ((try clear h7); (try clear hh_is); (try clear hh_ih); omega), okS', by ((try clear h7); (try clear hh_is); (try clear hh_ih); omega), by ((try clear h7); (try clear hh_is); (try clear hh_ih); omega), ?_⟩
          refine cut_cp () trivial p ih is (H0 := (H.set i7 (.box 5 1 fun _ => (turnP p).cs))) (by simp_all [Hp.set]) (by simp_all [Hp.set]) (by simp_all) (by simp only [vsAll, Nat.reduceEqDiff, ↓reduceIte, eq_self]) rfl (by simp only [vsAll, Nat.reduceEqDiff, ↓reduceIte, eq_self]) rfl ?_
          exact HSub.trans (B := ((H.set i7 (.box 5 1 fun _ => (turnP p).cs)).set ih (.row 1 p.fs.length (appF 0 p.fs.length (fun _ => []) (intF p.fs)))).set is (.row 3 p.ps.length (appF 0 p.ps.length (fun _ => []) (psF p.ps)))) (by (repeat (first | exact HSub_rfl | refine HSub_put_eq (by simp only [vsAll, ↓reduceIte, eq_self, hh_is, hh_ih]) ?_ | refine HSub_drop2 (by simp only [eq_self, h7, hh_is, hh_ih]) ?_ | refine HSub_keep_eq (by simp only [vsAll, binA, binLitA, intA, aggA, aggV, boolA, nilA2, isConst, unA, loadA, loadRow, partA, partOk, fieldAddrA, indexAddrA, indexA, fieldA, extractA, lenA, nilCheckA, boxA, boxZ, cellA, cellsA, fillA, okParts, buildSliceA, buildMutA, makeSliceA, partIdx, elemsA, lensA, ifaceA, convA, mmA, pickA, okAll, stAll, opsA, partsA, partsOk, opA, allocA, boxMutA, newCells, okCells, storeObj, appendA, guardV, taA, nM, mapUpA, lookA, sliceA, sliceS, boundsA, opO, okO, copyA, dstOk, nilA, quietOk, nilSliceOp, deferV, panA, resA, argFr, retA.eq_1, retA.eq_2, Nat.reduceAdd, Nat.reduceSub, Nat.reduceMul, Nat.reduceLT, Nat.reduceLeDiff, Nat.reduceEqDiff, Nat.reduceBEq, Int.reduceAdd, Int.reduceSub, Int.reduceMul, Int.reduceNeg, Int.reduceLE, Int.reduceLT, Int.reduceEq, Int.reduceNe, Int.reduceToNat, ↓reduceIte, reduceCtorEq, implies_true, forall_const, eq_self, ne_eq, arrL, wtAll, Try.ntmps12, Try.results12, h7, hh_is, hh_ih]) ?_))) (HSub.set (HSub.set (HSub.refl _) leF) leS)
      · refine wps_cutG3 (m := mset [124]) (σ := List (Int × Int)) (fun l => PlanF p l) (fun l => [(12, plsAV l), (13, plsAV (turnL p l)), (10, intsAV p.fs), (11, psAV p.ps), (1, .rsl N 1 (byF b)), (2, pptr p), (5, i64 p.ps.length), (6, i64 p.fs.length), (7, .ref i7 0 5 0 0)]) (fun _ => (H.set i7 (.box 5 1 fun _ => (turnP p).cs))) (fun _ => []) ?_ fun l hl => ?_
        · simp only [vsAll, loadA, loadRow, partA, partOk, okAll, stAll, opsA, opA, dstOk, Nat.reduceLT, Nat.reduceEqDiff, ↓reduceIte, eq_self, wtAll, Try.ntmps12]
          refine callK (madeF_tri p N b _ k hb.1 hb.2) ?_
          rintro r H' ⟨rfl, l, hl, rfl⟩
          have hll := hl.len
          simp only [vsAll, lenA, makeSliceA, opA, dstOk, nilSliceOp, Nat.reduceLT, Nat.reduceEqDiff, Nat.reduceBEq, ↓reduceIte, eq_self, wtAll]
          refine ⟨by ((try clear h7); omega), by ((try clear h7); omega), by ((try clear h7); omega), ?_⟩
          intro i13 hh_i13; (try simp only [ite_none] at hh_i13)
          refine vs_loop (σ := Nat) (fun i => i ≤ l.length) (fun i => [(12, plsAV l), (13, .sl i13 2 l.length), (10, intsAV p.fs), (11, psAV p.ps), (1, .rsl N 1 (byF b)), (2, pptr p), (5, i64 p.ps.length), (6, i64 p.fs.length), (7, .ref i7 0 5 0 0), (125, plsAV l), (126, i64 l.length), (127, i64 i)])
            (fun i => (H.set i7 (.box 5 1 fun _ => (turnP p).cs)).set i13 (.row 2 l.length fun q => plC (if l.length - i ≤ q then turnX p (l.getD (l.length - 1 - q) (0, 0)) else (0, 0)))) (fun i => l.length - i) 0 (Nat.zero_le _) ?_ ?_ fun i hi => ?_
          · simp only [vsAll, Nat.reduceEqDiff, ↓reduceIte, eq_self, Int.natCast_zero]
          · refine HSub.set (HSub.refl _) (row_ext fun q hq => ?_)
            rw [if_neg (by ((try clear h7); (try clear hh_i13); omega))]
          · simp only [vsAll, binA, binLitA, intA, opA, dstOk, Nat.reduceLT, Nat.reduceEqDiff, ↓reduceIte, eq_self]
            refine condD (fun hd => ?_) (fun hd => ?_)
            · have his : i < l.length := by ((try clear h7); (try clear hh_i13); omega)
              have hln : l.length = p.ps.length := by ((try clear h7); (try clear hh_i13); omega)
              have hxm := hl.pl _ (mem_getD l i (0, 0) his)
              generalize hx : l.getD i (0, 0) = x at hxm
              obtain ⟨f, t, rfl, hf, ht⟩ := place_nat hxm
              have eH := k.H_eq
              skip
              have ei : (p.ps.length : Int) - 1 - i = ((p.ps.length - 1 - i : Nat) : Int) := by ((try clear h7); (try clear hh_i13); (try clear hx); omega)
              simp only [vsAll, binA, binLitA, intA, loadA, loadRow, partA, partOk, fieldAddrA, indexAddrA, cellA, cellsA, fillA, okParts, partsA, partsOk, opA, allocA, newCells, okCells, storeObj, dstOk, nilSliceOp, Nat.reduceAdd, Nat.reduceLT, Nat.reduceLeDiff, Nat.reduceEqDiff, Nat.reduceBEq, ↓reduceIte, eq_self, wtAll, hx, plF_at]
              refine ⟨⟨by ((try clear h7); (try clear hh_i13); (try clear hx); omega), by ((try clear h7); (try clear hh_i13); (try clear hx); omega)⟩, his, ?_⟩
              intro i15 hh_i15; (try simp only [ite_none] at hh_i15)
              simp only [vsAll, ↓reduceIte, eq_self, hh_i15, ei]
              refine ⟨by simp only [InR_i64]; ((try clear h7); (try clear hh_i13); (try clear hx); (try clear hh_i15); omega), by simp only [InR_i64]; ((try clear h7); (try clear hh_i13); (try clear hx); (try clear hh_i15); omega), by simp only [InR_i64]; ((try clear h7); (try clear hh_i13); (try clear hx); (try clear hh_i15); omega), by simp only [InR_i64]; ((try clear h7); (try clear hh_i13); (try clear hx); (try clear hh_i15); omega), ⟨by ((try clear h7); (try clear hh_i13); (try clear hx); (try clear hh_i15); omega), by ((try clear h7); (try clear hh_i13); (try clear hx); (try clear hh_i15); omega)⟩, by ((try clear h7); (try clear hh_i13); (try clear hx); (try clear hh_i15); omega), by simp only [InR_i64]; ((try clear h7); (try clear hh_i13); (try clear hx); (try clear hh_i15); omega), loop_next (i + 1) (by ((try clear h7); (try clear hh_i13); (try clear hx); (try clear hh_i15); omega)) (by ((try clear h7); (try clear hh_i13); (try clear hx); (try clear hh_i15); omega)) ?_ ?_⟩
              · simp only [vsAll, Nat.reduceEqDiff, ↓reduceIte, eq_self, Int.natCast_add, Int.natCast_one]
              · refine HSub.trans (B := (H.set i7 (.box 5 1 fun _ => (turnP p).cs)).set i13 (.row 2 l.length (updF l.length (p.ps.length - 1 - i) (fun q => plC (if l.length - i ≤ q then turnX p (l.getD (l.length - 1 - q) (0, 0)) else (0, 0))) [i64 ((p.fs.length : Int) - 1 - f), i64 t]))) (by (repeat (first | exact HSub_rfl | refine HSub_put_eq (by simp only [vsAll, ↓reduceIte, eq_self, hh_i13, hh_i15]) ?_ | refine HSub_drop2 (by simp only [eq_self, h7, hh_i13, hh_i15]) ?_ | refine HSub_keep_eq (by simp only [vsAll, binA, binLitA, intA, aggA, aggV, boolA, nilA2, isConst, unA, loadA, loadRow, partA, partOk, fieldAddrA, indexAddrA, indexA, fieldA, extractA, lenA, nilCheckA, boxA, boxZ, cellA, cellsA, fillA, okParts, buildSliceA, buildMutA, makeSliceA, partIdx, elemsA, lensA, ifaceA, convA, mmA, pickA, okAll, stAll, opsA, partsA, partsOk, opA, allocA, boxMutA, newCells, okCells, storeObj, appendA, guardV, taA, nM, mapUpA, lookA, sliceA, sliceS, boundsA, opO, okO, copyA, dstOk, nilA, quietOk, nilSliceOp, deferV, panA, resA, argFr, retA.eq_1, retA.eq_2, Nat.reduceAdd, Nat.reduceSub, Nat.reduceMul, Nat.reduceLT, Nat.reduceLeDiff, Nat.reduceEqDiff, Nat.reduceBEq, Int.reduceAdd, Int.reduceSub, Int.reduceMul, Int.reduceNeg, Int.reduceLE, Int.reduceLT, Int.reduceEq, Int.reduceNe, Int.reduceToNat, ↓reduceIte, reduceCtorEq, implies_true, forall_const, eq_self, ne_eq, arrL, wtAll, Try.ntmps12, Try.results12, h7, hh_i13, hx, hh_i15]) ?_))) (HSub.set (HSub.refl _) (row_ext fun q hq => ?_))
                rw [upd_at _ _ _ _ _ (by ((try clear h7); (try clear hh_i13); (try clear hx); (try clear hh_i15); omega)) hq]
                split
                · rename_i e; subst e
                  rw [if_pos (by ((try clear h7); (try clear hh_i13); (try clear hx); (try clear hh_i15); omega)), show l.length - 1 - (p.ps.length - 1 - i) = i by ((try clear h7); (try clear hh_i13); (try clear hx); (try clear hh_i15); omega), hx]
                  rfl
                · have e2 : (l.length - i ≤ q) = (l.length - (i + 1) ≤ q) := propext ⟨fun _ => by ((try clear h7); (try clear hh_i13); (try clear hx); (try clear hh_i15); omega), fun _ => by ((try clear h7); (try clear hh_i13); (try clear hx); (try clear hh_i15); omega)⟩
                  simp only [e2]
            · have ei : i = l.length := by ((try clear h7); (try clear hh_i13); omega)
              subst ei
              simp only [vsAll, ↓reduceIte, eq_self]
              have etl : AV.rsl l.length 2 (plF (turnL p l)) = plsAV (turnL p l) := by
                show AV.rsl l.length 2 _ = AV.rsl (turnL p l).length 2 _
                rw [turnL_len]
              refine cutG_ent (Ent.of [(13, .sl i13 2 l.length), (12, plsAV l), (10, intsAV p.fs), (11, psAV p.ps), (1, .rsl N 1 (byF b)), (2, pptr p), (5, i64 p.ps.length), (6, i64 p.fs.length), (7, .ref i7 0 5 0 0)] (by simp only [vsAll, Nat.reduceEqDiff, ↓reduceIte, eq_self]) (H' := (H.set i7 (.box 5 1 fun _ => (turnP p).cs)).set i13 (.row 2 l.length (plF (turnL p l)))) ?_ ?_)
              · refine HSub.set (HSub.refl _) (row_ext fun q hq => ?_)
                rw [if_pos (by ((try clear h7); (try clear hh_i13); omega)), plF_at, turnL_get p l hq]
              refine cutG_ent (Ent.freeze (id := i13) (st := 2) (n := l.length) (f := plF (turnL p l)) (s' := Fr.of [(13, .rsl l.length 2 (plF (turnL p l))), (12, plsAV l), (10, intsAV p.fs), (11, psAV p.ps), (1, .rsl N 1 (byF b)), (2, pptr p), (5, i64 p.ps.length), (6, i64 p.fs.length), (7, .ref i7 0 5 0 0)]) (Hp.set_same _ _ _) (FzL.frz (.hit (FzL.refl _))) ?_)
              rw [etl]
              refine cutG_of l hl (by simp only [vsAll, Nat.reduceEqDiff, ↓reduceIte, eq_self]) rfl (HSub_eqn fun q => ?_)
              by_cases e1 : q = i13
              · subst e1; left; simp_all [Hp.set]
              right
              rw [Hp.del_ne _ e1, Hp.set_ne _ _ e1]
        · have hll := hl.len
          have hll4 : l.length ≤ 4 := by ((try clear h7); omega)
          have eE : errE p true = 0 := errE_ok k
          have eEt : errE (turnP p) true = 0 := errE_ok kt
          have c1 : cntE p = 0 := eE
          have c2 : cntV p = (rpl p).length := if_pos c1
          have c3 : cntE (turnP p) = 0 := eEt
          have c4 : cntV (turnP p) = (rpl p).length := (if_pos c3).trans (turn_cnt p)
          have knt := kt.near
          have hPe : bestL p = if rgtE p true = 0 then bestP p else [] := rfl
          have hPl : (bestL p).length ≤ 4 := by
            unfold bestL
            split
            · rename_i h; rw [best_len h]; exact nP
            · exact Nat.zero_le _
          have hrt : rtB (turnP p) (turnL p l) = rtB p l := by
            rw [Bool.eq_iff_iff, rtB_iff kt, rtB_iff k]
            exact turn_right_iff
          have htl : (turnL p l).length ≤ 41 := by rw [turnL_len]; ((try clear h7); omega)
          refine wps_cutG4 (m := fun _ => false) (σ := Nat) (fun id => ¬ id = i7 ∧ H id = none)
            (fun id => [(21, .sl id 2 (bestL p).length), (12, plsAV l), (16, i64 ((rpl p).length : Nat)), (17, i64 0), (18, i64 ((rpl p).length : Nat)), (19, i64 0), (20, i64 (bestV p)), (22, i64 (rgtE p true)), (10, intsAV p.fs), (11, psAV p.ps), (1, .rsl N 1 (byF b)), (2, pptr p), (5, i64 p.ps.length), (6, i64 p.fs.length), (7, .ref i7 0 5 0 0)])
            (fun id => (H.set i7 (.box 5 1 fun _ => (turnP p).cs)).set id (.row 2 (bestL p).length (plF (bestL p)))) (fun _ => []) ?_ fun id hid => ?_
          · simp only [vsAll, Try.ntmps12]
            refine vs_draw2 [0, 0, 0, 0, 0, 0, 0] [] [0, 1, 2, 3, 4, 5, 6] (by decide +kernel) ?_
            simp only [vsAll, loadA, loadRow, partA, partOk, opA, dstOk, Nat.reduceLT, Nat.reduceEqDiff, ↓reduceIte, eq_self, wtAll]
            refine qcall _ ⟨trivial, by simp only [vsAll, okAll, opsA, opA, Nat.reduceEqDiff, ↓reduceIte, eq_self], right_tri p l _ kn (by ((try clear h7); omega))⟩ ?_
            simp only [vsAll, loadA, loadRow, partA, partOk, opA, dstOk, Nat.reduceLT, Nat.reduceEqDiff, ↓reduceIte, eq_self, wtAll]
            refine qcall _ ⟨trivial, by simp only [vsAll, okAll, opsA, opA, Nat.reduceEqDiff, ↓reduceIte, eq_self], right_tri (turnP p) (turnL p l) _ knt htl⟩ ?_
            simp only [vsAll, binA, binLitA, boolA, opA, dstOk, Nat.reduceLT, Nat.reduceEqDiff, ↓reduceIte, eq_self, wtAll, hrt]
            refine condV (fun hc => ?_) (fun _ => ?_)
            · exfalso; cases hb2 : rtB p l <;> rw [hb2] at hc <;> cases hc
            · simp only [vsAll, loadA, loadRow, partA, partOk, okAll, stAll, opsA, opA, dstOk, Nat.reduceLT, Nat.reduceEqDiff, ↓reduceIte, eq_self, wtAll]
              refine callK_pure (wcount_tri p _ kn) ?_
              rw [c1, c2]
              simp only [vsAll, loadA, loadRow, partA, partOk, extractA, okAll, stAll, opsA, opA, dstOk, nilSliceOp, Nat.reduceAdd, Nat.reduceLT, Nat.reduceEqDiff, ↓reduceIte, eq_self, wtAll]
              refine callK_pure (wcount_tri (turnP p) _ knt) ?_
              rw [c3, c4]
              simp only [vsAll, loadA, loadRow, partA, partOk, extractA, okAll, stAll, opsA, opA, dstOk, nilSliceOp, Nat.reduceAdd, Nat.reduceLT, Nat.reduceEqDiff, ↓reduceIte, eq_self, wtAll]
              refine callK (wbestM_tri p _ kn) ?_
              rintro r H' (⟨he, id, hid, rfl, rfl⟩ | ⟨hn, rfl, rfl⟩)
              · rw [if_pos he] at hPe
                simp only [Hp.set_none] at hid
                obtain ⟨⟨d1, _⟩, d2⟩ := hid
                simp only [vsAll, extractA, opA, dstOk, nilSliceOp, Nat.reduceAdd, Nat.reduceLT, Nat.reduceEqDiff, ↓reduceIte, eq_self]
                refine cutG_of id ⟨d1, d2⟩ (by simp only [vsAll, Nat.reduceEqDiff, ↓reduceIte, eq_self, he, hPe]) rfl ?_
                rw [hPe]
                exact HSub_rfl
              · rw [if_neg hn] at hPe
                have hb0 : bestV p = 0 := by unfold bestV; rw [if_neg hn]
                simp only [vsAll, extractA, opA, dstOk, nilA, nilSliceOp, Nat.reduceAdd, Nat.reduceLT, Nat.reduceEqDiff, ↓reduceIte, eq_self]
                refine cutG_ent (Ent.of [(21, .lit (.slice none 0 0)), (12, plsAV l), (16, i64 ((rpl p).length : Nat)), (17, i64 0), (18, i64 ((rpl p).length : Nat)), (19, i64 0), (20, i64 0), (22, i64 (rgtE p true)), (10, intsAV p.fs), (11, psAV p.ps), (1, .rsl N 1 (byF b)), (2, pptr p), (5, i64 p.ps.length), (6, i64 p.fs.length), (7, .ref i7 0 5 0 0)] (by simp only [vsAll, Nat.reduceEqDiff, ↓reduceIte, eq_self]) HSub_rfl ?_)
                refine cutG_ent (Ent.nilFr (s' := fun id => Fr.of [(21, .sl id 2 0), (12, plsAV l), (16, i64 ((rpl p).length : Nat)), (17, i64 0), (18, i64 ((rpl p).length : Nat)), (19, i64 0), (20, i64 0), (22, i64 (rgtE p true)), (10, intsAV p.fs), (11, psAV p.ps), (1, .rsl N 1 (byF b)), (2, pptr p), (5, i64 p.ps.length), (6, i64 p.fs.length), (7, .ref i7 0 5 0 0)]) 2 (plF []) (fun id t => ?_) fun id hid => ?_)
                · exact Fr_nl
                · simp only [Hp.set_none] at hid
                  obtain ⟨⟨d1, _⟩, d2⟩ := hid
                  refine cutG_of id ⟨d1, d2⟩ (by simp only [vsAll, Nat.reduceEqDiff, ↓reduceIte, eq_self, hPe, hb0]) rfl ?_
                  rw [hPe]
                  exact HSub_rfl
          · obtain ⟨n7, hidn⟩ := hid
            have n7' : ¬ i7 = id := fun e => n7 e.symm
            skip
            have HR : True := trivial
            refine wps_cutG7 (m := fun _ => false) (σ := Unit) (fun _ => True)
              (fun _ => [(21, .sl id 2 (bestL p).length), (12, plsAV l), (22, i64 (rgtE p true)), (10, intsAV p.fs), (11, psAV p.ps), (1, .rsl N 1 (byF b)), (2, pptr p), (5, i64 p.ps.length), (6, i64 p.fs.length), (7, .ref i7 0 5 0 0)])
              (fun _ => (H.set i7 (.box 5 1 fun _ => (turnP p).cs)).set id (.row 2 (bestL p).length (plF (bestL p)))) (fun _ => []) ?_ fun _ _ => ?_
            · have hEt := turn_E k
              have hBt := turn_best k
              have hClE := turn_clE k
              have hfew := turn_few k
              have hcl := turn_cl k
              have hp8 : 2 ^ p.fs.length ≤ 2 ^ 3 := Nat.pow_le_pow_right (by decide) nF
              have hp16 : 2 ^ p.ps.length ≤ 2 ^ 4 := Nat.pow_le_pow_right (by decide) nP
              have lt1 := few_lt k
              have lt2 := few_lt kt
              rw [turn_nF] at lt2
              have lt3 := cl_lt k
              have lt4 := cl_lt kt
              rw [turn_nP] at lt4
              have hs1 := fun H => size_tri (fewN p) H (by ((try clear h7); (try clear n7); (try clear n7'); (try clear hidn); omega))
              have hs2 := fun H => size_tri (fewN (turnP p)) H (by ((try clear h7); (try clear n7); (try clear n7'); (try clear hidn); omega))
              have hs3 := fun H => size_tri (clV p) H (by ((try clear h7); (try clear n7); (try clear n7'); (try clear hidn); omega))
              have hs4 := fun H => size_tri (clV (turnP p)) H (by ((try clear h7); (try clear n7); (try clear n7'); (try clear hidn); omega))
              rw [hfew] at hs2
              rw [hcl] at hs4
              simp only [vsAll, loadA, loadRow, partA, partOk, okAll, stAll, opsA, opA, dstOk, Nat.reduceLT, Nat.reduceEqDiff, ↓reduceIte, eq_self, wtAll, Try.ntmps12, n7']
              refine callK_pure (wbest_tri (turnP p) _ knt) ?_
              rw [hBt, hEt]
              simp only [vsAll, loadA, loadRow, partA, partOk, extractA, okAll, stAll, opsA, opA, dstOk, nilSliceOp, Nat.reduceAdd, Nat.reduceLT, Nat.reduceEqDiff, ↓reduceIte, eq_self, wtAll, bestA_ok, bestA_st]
              refine callK_pure (wfewest_tri p _ kn) ?_
              simp only [vsAll, loadA, loadRow, partA, partOk, extractA, okAll, stAll, opsA, opA, dstOk, nilSliceOp, Nat.reduceAdd, Nat.reduceLT, Nat.reduceEqDiff, ↓reduceIte, eq_self, wtAll, n7']
              refine callK_pure (wfewest_tri (turnP p) _ knt) ?_
              rw [hEt]
              simp only [vsAll, loadA, loadRow, partA, partOk, extractA, okAll, stAll, opsA, opA, dstOk, nilSliceOp, Nat.reduceAdd, Nat.reduceLT, Nat.reduceEqDiff, ↓reduceIte, eq_self, wtAll]
              refine callK_pure (wclash_tri p _ kn) ?_
              simp only [vsAll, loadA, loadRow, partA, partOk, extractA, okAll, stAll, opsA, opA, dstOk, nilSliceOp, Nat.reduceAdd, Nat.reduceLT, Nat.reduceEqDiff, ↓reduceIte, eq_self, wtAll, n7']
              refine callK_pure (wclash_tri (turnP p) _ knt) ?_
              rw [hClE]
              generalize pop (fewN p) = pp at hs1 hs2
              generalize pop (clV p) = pc at hs3 hs4
              generalize fewN p = v1 at lt1 hs1 ⊢
              generalize fewN (turnP p) = v2 at lt2 hs2 ⊢
              generalize clV p = v3 at lt3 hs3 ⊢
              generalize clV (turnP p) = v4 at lt4 hs4 ⊢
              have d1 : decide ((v1 : Int) < 0) = false := decide_eq_false (by ((try clear h7); (try clear n7); (try clear n7'); (try clear hidn); omega))
              have d2 : decide ((v2 : Int) < 0) = false := decide_eq_false (by ((try clear h7); (try clear n7); (try clear n7'); (try clear hidn); omega))
              have d3 : decide ((v3 : Int) < 0) = false := decide_eq_false (by ((try clear h7); (try clear n7); (try clear n7'); (try clear hidn); omega))
              have d4 : decide ((v4 : Int) < 0) = false := decide_eq_false (by ((try clear h7); (try clear n7); (try clear n7'); (try clear hidn); omega))
              simp only [vsAll, binA, binLitA, intA, extractA, pickA, opA, guardV, dstOk, nilSliceOp, Nat.reduceAdd, Nat.reduceLT, Nat.reduceEqDiff, ↓reduceIte, implies_true, eq_self, d1, d2]
              refine gcall (i64 pp) (fun _ => ⟨by simp only [vsAll, opA, Nat.reduceEqDiff, ↓reduceIte, eq_self], by simp only [vsAll, okAll, opsA, opA, ↓reduceIte, eq_self], hs1 _⟩) ?_
              simp only [vsAll, opA, guardV, dstOk, Nat.reduceLT, Nat.reduceEqDiff, ↓reduceIte, eq_self]
              refine gcall (i64 pp) (fun _ => ⟨by simp only [vsAll, opA, Nat.reduceEqDiff, ↓reduceIte, eq_self], by simp only [vsAll, okAll, opsA, opA, ↓reduceIte, eq_self], hs2 _⟩) ?_
              simp only [vsAll, binA, binLitA, intA, pickA, opA, guardV, dstOk, Nat.reduceLT, Nat.reduceEqDiff, ↓reduceIte, implies_true, eq_self, d3, d4]
              refine gcall (i64 pc) (fun _ => ⟨by simp only [vsAll, opA, Nat.reduceEqDiff, ↓reduceIte, eq_self], by simp only [vsAll, okAll, opsA, opA, ↓reduceIte, eq_self], hs3 _⟩) ?_
              simp only [vsAll, opA, guardV, dstOk, Nat.reduceLT, Nat.reduceEqDiff, ↓reduceIte, eq_self]
              refine gcall (i64 pc) (fun _ => ⟨by simp only [vsAll, opA, Nat.reduceEqDiff, ↓reduceIte, eq_self], by simp only [vsAll, okAll, opsA, opA, ↓reduceIte, eq_self], hs4 _⟩) ?_
              simp only [vsAll, binA, binLitA, intA, pickA, opA, guardV, dstOk, Nat.reduceLT, Nat.reduceEqDiff, ↓reduceIte, implies_true, eq_self]
              exact cutG_of () trivial (by simp only [vsAll, Nat.reduceEqDiff, ↓reduceIte, eq_self]) rfl HSub_rfl
            · refine wps_cutG (m := fun _ => false) (σ := Unit) (fun _ => True) (fun _ => [(21, .sl id 2 (bestL p).length), (12, plsAV l), (22, i64 (rgtE p true)), (10, intsAV p.fs), (11, psAV p.ps), (1, .rsl N 1 (byF b)), (2, pptr p), (5, i64 p.ps.length), (6, i64 p.fs.length), (7, .ref i7 0 5 0 0)]) (fun _ => ((H.set i7 (.box 5 1 fun _ => (turnP p).cs)).set id (.row 2 (bestL p).length (plF (bestL p))))) (fun _ => []) ?_ fun _ _ => ?_
              · simp only [vsAll, loadA, loadRow, partA, partOk, fieldAddrA, lenA, opA, dstOk, Nat.reduceLT, Nat.reduceEqDiff, ↓reduceIte, eq_self, wtAll, Try.ntmps12]
                refine vs_loop (σ := Nat) (fun i => i ≤ p.ps.length) (fun i => [(21, .sl id 2 (bestL p).length), (12, plsAV l), (22, i64 (rgtE p true)), (10, intsAV p.fs), (11, psAV p.ps), (1, .rsl N 1 (byF b)), (2, pptr p), (5, i64 p.ps.length), (6, i64 p.fs.length), (7, .ref i7 0 5 0 0), (260, i64 p.ps.length), (261, i64 i)]) (fun _ => ((H.set i7 (.box 5 1 fun _ => (turnP p).cs)).set id (.row 2 (bestL p).length (plF (bestL p))))) (fun i => p.ps.length - i) 0 (Nat.zero_le _) ?_ HSub_rfl fun i hi => ?_
                · simp only [vsAll, Nat.reduceEqDiff, ↓reduceIte, eq_self, Int.natCast_zero]
                · simp only [vsAll, binA, binLitA, intA, opA, dstOk, Nat.reduceLT, Nat.reduceEqDiff, ↓reduceIte, eq_self]
                  refine condD (fun hd => ?_) (fun hd => ?_)
                  · have his : i < p.ps.length := by ((try clear h7); (try clear n7); (try clear n7'); (try clear hidn); omega)
                    have ei : (p.ps.length : Int) - 1 - i = ((p.ps.length - 1 - i : Nat) : Int) := by ((try clear h7); (try clear n7); (try clear n7'); (try clear hidn); omega)
                    have g1 := turn_latE k his
                    have g2 := turn_lat k his
                    simp only [vsAll, loadA, loadRow, partA, partOk, okAll, stAll, opsA, opA, dstOk, nilSliceOp, Nat.reduceLT, Nat.reduceEqDiff, ↓reduceIte, eq_self, wtAll]
                    refine callK_pure (wlatest_tri p i _ kn) ?_
                    simp only [vsAll, binA, binLitA, intA, loadA, loadRow, partA, partOk, extractA, okAll, stAll, opsA, opA, dstOk, nilSliceOp, Nat.reduceAdd, Nat.reduceLT, Nat.reduceEqDiff, ↓reduceIte, eq_self, wtAll, n7', ei]
                    refine ⟨by simp only [InR_i64]; ((try clear h7); (try clear n7); (try clear n7'); (try clear hidn); omega), by simp only [InR_i64]; ((try clear h7); (try clear n7); (try clear n7'); (try clear hidn); omega), callK_pure (wlatest_tri (turnP p) ((p.ps.length - 1 - i : Nat) : Int) _ knt) ?_⟩
                    rw [g1, g2]
                    simp only [vsAll, binA, binLitA, intA, loadA, loadRow, partA, partOk, fieldAddrA, extractA, lenA, pickA, opA, guardV, dstOk, nilSliceOp, Nat.reduceAdd, Nat.reduceLT, Nat.reduceEqDiff, ↓reduceIte, implies_true, eq_self, wtAll]
                    refine vs_loop (σ := Nat) (fun z => z ≤ p.fs.length) (fun z => [(21, .sl id 2 (bestL p).length), (12, plsAV l), (22, i64 (rgtE p true)), (10, intsAV p.fs), (11, psAV p.ps), (1, .rsl N 1 (byF b)), (2, pptr p), (5, i64 p.ps.length), (6, i64 p.fs.length), (7, .ref i7 0 5 0 0), (260, i64 p.ps.length), (261, i64 i), (35, i64 i), (289, i64 p.fs.length), (290, i64 z)]) (fun _ => ((H.set i7 (.box 5 1 fun _ => (turnP p).cs)).set id (.row 2 (bestL p).length (plF (bestL p))))) (fun z => p.fs.length - z) 0 (Nat.zero_le _) ?_ HSub_rfl fun z hz => ?_
                    · simp only [vsAll, Nat.reduceEqDiff, ↓reduceIte, eq_self, Int.natCast_zero]
                    · simp only [vsAll, binA, binLitA, intA, opA, dstOk, Nat.reduceLT, Nat.reduceEqDiff, ↓reduceIte, eq_self]
                      refine condD (fun hd2 => ?_) (fun hd2 => ?_)
                      · have hzs : z < p.fs.length := by ((try clear h7); (try clear n7); (try clear n7'); (try clear hidn); omega)
                        have ez : (p.fs.length : Int) - 1 - z = ((p.fs.length - 1 - z : Nat) : Int) := by ((try clear h7); (try clear n7); (try clear n7'); (try clear hidn); omega)
                        obtain ⟨q1, q2⟩ := st_ok k his hzs
                        obtain ⟨q3, q4⟩ := st_ok kt (i := p.ps.length - 1 - i) (f := p.fs.length - 1 - z) (by rw [turn_nP]; ((try clear h7); (try clear n7); (try clear n7'); (try clear hidn); omega)) (by rw [turn_nF]; ((try clear h7); (try clear n7); (try clear n7'); (try clear hidn); omega))
                        rw [show (turnP p).H = p.H from rfl, turn_st his hzs] at q4
                        simp only [vsAll, loadA, loadRow, partA, partOk, okAll, stAll, opsA, opA, dstOk, nilSliceOp, Nat.reduceLT, Nat.reduceEqDiff, ↓reduceIte, eq_self, wtAll]
                        refine callK_pure (wstarts_tri p i z _ kn) ?_
                        simp only [vsAll, binA, binLitA, intA, loadA, loadRow, partA, partOk, extractA, okAll, stAll, opsA, opA, dstOk, nilSliceOp, Nat.reduceAdd, Nat.reduceLT, Nat.reduceEqDiff, ↓reduceIte, eq_self, wtAll, n7', ei, ez]
                        refine ⟨by simp only [InR_i64]; ((try clear h7); (try clear n7); (try clear n7'); (try clear hidn); omega), by simp only [InR_i64]; ((try clear h7); (try clear n7); (try clear n7'); (try clear hidn); omega), by simp only [InR_i64]; ((try clear h7); (try clear n7); (try clear n7'); (try clear hidn); omega), by simp only [InR_i64]; ((try clear h7); (try clear n7); (try clear n7'); (try clear hidn); omega), callK_pure (wstarts_tri (turnP p) ((p.ps.length - 1 - i : Nat) : Int) ((p.fs.length - 1 - z : Nat) : Int) _ knt) ?_⟩
                        rw [q1, q2, q3, q4]
                        simp only [vsAll, binA, binLitA, intA, extractA, pickA, opA, guardV, dstOk, nilSliceOp, Nat.reduceAdd, Nat.reduceLT, Nat.reduceEqDiff, ↓reduceIte, implies_true, eq_self]
                        refine ⟨by simp only [InR_i64]; ((try clear h7); (try clear n7); (try clear n7'); (try clear hidn); omega), loop_next (z + 1) (by ((try clear h7); (try clear n7); (try clear n7'); (try clear hidn); omega)) (by ((try clear h7); (try clear n7); (try clear n7'); (try clear hidn); omega)) ?_ HSub_rfl⟩
                        simp only [vsAll, Nat.reduceEqDiff, ↓reduceIte, eq_self, Int.natCast_add, Int.natCast_one]
                      · simp only [vsAll, binA, binLitA, intA, opA, dstOk, Nat.reduceLT, Nat.reduceEqDiff, ↓reduceIte, eq_self]
                        refine ⟨by simp only [InR_i64]; ((try clear h7); (try clear n7); (try clear n7'); (try clear hidn); omega), loop_next (i + 1) (by ((try clear h7); (try clear n7); (try clear n7'); (try clear hidn); omega)) (by ((try clear h7); (try clear n7); (try clear n7'); (try clear hidn); omega)) ?_ HSub_rfl⟩
                        simp only [vsAll, Nat.reduceEqDiff, ↓reduceIte, eq_self, Int.natCast_add, Int.natCast_one]
                  · simp only [vsAll, ↓reduceIte, eq_self]
                    exact cutG_of () trivial (by simp only [vsAll, Nat.reduceEqDiff, ↓reduceIte, eq_self]) rfl HSub_rfl
              · refine wps_cutG (m := mset [336]) (σ := Unit) (fun _ => True) (fun _ => [(21, .sl id 2 (bestL p).length), (12, plsAV l), (22, i64 (rgtE p true)), (10, intsAV p.fs), (11, psAV p.ps), (1, .rsl N 1 (byF b)), (2, pptr p), (5, i64 p.ps.length), (6, i64 p.fs.length), (7, .ref i7 0 5 0 0)]) (fun _ => ((H.set i7 (.box 5 1 fun _ => (turnP p).cs)).set id (.row 2 (bestL p).length (plF (bestL p))))) (fun _ => []) ?_ fun _ _ => ?_
                · simp only [vsAll, loadA, loadRow, partA, partOk, fieldAddrA, lenA, cellA, cellsA, fillA, okParts, buildSliceA, partIdx, elemsA, lensA, partsA, partsOk, opA, dstOk, Nat.reduceAdd, Nat.reduceMul, Nat.reduceLT, Nat.reduceLeDiff, Nat.reduceEqDiff, Nat.reduceBEq, Int.reduceNeg, ↓reduceIte, eq_self, wtAll, Try.ntmps12]
                  refine vs_loop (σ := Nat) (fun i => i ≤ 4) (fun i => [(21, .sl id 2 (bestL p).length), (12, plsAV l), (22, i64 (rgtE p true)), (10, intsAV p.fs), (11, psAV p.ps), (1, .rsl N 1 (byF b)), (2, pptr p), (5, i64 p.ps.length), (6, i64 p.fs.length), (7, .ref i7 0 5 0 0), (330, plsAV (badL p)), (331, i64 4), (332, i64 i)]) (fun _ => ((H.set i7 (.box 5 1 fun _ => (turnP p).cs)).set id (.row 2 (bestL p).length (plF (bestL p))))) (fun i => 4 - i) 0 (Nat.zero_le _) ?_ HSub_rfl fun i hi => ?_
                  · simp only [vsAll, Nat.reduceEqDiff, Int.reduceNeg, ↓reduceIte, eq_self, Int.natCast_zero]
                    refine ⟨AV.Le.rsl fun i hi => ?_, AV.Le.refl _⟩
                    match i, hi with
                    | 0, _ => rfl
                    | 1, _ => rfl
                    | 2, _ => rfl
                    | 3, _ => rfl
                  · simp only [vsAll, binA, binLitA, intA, opA, dstOk, Nat.reduceLT, Nat.reduceEqDiff, ↓reduceIte, eq_self]
                    refine condD (fun hd => ?_) (fun hd => ?_)
                    · have hi4 : i < 4 := by ((try clear h7); (try clear n7); (try clear n7'); (try clear hidn); omega)
                      have hbl : (badL p).length = 4 := rfl
                      have hbb := badL_bad k (i := i) hi4
                      have hbr := badL_rng k (i := i) hi4
                      generalize hx : (badL p).getD i (0, 0) = x at hbb hbr
                      skip
                      simp only [vsAll, loadA, loadRow, partA, partOk, indexAddrA, cellA, opA, allocA, newCells, okCells, storeObj, dstOk, Nat.reduceAdd, Nat.reduceLT, Nat.reduceEqDiff, ↓reduceIte, eq_self, wtAll, hx, plF_at, hbl]
                      refine ⟨⟨by ((try clear h7); (try clear n7); (try clear n7'); (try clear hidn); (try clear hx); (try clear hbl); omega), by ((try clear h7); (try clear n7); (try clear n7'); (try clear hidn); (try clear hx); (try clear hbl); omega)⟩, hi4, ?_⟩
                      intro i46 hh_i46; (try simp only [ite_none] at hh_i46)
                      have okL : ∀ q, q < l.length → okCells (plF l q) := fun q _ => ⟨rfl, rfl, trivial⟩
                      refine vs_draw2 [1, 0, 3, 0, 0, 5, 6] [([1, 3, 4], [3], 0), ([], [3], 2), ([], [], 5)] [6] (by decide +kernel) ?_
                      simp only [vsAll, loadA, loadRow, partA, partOk, cellsA, okParts, buildSliceA, buildMutA, partIdx, elemsA, lensA, partsA, partsOk, opA, appendA, dstOk, Nat.reduceAdd, Nat.reduceMul, Nat.reduceLT, Nat.reduceLeDiff, Nat.reduceEqDiff, Nat.reduceBEq, ↓reduceIte, eq_self, wtAll]
                      intro ir hh_ir; (try simp only [ite_none] at hh_ir)
                      simp only [vsAll, Nat.reduceLT, ↓reduceIte, eq_self, hh_ir]
                      refine ⟨okL, by ((try clear h7); (try clear n7); (try clear n7'); (try clear hidn); (try clear hx); (try clear hbl); (try clear hh_i46); (try clear hh_ir); omega), by ((try clear h7); (try clear n7); (try clear n7'); (try clear hidn); (try clear hx); (try clear hbl); (try clear hh_i46); (try clear hh_ir); omega), fun q hq => by (have : q = 0 := by ((try clear h7); (try clear n7); (try clear n7'); (try clear hidn); (try clear hx); (try clear hbl); (try clear hh_i46); (try clear hh_ir); omega)); subst this; exact ⟨rfl, rfl, trivial⟩, by ((try clear h7); (try clear n7); (try clear n7'); (try clear hidn); (try clear hx); (try clear hbl); (try clear hh_i46); (try clear hh_ir); omega), by ((try clear h7); (try clear n7); (try clear n7'); (try clear hidn); (try clear hx); (try clear hbl); (try clear hh_i46); (try clear hh_ir); omega), ?_⟩
                      have hirn : ((H.set i7 (.box 5 1 fun _ => (turnP p).cs)).set id (.row 2 (bestL p).length (plF (bestL p)))) ir = none := by simp_all [Hp.set]
                      refine vs_entR (Ent.of [(47, .sl ir 2 (l.length + 1)), (21, .sl id 2 (bestL p).length), (12, plsAV l), (22, i64 (rgtE p true)), (10, intsAV p.fs), (11, psAV p.ps), (1, .rsl N 1 (byF b)), (2, pptr p), (5, i64 p.ps.length), (6, i64 p.fs.length), (7, .ref i7 0 5 0 0), (330, plsAV (badL p)), (331, i64 4), (332, i64 i)] (by simp only [vsAll, Nat.reduceEqDiff, ↓reduceIte, eq_self]) (H' := ((H.set i7 (.box 5 1 fun _ => (turnP p).cs)).set id (.row 2 (bestL p).length (plF (bestL p)))).set ir (.row 2 (l.length + 1) (plF (l ++ [x])))) ?_ ?_)
                      · refine HSub.trans (B := ((H.set i7 (.box 5 1 fun _ => (turnP p).cs)).set id (.row 2 (bestL p).length (plF (bestL p)))).set ir (.row 2 (l.length + 1) (appF l.length 1 (appF 0 l.length (fun _ => []) (plF l)) fun q => [[i64 x.1, i64 x.2]].getD q []))) (by (repeat (first | exact HSub_rfl | refine HSub_put_eq (by simp only [vsAll, ↓reduceIte, eq_self, n7', hh_i46, hh_ir]) ?_ | refine HSub_drop2 (by simp only [eq_self, h7, hidn, hh_i46, hh_ir]) ?_ | refine HSub_keep_eq (by simp only [vsAll, binA, binLitA, intA, aggA, aggV, boolA, nilA2, isConst, unA, loadA, loadRow, partA, partOk, fieldAddrA, indexAddrA, indexA, fieldA, extractA, lenA, nilCheckA, boxA, boxZ, cellA, cellsA, fillA, okParts, buildSliceA, buildMutA, makeSliceA, partIdx, elemsA, lensA, ifaceA, convA, mmA, pickA, okAll, stAll, opsA, partsA, partsOk, opA, allocA, boxMutA, newCells, okCells, storeObj, appendA, guardV, taA, nM, mapUpA, lookA, sliceA, sliceS, boundsA, opO, okO, copyA, dstOk, nilA, quietOk, nilSliceOp, deferV, panA, resA, argFr, retA.eq_1, retA.eq_2, Nat.reduceAdd, Nat.reduceSub, Nat.reduceMul, Nat.reduceLT, Nat.reduceLeDiff, Nat.reduceEqDiff, Nat.reduceBEq, Int.reduceAdd, Int.reduceSub, Int.reduceMul, Int.reduceNeg, Int.reduceLE, Int.reduceLT, Int.reduceEq, Int.reduceNe, Int.reduceToNat, ↓reduceIte, reduceCtorEq, implies_true, forall_const, eq_self, ne_eq, arrL, wtAll, Try.ntmps12, Try.results12, h7, n7, n7', hidn, hx, hbl, hh_i46, hh_ir]) ?_))) (HSub.set (HSub.refl _) (row_ext fun q hq => ?_))
                        rw [← app_pl l x (fun q => [[i64 x.1, i64 x.2]].getD q []) rfl]
                        by_cases e : q < l.length
                        · rw [appF_at (by ((try clear h7); (try clear n7); (try clear n7'); (try clear hidn); (try clear hx); (try clear hbl); (try clear hh_i46); (try clear hh_ir); omega)), if_pos e, appF_at (by ((try clear h7); (try clear n7); (try clear n7'); (try clear hidn); (try clear hx); (try clear hbl); (try clear hh_i46); (try clear hh_ir); omega)), if_neg (by ((try clear h7); (try clear n7); (try clear n7'); (try clear hidn); (try clear hx); (try clear hbl); (try clear hh_i46); (try clear hh_ir); omega)), Nat.sub_zero, appF_at (by ((try clear h7); (try clear n7); (try clear n7'); (try clear hidn); (try clear hx); (try clear hbl); (try clear hh_i46); (try clear hh_ir); omega)), if_pos e]
                        · rw [appF_at (by ((try clear h7); (try clear n7); (try clear n7'); (try clear hidn); (try clear hx); (try clear hbl); (try clear hh_i46); (try clear hh_ir); omega)), if_neg e, appF_at (by ((try clear h7); (try clear n7); (try clear n7'); (try clear hidn); (try clear hx); (try clear hbl); (try clear hh_i46); (try clear hh_ir); omega)), if_neg e]
                      refine vs_entR (Ent.freeze (id := ir) (st := 2) (n := l.length + 1) (f := plF (l ++ [x])) (s' := Fr.of [(47, .rsl (l.length + 1) 2 (plF (l ++ [x]))), (21, .sl id 2 (bestL p).length), (12, plsAV l), (22, i64 (rgtE p true)), (10, intsAV p.fs), (11, psAV p.ps), (1, .rsl N 1 (byF b)), (2, pptr p), (5, i64 p.ps.length), (6, i64 p.fs.length), (7, .ref i7 0 5 0 0), (330, plsAV (badL p)), (331, i64 4), (332, i64 i)]) (Hp.set_same _ _ _) (FzL.frz (.hit (FzL.refl _))) ?_)
                      refine vs_entR (Ent.of [(47, .rsl (l.length + 1) 2 (plF (l ++ [x]))), (21, .sl id 2 (bestL p).length), (12, plsAV l), (22, i64 (rgtE p true)), (10, intsAV p.fs), (11, psAV p.ps), (1, .rsl N 1 (byF b)), (2, pptr p), (5, i64 p.ps.length), (6, i64 p.fs.length), (7, .ref i7 0 5 0 0), (330, plsAV (badL p)), (331, i64 4), (332, i64 i)] (by simp only [vsAll, Nat.reduceEqDiff, ↓reduceIte, eq_self]) (H' := ((H.set i7 (.box 5 1 fun _ => (turnP p).cs)).set id (.row 2 (bestL p).length (plF (bestL p))))) (HSub_eqn fun q => ?_) ?_)
                      · by_cases e1 : q = ir
                        · subst e1; left; exact hirn
                        right
                        rw [Hp.del_ne _ e1, Hp.set_ne _ _ e1]
                      refine vs_draw2 [0, 0, 0, 0, 0, 0, 0, 0, 0, 0, 0, 0, 0, 0, 0, 0, 0, 0, 0] [] [0, 1, 2, 3, 4, 5, 6, 7, 8, 9, 10, 11, 12, 13, 14, 15, 16, 17, 18] (by decide +kernel) ?_
                      have elo : ((l.length + 1 : Nat) : Int) - min ((l.length + 1 : Nat) : Int) (max 1 (p.ps.length : Int)) = ((l.length + 1 - min (l.length + 1) (max 1 p.ps.length) : Nat) : Int) := by ((try clear h7); (try clear n7); (try clear n7'); (try clear hidn); (try clear hx); (try clear hbl); (try clear hh_i46); (try clear hh_ir); omega)
                      simp only [vsAll, binA, binLitA, intA, loadA, loadRow, partA, partOk, lenA, mmA, okAll, stAll, opsA, opA, sliceA, sliceS, boundsA, opO, okO, dstOk, Nat.reduceLT, Nat.reduceEqDiff, ↓reduceIte, eq_self, wtAll, elo]
                      have hlo : l.length + 1 - min (l.length + 1) (max 1 p.ps.length) ≤ l.length := by ((try clear h7); (try clear n7); (try clear n7'); (try clear hidn); (try clear hx); (try clear hbl); (try clear hh_i46); (try clear hh_ir); omega)
                      generalize l.length + 1 - min (l.length + 1) (max 1 p.ps.length) = lo at hlo
                      have hck := bad_check k (l := l) (lo := lo) hlo hbb
                      have hdl : ((l ++ [x]).drop lo).length = l.length + 1 - lo := by simp
                      have hcal : ∀ H, PTri Try.prog (fnA 19) [p.av, .rsl (l.length + 1 - lo) 2 fun i => plF (l ++ [x]) (lo + i)] H (.tuple [i64 0, i64 0, i64 2]) := fun H => by
                        have h2 := wcheck_tri p ((l ++ [x]).drop lo) H kn (by ((try clear h7); (try clear n7); (try clear n7'); (try clear hidn); (try clear hx); (try clear hbl); (try clear hh_i46); (try clear hh_ir); omega))
                        obtain ⟨q1, q2, q3⟩ := hck
                        rw [q1, q2, q3] at h2
                        refine Tri.args h2 rfl fun kq hkq => ?_
                        match kq, hkq with
                        | 0, _ => exact AV.Le.refl _
                        | 1, _ =>
                          show AV.Le (.rsl (l.length + 1 - lo) 2 _) (.rsl ((l ++ [x]).drop lo).length 2 (plF ((l ++ [x]).drop lo)))
                          rw [hdl]
                          refine AV.Le.rsl fun q hq => ?_
                          rw [plF_at, plF_at, List.getD_eq_getElem?_getD, List.getD_eq_getElem?_getD, List.getElem?_drop]
                      refine ⟨by simp only [InR_i64]; ((try clear h7); (try clear n7); (try clear n7'); (try clear hidn); (try clear hx); (try clear hbl); (try clear hh_i46); (try clear hh_ir); omega), ⟨by ((try clear h7); (try clear n7); (try clear n7'); (try clear hidn); (try clear hx); (try clear hbl); (try clear hh_i46); (try clear hh_ir); omega), by ((try clear h7); (try clear n7); (try clear n7'); (try clear hidn); (try clear hx); (try clear hbl); (try clear hh_i46); (try clear hh_ir); omega)⟩, qcall _ ⟨trivial, by simp only [vsAll, okAll, opsA, opA, Nat.reduceEqDiff, ↓reduceIte, eq_self], hcal _⟩ ?_⟩
                      simp only [vsAll, binA, binLitA, intA, extractA, opA, dstOk, Nat.reduceAdd, Nat.reduceLT, Nat.reduceEqDiff, ↓reduceIte, eq_self]
                      refine ⟨by simp only [InR_i64]; ((try clear h7); (try clear n7); (try clear n7'); (try clear hidn); (try clear hx); (try clear hbl); (try clear hh_i46); (try clear hh_ir); omega), loop_next (i + 1) (by ((try clear h7); (try clear n7); (try clear n7'); (try clear hidn); (try clear hx); (try clear hbl); (try clear hh_i46); (try clear hh_ir); omega)) (by ((try clear h7); (try clear n7); (try clear n7'); (try clear hidn); (try clear hx); (try clear hbl); (try clear hh_i46); (try clear hh_ir); omega)) ?_ HSub_rfl⟩
                      simp only [vsAll, Nat.reduceEqDiff, ↓reduceIte, eq_self, Int.natCast_add, Int.natCast_one]
                    · simp only [vsAll, ↓reduceIte, eq_self]
                      exact cutG_of () trivial (by simp only [vsAll, Nat.reduceEqDiff, ↓reduceIte, eq_self]) rfl HSub_rfl
                · refine wps_cutG (m := mset [361]) (σ := Unit) (fun _ => True) (fun _ => [(51, plsAV (bestL p)), (21, .sl id 2 (bestL p).length), (12, plsAV l), (22, i64 (rgtE p true)), (10, intsAV p.fs), (11, psAV p.ps), (1, .rsl N 1 (byF b)), (2, pptr p), (5, i64 p.ps.length), (6, i64 p.fs.length), (7, .ref i7 0 5 0 0)]) (fun _ => ((H.set i7 (.box 5 1 fun _ => (turnP p).cs)).set id (.row 2 (bestL p).length (plF (bestL p))))) (fun _ => []) ?_ fun _ _ => ?_
                  · simp only [vsAll, okParts, buildMutA, partIdx, elemsA, lensA, partsA, partsOk, opA, appendA, dstOk, nilSliceOp, Nat.reduceMul, Nat.reduceLT, Nat.reduceLeDiff, Nat.reduceEqDiff, Nat.reduceBEq, ↓reduceIte, eq_self, wtAll, Try.ntmps12]
                    intro ik hh_ik; (try simp only [ite_none] at hh_ik)
                    have d11 : ¬ id = ik := by simp_all []
                    have d12 : ((H.set i7 (.box 5 1 fun _ => (turnP p).cs)).set id (.row 2 (bestL p).length (plF (bestL p)))) ik = none := by simp_all [Hp.set]
                    simp only [vsAll, ↓reduceIte, eq_self, hh_ik]
                    refine ⟨fun q hq => ⟨rfl, rfl, trivial⟩, by ((try clear h7); (try clear n7); (try clear n7'); (try clear hidn); (try clear hh_ik); omega), by ((try clear h7); (try clear n7); (try clear n7'); (try clear hidn); (try clear hh_ik); omega), ?_⟩
                    refine cutG_ent (Ent.of [(51, .sl ik 2 (bestL p).length), (21, .sl id 2 (bestL p).length), (12, plsAV l), (22, i64 (rgtE p true)), (10, intsAV p.fs), (11, psAV p.ps), (1, .rsl N 1 (byF b)), (2, pptr p), (5, i64 p.ps.length), (6, i64 p.fs.length), (7, .ref i7 0 5 0 0)] (by simp only [vsAll, Nat.reduceEqDiff, ↓reduceIte, eq_self]) (H' := ((H.set i7 (.box 5 1 fun _ => (turnP p).cs)).set id (.row 2 (bestL p).length (plF (bestL p)))).set ik (.row 2 (bestL p).length (plF (bestL p)))) ?_ ?_)
                    · exact HSub.trans (B := ((H.set i7 (.box 5 1 fun _ => (turnP p).cs)).set id (.row 2 (bestL p).length (plF (bestL p)))).set ik (.row 2 (bestL p).length (appF 0 (bestL p).length (fun _ => []) (plF (bestL p))))) (by (repeat (first | exact HSub_rfl | refine HSub_put_eq (by simp only [vsAll, ↓reduceIte, eq_self, n7', hh_ik]) ?_ | refine HSub_drop2 (by simp only [eq_self, h7, hidn, hh_ik]) ?_ | refine HSub_keep_eq (by simp only [vsAll, binA, binLitA, intA, aggA, aggV, boolA, nilA2, isConst, unA, loadA, loadRow, partA, partOk, fieldAddrA, indexAddrA, indexA, fieldA, extractA, lenA, nilCheckA, boxA, boxZ, cellA, cellsA, fillA, okParts, buildSliceA, buildMutA, makeSliceA, partIdx, elemsA, lensA, ifaceA, convA, mmA, pickA, okAll, stAll, opsA, partsA, partsOk, opA, allocA, boxMutA, newCells, okCells, storeObj, appendA, guardV, taA, nM, mapUpA, lookA, sliceA, sliceS, boundsA, opO, okO, copyA, dstOk, nilA, quietOk, nilSliceOp, deferV, panA, resA, argFr, retA.eq_1, retA.eq_2, Nat.reduceAdd, Nat.reduceSub, Nat.reduceMul, Nat.reduceLT, Nat.reduceLeDiff, Nat.reduceEqDiff, Nat.reduceBEq, Int.reduceAdd, Int.reduceSub, Int.reduceMul, Int.reduceNeg, Int.reduceLE, Int.reduceLT, Int.reduceEq, Int.reduceNe, Int.reduceToNat, ↓reduceIte, reduceCtorEq, implies_true, forall_const, eq_self, ne_eq, arrL, wtAll, Try.ntmps12, Try.results12, h7, n7, n7', hidn, hh_ik]) ?_))) (HSub.set (HSub.refl _) (row_ext fun q hq => by rw [appF_at (by ((try clear h7); (try clear n7); (try clear n7'); (try clear hidn); (try clear hh_ik); omega)), if_neg (by ((try clear h7); (try clear n7); (try clear n7'); (try clear hidn); (try clear hh_ik); omega)), Nat.sub_zero]))
                    refine cutG_ent (Ent.freeze (id := ik) (st := 2) (n := (bestL p).length) (f := plF (bestL p)) (s' := Fr.of [(51, plsAV (bestL p)), (21, .sl id 2 (bestL p).length), (12, plsAV l), (22, i64 (rgtE p true)), (10, intsAV p.fs), (11, psAV p.ps), (1, .rsl N 1 (byF b)), (2, pptr p), (5, i64 p.ps.length), (6, i64 p.fs.length), (7, .ref i7 0 5 0 0)]) (Hp.set_same _ _ _) (FzL.frz (.hit (FzL.refl _))) ?_)
                    refine cutG_of () trivial (by simp only [vsAll, Nat.reduceEqDiff, ↓reduceIte, eq_self]) rfl (HSub_eqn fun q => ?_)
                    by_cases e1 : q = ik
                    · subst e1; left; exact d12
                    right
                    rw [Hp.del_ne _ e1, Hp.set_ne _ _ e1]
                  · refine wps_cutG (m := fun _ => false) (σ := Unit) (fun _ => True) (fun _ => [(51, plsAV (bestL p)), (22, i64 (rgtE p true)), (10, intsAV p.fs), (11, psAV p.ps), (1, .rsl N 1 (byF b)), (2, pptr p), (5, i64 p.ps.length), (6, i64 p.fs.length), (7, .ref i7 0 5 0 0)]) (fun _ => (H.set i7 (.box 5 1 fun _ => (turnP p).cs))) (fun _ => []) ?_ fun _ _ => ?_
                    · simp only [vsAll, lenA, opA, dstOk, Nat.reduceLT, Nat.reduceEqDiff, Int.reduceNeg, ↓reduceIte, eq_self, wtAll, Try.ntmps12]
                      refine vs_loop (σ := Nat) (fun i => i ≤ (bestL p).length) (fun i => [(21, .sl id 2 (bestL p).length), (51, plsAV (bestL p)), (22, i64 (rgtE p true)), (10, intsAV p.fs), (11, psAV p.ps), (1, .rsl N 1 (byF b)), (2, pptr p), (5, i64 p.ps.length), (6, i64 p.fs.length), (7, .ref i7 0 5 0 0), (365, i64 (bestL p).length), (366, i64 i)]) (fun i => (H.set i7 (.box 5 1 fun _ => (turnP p).cs)).set id (.row 2 (bestL p).length fun q => if q < i then [i64 ((bestL p).getD q (0, 0)).1, i64 (-9)] else plF (bestL p) q)) (fun i => (bestL p).length - i) 0 (Nat.zero_le _) ?_ ?_ fun i hi => ?_
                      · simp only [vsAll, Nat.reduceEqDiff, ↓reduceIte, eq_self, Int.natCast_zero]
                      · refine HSub.set (HSub.refl _) (row_ext fun q hq => ?_)
                        rw [if_neg (by ((try clear h7); (try clear n7); (try clear n7'); (try clear hidn); omega))]
                      · simp only [vsAll, binA, binLitA, intA, opA, dstOk, Nat.reduceLT, Nat.reduceEqDiff, Int.reduceNeg, ↓reduceIte, eq_self]
                        refine condD (fun hd => ?_) (fun hd => ?_)
                        · have his : i < (bestL p).length := by ((try clear h7); (try clear n7); (try clear n7'); (try clear hidn); omega)
                          simp only [vsAll, binA, binLitA, intA, fieldAddrA, indexAddrA, cellA, cellsA, opA, newCells, okCells, storeObj, dstOk, nilSliceOp, Nat.reduceAdd, Nat.reduceLT, Nat.reduceEqDiff, Int.reduceNeg, ↓reduceIte, eq_self, wtAll]
                          refine ⟨⟨by ((try clear h7); (try clear n7); (try clear n7'); (try clear hidn); omega), by ((try clear h7); (try clear n7); (try clear n7'); (try clear hidn); omega)⟩, his, by simp only [InR_i64]; ((try clear h7); (try clear n7); (try clear n7'); (try clear hidn); omega), loop_next (i + 1) (by ((try clear h7); (try clear n7); (try clear n7'); (try clear hidn); omega)) (by ((try clear h7); (try clear n7); (try clear n7'); (try clear hidn); omega)) ?_ ?_⟩
                          · simp only [vsAll, Nat.reduceEqDiff, ↓reduceIte, eq_self, Int.natCast_add, Int.natCast_one]
                          · rw [Hp.set_set]
                            refine HSub.set (HSub.refl _) (row_ext fun q hq => ?_)
                            rw [upd_at _ _ _ _ _ his hq]
                            by_cases e : q = i
                            · subst e
                              rw [if_pos rfl, if_pos (by ((try clear h7); (try clear n7); (try clear n7'); (try clear hidn); omega))]
                              simp [plF_at]
                            · have e2 : (q < i) = (q < i + 1) := propext ⟨fun _ => by ((try clear h7); (try clear n7); (try clear n7'); (try clear hidn); omega), fun _ => by ((try clear h7); (try clear n7); (try clear n7'); (try clear hidn); omega)⟩
                              rw [if_neg e]
                              simp only [e2]
                        · simp only [vsAll, Int.reduceNeg, ↓reduceIte, eq_self]
                          exact cutG_of () trivial (by simp only [vsAll, Nat.reduceEqDiff, ↓reduceIte, eq_self]) rfl (HSub_drop2 (by simp_all [Hp.set]) HSub_rfl)
                    · refine wps_vs (m := fun _ => false) ?_
                      have hAP : PTri Try.prog (fnA 28) [bestA p, plsAV (bestL p)] (H.set i7 (.box 5 1 fun _ => (turnP p).cs)) (boo true) := by
                        have h2 := rsame_tri (bestL p) (bestL p) (H.set i7 (.box 5 1 fun _ => (turnP p).cs)) (by ((try clear h7); (try clear n7); (try clear n7'); (try clear hidn); omega)) (by ((try clear h7); (try clear n7); (try clear n7'); (try clear hidn); omega))
                        rw [decide_eq_true rfl] at h2
                        by_cases h : rgtE p true = 0
                        · have e : bestA p = plsAV (bestL p) := by rw [bestA, if_pos h, bestL, if_pos h]
                          rw [e]
                          exact h2
                        · have e : bestA p = nilA := if_neg h
                          rw [e]
                          refine Tri.args h2 rfl fun k hk => ?_
                          rw [show bestL p = [] from if_neg h]
                          match k, hk with
                          | 0, _ => exact AV.Le.nil 2 _
                          | 1, _ => exact AV.Le.refl _
                      simp only [vsAll, loadA, loadRow, partA, partOk, okAll, stAll, opsA, opA, dstOk, Nat.reduceLT, Nat.reduceEqDiff, ↓reduceIte, eq_self, wtAll, Try.ntmps12]
                      refine callK_pure (wbest_tri p _ kn) ?_
                      simp only [vsAll, binA, binLitA, intA, extractA, opA, guardV, dstOk, nilSliceOp, Nat.reduceAdd, Nat.reduceLT, Nat.reduceEqDiff, ↓reduceIte, eq_self, bestA_ok, bestA_st]
                      refine gcall _ (fun _ => ⟨by simp only [vsAll, opA], by simp only [vsAll, okAll, opsA, opA, Nat.reduceEqDiff, ↓reduceIte, eq_self], hAP⟩) ?_
                      simp only [vsAll, unA, lenA, pickA, opA, guardV, dstOk, Nat.reduceLT, Nat.reduceEqDiff, ↓reduceIte, implies_true, eq_self, wtAll]
                      refine vs_loop (σ := Nat) (fun i => i ≤ p.fs.length) (fun i => [(10, intsAV p.fs), (11, psAV p.ps), (1, .rsl N 1 (byF b)), (2, pptr p), (5, i64 p.ps.length), (6, i64 p.fs.length), (7, .ref i7 0 5 0 0), (390, i64 p.fs.length), (391, i64 i)]) (fun _ => (H.set i7 (.box 5 1 fun _ => (turnP p).cs))) (fun i => p.fs.length - i) 0 (Nat.zero_le _) ?_ HSub_rfl fun i hi => ?_
                      · simp only [vsAll, Nat.reduceEqDiff, ↓reduceIte, eq_self, Int.natCast_zero]
                      · simp only [vsAll, binA, binLitA, intA, opA, dstOk, Nat.reduceLT, Nat.reduceEqDiff, ↓reduceIte, eq_self]
                        refine condD (fun hd => ?_) (fun hd => ?_)
                        · have his : i < p.fs.length := by ((try clear h7); (try clear n7); (try clear n7'); (try clear hidn); omega)
                          simp only [vsAll, opA, dstOk, nilSliceOp, Nat.reduceLT, Nat.reduceEqDiff, ↓reduceIte, eq_self]
                          refine vs_draw2 [0, 0, 0, 0, 0, 0, 0, 0, 0, 0] [] [0, 1, 2, 3, 4, 5, 6, 7, 8, 9] (by decide +kernel) ?_
                          simp only [vsAll, binA, binLitA, intA, loadA, loadRow, partA, partOk, fieldAddrA, indexAddrA, opA, dstOk, Nat.reduceLT, Nat.reduceEqDiff, ↓reduceIte, eq_self, wtAll, intF_at]
                          refine ⟨⟨by ((try clear h7); (try clear n7); (try clear n7'); (try clear hidn); omega), by ((try clear h7); (try clear n7); (try clear n7'); (try clear hidn); omega)⟩, his, ⟨by ((try clear h7); (try clear n7); (try clear n7'); (try clear hidn); omega), by ((try clear h7); (try clear n7); (try clear n7'); (try clear hidn); omega)⟩, his, by simp only [InR_i64]; ((try clear h7); (try clear n7); (try clear n7'); (try clear hidn); omega), loop_next (i + 1) (by ((try clear h7); (try clear n7); (try clear n7'); (try clear hidn); omega)) (by ((try clear h7); (try clear n7); (try clear n7'); (try clear hidn); omega)) ?_ HSub_rfl⟩
                          simp only [vsAll, Nat.reduceEqDiff, ↓reduceIte, eq_self, Int.natCast_add, Int.natCast_one]
                        · simp only [vsAll, lenA, opA, dstOk, Nat.reduceLT, Nat.reduceEqDiff, ↓reduceIte, eq_self, wtAll]
                          refine vs_loop (σ := Nat) (fun i => i ≤ p.ps.length) (fun i => [(10, intsAV p.fs), (11, psAV p.ps), (1, .rsl N 1 (byF b)), (2, pptr p), (5, i64 p.ps.length), (6, i64 p.fs.length), (7, .ref i7 0 5 0 0), (406, i64 p.ps.length), (407, i64 i)]) (fun _ => (H.set i7 (.box 5 1 fun _ => (turnP p).cs))) (fun i => p.ps.length - i) 0 (Nat.zero_le _) ?_ HSub_rfl fun i hi => ?_
                          · simp only [vsAll, Nat.reduceEqDiff, ↓reduceIte, eq_self, Int.natCast_zero]
                          · simp only [vsAll, binA, binLitA, intA, opA, dstOk, Nat.reduceLT, Nat.reduceEqDiff, ↓reduceIte, eq_self]
                            refine condD (fun hd => ?_) (fun hd => ?_)
                            · have his : i < p.ps.length := by ((try clear h7); (try clear n7); (try clear n7'); (try clear hidn); omega)
                              simp only [vsAll, opA, dstOk, nilSliceOp, Nat.reduceLT, Nat.reduceEqDiff, ↓reduceIte, eq_self]
                              refine vs_draw2 [0, 0, 0, 0, 0, 0, 0, 0, 0, 0] [] [0, 1, 2, 3, 4, 5, 6, 7, 8, 9] (by decide +kernel) ?_
                              simp only [vsAll, binA, binLitA, intA, aggA, loadA, loadRow, partA, partOk, fieldAddrA, indexAddrA, opA, dstOk, Nat.reduceAdd, Nat.reduceLT, Nat.reduceEqDiff, ↓reduceIte, eq_self, wtAll, psF_at]
                              refine ⟨⟨by ((try clear h7); (try clear n7); (try clear n7'); (try clear hidn); omega), by ((try clear h7); (try clear n7); (try clear n7'); (try clear hidn); omega)⟩, his, ⟨by ((try clear h7); (try clear n7); (try clear n7'); (try clear hidn); omega), by ((try clear h7); (try clear n7); (try clear n7'); (try clear hidn); omega)⟩, his, eq_po, by simp only [InR_i64]; ((try clear h7); (try clear n7); (try clear n7'); (try clear hidn); omega), loop_next (i + 1) (by ((try clear h7); (try clear n7); (try clear n7'); (try clear hidn); omega)) (by ((try clear h7); (try clear n7); (try clear n7'); (try clear hidn); omega)) ?_ HSub_rfl⟩
                              simp only [vsAll, Nat.reduceEqDiff, ↓reduceIte, eq_self, Int.natCast_add, Int.natCast_one]
                            · simp only [vsAll, okAll, stAll, opsA, opA, dstOk, Nat.reduceLT, ↓reduceIte, eq_self]
                              refine callK_pure (awake_tri _) ?_
                              simp only [vsAll, opA, dstOk, nilSliceOp, resA, retA.eq_1, Nat.reduceLT, ↓reduceIte, eq_self, Try.results12]
                              exact dropR_pure rfl (by (repeat (first | exact HSub_rfl | refine HSub_put_eq (by simp only [vsAll, binA, binLitA, intA, aggA, aggV, boolA, nilA2, isConst, unA, loadA, loadRow, partA, partOk, fieldAddrA, indexAddrA, indexA, fieldA, extractA, lenA, nilCheckA, boxA, boxZ, cellA, cellsA, fillA, okParts, buildSliceA, buildMutA, makeSliceA, partIdx, elemsA, lensA, ifaceA, convA, mmA, pickA, okAll, stAll, opsA, partsA, partsOk, opA, allocA, boxMutA, newCells, okCells, storeObj, appendA, guardV, taA, nM, mapUpA, lookA, sliceA, sliceS, boundsA, opO, okO, copyA, dstOk, nilA, quietOk, nilSliceOp, deferV, panA, resA, argFr, retA.eq_1, retA.eq_2, Nat.reduceAdd, Nat.reduceSub, Nat.reduceMul, Nat.reduceLT, Nat.reduceLeDiff, Nat.reduceEqDiff, Nat.reduceBEq, Int.reduceAdd, Int.reduceSub, Int.reduceMul, Int.reduceNeg, Int.reduceLE, Int.reduceLT, Int.reduceEq, Int.reduceNe, Int.reduceToNat, ↓reduceIte, reduceCtorEq, implies_true, forall_const, eq_self, ne_eq, arrL, wtAll, Try.ntmps12, Try.results12, h7, n7, n7', hidn]) ?_ | refine HSub_drop2 (by simp only [eq_self, h7]) ?_ | refine HSub_keep_eq (by simp only [vsAll, binA, binLitA, intA, aggA, aggV, boolA, nilA2, isConst, unA, loadA, loadRow, partA, partOk, fieldAddrA, indexAddrA, indexA, fieldA, extractA, lenA, nilCheckA, boxA, boxZ, cellA, cellsA, fillA, okParts, buildSliceA, buildMutA, makeSliceA, partIdx, elemsA, lensA, ifaceA, convA, mmA, pickA, okAll, stAll, opsA, partsA, partsOk, opA, allocA, boxMutA, newCells, okCells, storeObj, appendA, guardV, taA, nM, mapUpA, lookA, sliceA, sliceS, boundsA, opO, okO, copyA, dstOk, nilA, quietOk, nilSliceOp, deferV, panA, resA, argFr, retA.eq_1, retA.eq_2, Nat.reduceAdd, Nat.reduceSub, Nat.reduceMul, Nat.reduceLT, Nat.reduceLeDiff, Nat.reduceEqDiff, Nat.reduceBEq, Int.reduceAdd, Int.reduceSub, Int.reduceMul, Int.reduceNeg, Int.reduceLE, Int.reduceLT, Int.reduceEq, Int.reduceNe, Int.reduceToNat, ↓reduceIte, reduceCtorEq, implies_true, forall_const, eq_self, ne_eq, arrL, wtAll, Try.ntmps12, Try.results12, h7, n7, n7', hidn]) ?_)))
end Go.Proofs.Ytliomkpmadpibaa
end
section
set_option linter.unusedVariables false
set_option linter.unusedSimpArgs false
set_option maxRecDepth 100000
namespace Go.Proofs.Ytliomkpmadpibaa
open Go.V Go.ChangeShapes Go.WideShapes Go.ChangeAt Go.RowKit
theorem pitch_cells : cellsT Try.prog 9 25 = some [.int .i64, .int .i64, .int .i64, .sl [.int .i64], .sl [.int .i64, .int .i64, .int .i64]] := by kernel_rfl
theorem ints_of {av : AV} (h : CKA (.sl [.int .i64]) av) : ∃ l : List Int, l.length ≤ maxLen ∧ AV.Le av (intsAV l) := by
  obtain ⟨l, h1, h2⟩ := told_slice (α := Int) (fun z => [i64 z]) 0 (fun cs hcs => by
    obtain ⟨z, hz, _⟩ := told_int 0 hcs rfl
    exact ⟨z, rfl, fun j hj => by
      match j, hj with
      | 0, _ => rw [hz]; exact AV.Le.refl _⟩) h
  exact ⟨l, h1, h2⟩
theorem pots_of {av : AV} (h : CKA (.sl [.int .i64, .int .i64, .int .i64]) av) : ∃ l : List Po, l.length ≤ maxLen ∧ AV.Le av (psAV l) := by
  obtain ⟨l, h1, h2⟩ := told_slice (α := Po) Po.cs po0 (fun cs hcs => by
    obtain ⟨a, ha, _⟩ := told_int 0 hcs rfl
    obtain ⟨b, hb, _⟩ := told_int 1 hcs rfl
    obtain ⟨c, hc, _⟩ := told_int 2 hcs rfl
    exact ⟨⟨a, b, c⟩, rfl, fun j hj => by
      match j, hj with
      | 0, _ => rw [ha]; exact AV.Le.refl _
      | 1, _ => rw [hb]; exact AV.Le.refl _
      | 2, _ => rw [hc]; exact AV.Le.refl _⟩) h
  exact ⟨l, h1, h2⟩
theorem pitch_rel {H : Type} {enc : TypeId × Value → H} {W : World} {sp : Nat → Bool} {held : Bool} {v : Value} {d : DataW H} {ps : List MemPlace}
    {base : Nat} (hv : Value.okWide Try.prog W .any base 25 v) (h : DataW.Trod enc Try.prog W 0 sp held 25 v d ps) : ∃ p : Pt, True ∧ VRel (st0 W) p.av v := by
  obtain ⟨cs, hcs, hv⟩ := trod_agg pitch_cells (by decide) h
  obtain ⟨hr, h0, _⟩ := told_int 0 hcs rfl
  obtain ⟨fro, h1, _⟩ := told_int 1 hcs rfl
  obtain ⟨per, h2, _⟩ := told_int 2 hcs rfl
  obtain ⟨fs, l3, h3⟩ := ints_of (hcs.2 3 _ rfl)
  obtain ⟨ps, l4, h4⟩ := pots_of (hcs.2 4 _ rfl)
  refine ⟨⟨hr, fro, per, fs, ps⟩, trivial, AV.Le.aggD (cs := cs) hcs.1.symm (fun j hj => ?_) _ _ hv⟩
  have hj5 : j < 5 := by have := hcs.1; simp at this; omega
  match j, hj5 with
  | 0, _ => rw [h0]; exact AV.Le.refl _
  | 1, _ => rw [h1]; exact AV.Le.refl _
  | 2, _ => rw [h2]; exact AV.Le.refl _
  | 3, _ => exact h3
  | 4, _ => exact h4
theorem Try.own : ownKnob Try.prog.godebug = none := by kernel_rfl
theorem u4 : Try.prog.underlying 4 = some .bool := by kernel_rfl
theorem u46 : Try.prog.underlying 46 = some (.slice 5) := by kernel_rfl
def iz : Value → Int
  | .int _ n => n
  | _ => 0
theorem by_rel {H : Type} {enc : TypeId × Value → H} {W : World} {sp : Nat → Bool} {held : Bool} {v : Value} {d : DataW H} {ps : List MemPlace} {base : Nat}
    (hv : Value.okWide Try.prog W .any base 46 v) (h : DataW.Trod enc Try.prog W 0 sp held 46 v d ps) : ∃ (N : Nat) (b : Nat → Int), (N < 2 ^ 63 ∧ ∀ i, i < N → 0 ≤ b i ∧ b i ≤ 255) ∧ VRel (st0 W) (.rsl N 1 (byF b)) v := by
  obtain ⟨a, len, cap, rfl⟩ := okWide_slice u46 hv
  obtain ⟨fuel, h⟩ := h
  obtain ⟨n, g, hn, hl, hr⟩ := trod_slice_rel (d := 4) (e := 5) (ks := [.int .u8]) u46 (by decide +kernel) (by decide +kernel) (by decide) (show DataW.trod enc Try.prog W 0 sp held fuel 46 [.slice a len cap] = some (d, ps) from h)
  have key : ∀ i, i < n → ∃ z : Int, g i = [.int .u8 z] ∧ 0 ≤ z ∧ z ≤ 255 := fun i hi => by
    obtain ⟨h1, h2⟩ := hl i hi
    match hg : g i, h1 with
    | [x], _ =>
      obtain ⟨z, rfl, hz⟩ := h2 0 (.int .u8) x rfl (by rw [hg]; rfl)
      refine ⟨z, rfl, ?_⟩
      simp [Lit.wf, IntKind.min, IntKind.max, IntKind.signed, IntKind.bits] at hz
      omega
  have hm : maxLen < 2 ^ 63 := by decide
  refine ⟨n, fun i => iz ((g i).getD 0 undef), ⟨by omega, fun i hi => ?_⟩, AV.Le.rsl (fun i hi => ?_) _ _ hr⟩
  · obtain ⟨z, e, hz⟩ := key i hi
    simp only [e]; exact hz
  · obtain ⟨z, e, hz⟩ := key i hi
    simp only [e]; simp only [byF, e]; rfl
end Go.Proofs.Ytliomkpmadpibaa
end
section
set_option linter.unusedVariables false
set_option linter.unusedSimpArgs false
set_option maxRecDepth 100000
namespace Go.Proofs.Ytliomkpmadpibaa
open Go.V Go.ChangeShapes Go.WideShapes Go.ChangeAt Go.RowKit
theorem pitchTurned_lifted (os : Os) (started : os.Started) (H : Type) (enc : TypeId × Value → H) :
    ReturnsInHanded {} Try.checked os 12 .any (Rows.pitchTurnedSpec.pre6 enc Try.prog Try.f12 Rows.pitchTurnedRow.domain false) (Rows.pitchTurnedSpec.post enc Try.prog Try.f12 false true false false) := by
  refine returnsInHanded_of_change (C := Try.checked) Try.own started (by kernel_rfl) Try.func12
    (ChangeSpec.witness6 (enc := enc) (C := Try.checked) false ⟨#[], #[.agg #[.int .i64 0, .int .i64 0, .int .i64 0, .slice none 0 0, .slice none 0 0], .slice none 0 0], []⟩ 8 (by kernel_rfl) (by kernel_rfl) (by kernel_rfl) (by kernel_rfl)) ?_
  intro W base args ds gs before hval hW hcnd _
  have hW' := hW
  obtain ⟨p, q, hA, hV, rfl, hfz, hnd⟩ := hW
  obtain ⟨rfl, rfl⟩ := trodVars_none hV
  rw [show Try.f12.params.toList = [25, 46] from by kernel_rfl] at hA
  obtain ⟨v0, v1, d0, d1, p0, p1, rfl, rfl, rfl, h0, h1⟩ := trodAll_two hA
  have hval : ∀ (j : Nat) t v, Try.f12.params[j]? = some t → (#[v0, v1] : Array Value)[j]? = some v → Value.okWide Try.prog W .any base t v := hval
  rw [show Try.f12.params = #[25, 46] from by kernel_rfl] at hval
  obtain ⟨x0, b0, r0⟩ := pitch_rel (hval 0 25 v0 rfl rfl) h0
  obtain ⟨N1, x1, b1, r1⟩ := by_rel (hval 1 46 v1 rfl rfl) h1
  refine (law_calls (W := W) (args := #[v0, v1]) Try.func12 (by kernel_rfl) rfl (Tri.mono (turned_law x0 N1 x1 H0 b1) ?_) (fun p hp => by cases hp) ⟨rfl, fun k hk => match k, hk with | 0, _ => r0 | 1, _ => r1⟩).mono fun e W' he => ?_
  · rintro r H' ⟨rfl, _⟩; rfl
  · obtain ⟨rfl, hh, ho, hp⟩ := he
    exact ⟨_, rfl, law_post (d := 6) rfl (tb := 4) (by kernel_rfl) u4 (by decide +kernel) hW' rfl hh ho hp⟩

theorem pitchTurned_holds : Rows.PitchTurnedSaid :=
  OpenClaim.holds_of_wide (p := Try.pinned) (s := Rows.pitchTurnedSpec) (c := Rows.pitchTurnedRow) 12 Try.f12 rfl rfl rfl rfl rfl rfl rfl ⟨rfl, rfl, rfl, rfl, rfl⟩ rfl rfl rfl rfl rfl (by kernel_rfl) Try.func12 (by kernel_rfl)
    (of_decide_eq_true (by kernel_rfl)) (by unfold Func.isWrapper; first | (rw [if_pos (by decide +kernel)]; kernel_rfl) | (rw [if_neg (by decide +kernel)]; exact ⟨rfl, rfl⟩))
    (fun os started H enc _ => pitchTurned_lifted os started H enc)

end Go.Proofs.Ytliomkpmadpibaa
end
