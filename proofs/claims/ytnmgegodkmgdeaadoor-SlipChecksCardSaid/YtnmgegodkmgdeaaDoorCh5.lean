/- Helper lemmas of this claim, part 5. -/
import Derived.Test.YtnmgegodkmgdeaaDoorRows
import Derived.LaidLaws
import Derived.ChangeVars
import Derived.Test.YtnmgegodkmgdeaaDoorCh4
section
set_option linter.unusedVariables false
set_option linter.unusedSimpArgs false
set_option maxHeartbeats 4000000
set_option maxRecDepth 100000
namespace Go.Proofs.YtnmgegodkmgdeaaDoor
open Go.V
theorem azT124 : azT Tryd.prog 124 = some (1, 1, [.nilFunc]) := by kernel_rfl
theorem intF_nil : intF [] = fun _ : Nat => [i64 0] := funext fun i => by simp [intF]
/-- The first tide of a ship with which so much is found. -/
def fstT (v : (Nat → Nat) → Option Int) (n : Int) (m : Nat → Nat) (i : Nat) (l : List Nat) : Option Nat := l.find? fun t => decide (v (upM m i (2 ^ t)) = some n)
def fstS (v : (Nat → Nat) → Option Int) (n : Int) (m : Nat → Nat) (l : List Int) (i : Nat) : (Nat → Nat) × List Int := match fstT v n m i (bitsL (m i)) with
  | some t => (upM m i (2 ^ t), l ++ [(t : Int)])
  | none => (m, l)
def fstP (v : (Nat → Nat) → Option Int) (n : Int) (m : Nat → Nat) : Nat → (Nat → Nat) × List Int
  | 0 => (m, [])
  | i + 1 => fstS v n (fstP v n m i).1 (fstP v n m i).2 i
theorem find_at {l : List Nat} {p : Nat → Bool} {j t : Nat} (hj : j < l.length) (hb : ∀ q, q < j → p (l.getD q 0) = false) (hp : p (l.getD j 0) = true) (ht : l.getD j 0 = t) : l.find? p = some t := by
  induction l generalizing j with
  | nil => simp at hj
  | cons a l ih =>
    cases j with
    | zero => simp only [List.getD_cons_zero] at hp ht; subst ht; simp [hp]
    | succ j =>
      have h0 := hb 0 (by omega)
      simp only [List.getD_cons_zero] at h0
      rw [List.find?_cons, h0]
      exact ih (j := j) (by simpa using hj) (fun q hq => by simpa using hb (q + 1) (by omega)) (by simpa using hp) (by simpa using ht)
def fnV (s : Sl) (step : Int → Int → Int) (m : Nat → Nat) : Option Int := (fiS s m 0 step min).fnd 0 0
def firstR (s : Sl) (u : Bool) (step : Int → Int → Int) (H : Hp) : Res → Hp → Prop := fun r H' => (fnV s step (tdA s u) = none ∧ r = .pan (refS 4) ∧ H' = H) ∨
  ∃ n id, fnV s step (tdA s u) = some n ∧ H id = none ∧ r = .ret (.tuple [i64 n, .sl id 1 (fstP (fnV s step) n (tdA s u) s.sh.length).2.length]) ∧
    H' = H.set id (.row 1 (fstP (fnV s step) n (tdA s u) s.sh.length).2.length (intF (fstP (fnV s step) n (tdA s u) s.sh.length).2))
theorem first_walk (s : Sl) (u : Bool) (step : Int → Int → Int) (fs fj : Fn) (cs cj : List AV) (H : Hp) (k : Ok s) (T : ∀ m, Gol (fiS s m 0 step min) fs fj cs cj) :
    Tri Tryd.prog (fnA 63) [opP s u, .agg [i64 0, .func fs [] cs, .func fj [] cj]] H (firstR s u step H) := by
  refine Tri.drop ?_
  refine tri_m (m := mset [39, 84]) Tryd.func63 (by kernel_rfl) rfl (by simp only [List.length_append, List.length_cons, List.length_nil, Tryd.ntmps63]; decide) ?_
  simp only [vsAll, boxA, boxZ, cellA, opA, dstOk, nilSliceOp, argFr, Nat.reduceAdd, Nat.reduceLT, Nat.reduceEqDiff, Nat.reduceBEq, ↓reduceIte, eq_self, wtAll, Tryd.ntmps63]
  refine vs_draw2 [0, 0, 0, 0, 0, 0, 0, 0, 0, 0, 0, 1, 3, 4] [([0, 1, 2, 3, 4, 5, 6, 7, 8, 9, 10], [0, 1, 4, 5, 7], 11), ([], [], 12)] [13] (by decide +kernel) ?_
  have nS := k.nS
  have hf := fun (m : Nat → Nat) (hm : ∀ i, m i < 2 ^ 16) H' => find_tri s u m 0 step min fs fj cs cj 0 0 H' k hm (T m) (Nat.pow_pos (by decide)) (by omega)
  simp only [vsAll, loadA, loadRow, partA, partOk, fieldAddrA, nilCheckA, fillA, okParts, partsA, partsOk, opA, dstOk, Nat.reduceAdd, Nat.reduceMul, Nat.reduceLT, Nat.reduceEqDiff, ↓reduceIte, eq_self, wtAll, bth_cells]
  refine qcall _ ⟨trivial, by simp only [vsAll, okAll, opsA, opA, Nat.reduceEqDiff, ↓reduceIte, eq_self], hf _ (tdA_b k u) _⟩ ?_
  simp only [vsAll, loadA, loadRow, partA, partOk, extractA, cellA, cellsA, okAll, stAll, opsA, opA, allocA, newCells, okCells, storeObj, dstOk, Nat.reduceAdd, Nat.reduceMul, Nat.reduceLT, Nat.reduceEqDiff, ↓reduceIte, eq_self, wtAll]
  intro i6 hh_i6; (try simp only [Hp.set_none, ite_none] at hh_i6)
  refine ⟨⟨by rw [bth_cells], rcall _ ⟨trivial, by simp only [vsAll, okAll, opsA, opA, Nat.reduceEqDiff, ↓reduceIte, eq_self], hf _ (tdA_b k u) _⟩ (by simp only [vsAll, Nat.reduceEqDiff, ↓reduceIte, eq_self])⟩, ?_⟩
  rw [Hp.set_set]
  generalize hv : fnV s step = v
  have hv0 : ∀ m, (fiS s m 0 step min).fnd 0 0 = v m := fun m => by rw [← hv]; rfl
  simp only [hv0] at hf ⊢
  cases hn : v (tdA s u) with
  | none =>
    refine want_call (fun hc => by cases hc) (fun hc => ?_)
    simp only [vsAll, eq_self]
    exact ⟨H, by (repeat (first | exact HSub_rfl | refine HSub_put_eq (by simp only [vsAll, binA, binLitA, intA, aggA, aggV, boolA, nilA2, isConst, unA, loadA, loadRow, partA, partOk, fieldAddrA, indexAddrA, indexA, fieldA, extractA, lenA, nilCheckA, boxA, boxZ, cellA, cellsA, fillA, okParts, buildSliceA, buildMutA, makeSliceA, partIdx, elemsA, lensA, ifaceA, convA, mmA, pickA, okAll, stAll, opsA, partsA, partsOk, opA, allocA, boxMutA, newCells, okCells, storeObj, appendA, guardV, taA, nM, mapUpA, lookA, sliceA, sliceS, boundsA, opO, okO, copyA, dstOk, nilA, quietOk, nilSliceOp, deferV, panA, resA, argFr, retA.eq_1, retA.eq_2, Nat.reduceAdd, Nat.reduceSub, Nat.reduceMul, Nat.reduceLT, Nat.reduceLeDiff, Nat.reduceEqDiff, Nat.reduceBEq, Int.reduceAdd, Int.reduceSub, Int.reduceMul, Int.reduceNeg, Int.reduceLE, Int.reduceLT, Int.reduceEq, Int.reduceNe, Int.reduceToNat, ↓reduceIte, reduceCtorEq, implies_true, forall_const, eq_self, ne_eq, wtAll, Tryd.ntmps63, Tryd.results63, hh_i6]) ?_ | refine HSub_drop2 (by simp only [eq_self, hh_i6]) ?_ | refine HSub_keep_eq (by simp only [vsAll, binA, binLitA, intA, aggA, aggV, boolA, nilA2, isConst, unA, loadA, loadRow, partA, partOk, fieldAddrA, indexAddrA, indexA, fieldA, extractA, lenA, nilCheckA, boxA, boxZ, cellA, cellsA, fillA, okParts, buildSliceA, buildMutA, makeSliceA, partIdx, elemsA, lensA, ifaceA, convA, mmA, pickA, okAll, stAll, opsA, partsA, partsOk, opA, allocA, boxMutA, newCells, okCells, storeObj, appendA, guardV, taA, nM, mapUpA, lookA, sliceA, sliceS, boundsA, opO, okO, copyA, dstOk, nilA, quietOk, nilSliceOp, deferV, panA, resA, argFr, retA.eq_1, retA.eq_2, Nat.reduceAdd, Nat.reduceSub, Nat.reduceMul, Nat.reduceLT, Nat.reduceLeDiff, Nat.reduceEqDiff, Nat.reduceBEq, Int.reduceAdd, Int.reduceSub, Int.reduceMul, Int.reduceNeg, Int.reduceLE, Int.reduceLT, Int.reduceEq, Int.reduceNe, Int.reduceToNat, ↓reduceIte, reduceCtorEq, implies_true, forall_const, eq_self, ne_eq, wtAll, Tryd.ntmps63, Tryd.results63, hh_i6]) ?_)), .inl ⟨by rw [hv, hn], rfl, rfl⟩⟩
  | some n =>
    refine want_call (fun hc => ?_) (fun hc => by cases hc)
    simp only [vsAll, loadA, loadRow, partA, partOk, fieldAddrA, lenA, nilCheckA, cellA, cellsA, makeSliceA, opA, allocA, newCells, okCells, storeObj, dstOk, Nat.reduceAdd, Nat.reduceMul, Nat.reduceLT, Nat.reduceEqDiff, Nat.reduceBEq, Int.reduceLE, Int.reduceToNat, ↓reduceIte, eq_self, wtAll, bth_cells, Option.getD_some]
    intro i8 hh_i8; (try simp only [ite_none] at hh_i8)
    refine ⟨fun q hq => by rw [bthF_at _ _ hq]; exact ⟨rfl, trivial⟩, by ((try clear hh_i6); (try clear hh_i8); omega), by ((try clear hh_i6); (try clear hh_i8); omega), by ((try clear hh_i6); (try clear hh_i8); omega), ?_⟩
    intro ir hh_ir; (try simp only [ite_none] at hh_ir); intro i9 hh_i9; (try simp only [ite_none] at hh_i9)
    generalize hpm : (fun i => (fstP v n (tdA s u) i).1) = pm
    generalize hpl : (fun i => (fstP v n (tdA s u) i).2) = pl
    have hm0 : pm 0 = tdA s u := by rw [← hpm]; rfl
    have hl0 : pl 0 = [] := by rw [← hpl]; rfl
    have hstep : ∀ i, (pm (i + 1), pl (i + 1)) = fstS v n (pm i) (pl i) i := fun i => by rw [← hpm, ← hpl]; rfl
    have hmb : ∀ i q, pm i q < 2 ^ 16 := by
      intro i
      induction i with
      | zero => rw [hm0]; exact tdA_b k u
      | succ i ih =>
        intro q
        have h1 := congrArg Prod.fst (hstep i)
        simp only [fstS] at h1
        rw [h1]
        cases hx : fstT v n (pm i) i (bitsL (pm i i)) with
        | none => exact ih q
        | some t =>
          simp only [upM]
          split
          · have := bitsL_lt (ih i) (List.mem_of_find?_eq_some hx)
            exact Nat.pow_lt_pow_right (by decide) this
          · exact ih q
    have hlb : ∀ i, (pl i).length ≤ i := by
      intro i
      induction i with
      | zero => rw [hl0]; exact Nat.le_refl _
      | succ i ih =>
        have h1 := congrArg Prod.snd (hstep i)
        simp only [fstS] at h1
        rw [h1]
        cases hx : fstT v n (pm i) i (bitsL (pm i i)) with
        | none => exact Nat.le_succ_of_le ih
        | some t => simp only [List.length_append, List.length_cons, List.length_nil]; exact Nat.succ_le_succ ih
    refine vs_loopD (σ := Nat × Hp × List Nat) (fun y => y.1 ≤ s.sh.length ∧ Mk H y.2.2 y.2.1 ∧ y.2.1 i6 = none ∧ y.2.1 i8 = none ∧ y.2.1 ir = none ∧ y.2.1 i9 = none)
      (fun y => [(2, .rptr 1 1 (fun _ => [opP s u]) 0 0), (3, .rptr 1 3 (fun _ => [i64 0, .func fs [] cs, .func fj [] cj]) 0 0), (6, .ref i6 0 1 0 0), (8, .ref i8 0 1 0 0), (9, .ref i9 0 1 0 0), (45, i64 s.sh.length), (46, i64 y.1)])
      (fun y => y.2.2.map AD.mark ++ []) (fun y => (((y.2.1.set i6 (.box 1 1 fun _ => [i64 n])).set i8 (.box 1 5 (bthF (pm y.1)))).set ir (.row 1 (pl y.1).length (intF (pl y.1)))).set i9 (.box 1 1 fun _ => [.sl ir 1 (pl y.1).length]))
      (fun y => s.sh.length - y.1) (0, H, []) ⟨Nat.zero_le _, Mk.nil H, hh_i6, hh_i8.2, hh_ir.2.2.2, hh_i9.2.2.2.2⟩ ?_ rfl ?_ fun y hy => ?_
    · simp only [vsAll, Nat.reduceEqDiff, ↓reduceIte, eq_self, Int.natCast_zero]
    · simp only [hm0, hl0, List.length_nil, intF_nil]; (repeat (first | exact HSub_rfl | refine HSub_put_eq (by simp only [vsAll, ↓reduceIte, eq_self, hh_i8, hh_ir, hh_i9]) ?_ | refine HSub_drop2 (by simp only [eq_self, hh_i6, hh_i8, hh_ir, hh_i9]) ?_ | refine HSub_keep_eq (by simp only [vsAll, binA, binLitA, intA, aggA, aggV, boolA, nilA2, isConst, unA, loadA, loadRow, partA, partOk, fieldAddrA, indexAddrA, indexA, fieldA, extractA, lenA, nilCheckA, boxA, boxZ, cellA, cellsA, fillA, okParts, buildSliceA, buildMutA, makeSliceA, partIdx, elemsA, lensA, ifaceA, convA, mmA, pickA, okAll, stAll, opsA, partsA, partsOk, opA, allocA, boxMutA, newCells, okCells, storeObj, appendA, guardV, taA, nM, mapUpA, lookA, sliceA, sliceS, boundsA, opO, okO, copyA, dstOk, nilA, quietOk, nilSliceOp, deferV, panA, resA, argFr, retA.eq_1, retA.eq_2, Nat.reduceAdd, Nat.reduceSub, Nat.reduceMul, Nat.reduceLT, Nat.reduceLeDiff, Nat.reduceEqDiff, Nat.reduceBEq, Int.reduceAdd, Int.reduceSub, Int.reduceMul, Int.reduceNeg, Int.reduceLE, Int.reduceLT, Int.reduceEq, Int.reduceNe, Int.reduceToNat, ↓reduceIte, reduceCtorEq, implies_true, forall_const, eq_self, ne_eq, wtAll, Tryd.ntmps63, Tryd.results63, hh_i6, hh_i8, hh_ir, hh_i9]) ?_))
    · obtain ⟨i, G, lm⟩ := y
      obtain ⟨hi, hG, g6, g8, gr, g9⟩ := hy
      simp only [] at hi hG g6 g8 gr g9
      skip
      simp only [vsAll, binA, binLitA, intA, opA, dstOk, Nat.reduceLT, Nat.reduceEqDiff, ↓reduceIte, eq_self]
      refine condD (fun hd => ?_) (fun hd => ?_)
      · have his : i < s.sh.length := by ((try clear hh_i6); (try clear hh_i8); (try clear hh_ir); (try clear hh_i9); (try clear g6); (try clear g8); (try clear gr); (try clear g9); omega)
        simp only [vsAll, loadA, loadRow, partA, partOk, indexAddrA, cellA, cellsA, okAll, stAll, opsA, opA, allocA, newCells, okCells, storeObj, dstOk, Nat.reduceMul, Nat.reduceLT, Nat.reduceEqDiff, ↓reduceIte, eq_self, wtAll, hh_ir, hh_i9]
        simp only [vsAll, Nat.reduceLT, eq_self, azT124]
        intro i10 hh_i10; (try simp only [ite_none] at hh_i10)
        simp only [vsAll, ↓reduceIte, eq_self, hh_i10]
        intro i11 hh_i11; (try simp only [ite_none] at hh_i11)
        simp only [vsAll, Nat.reduceLT, ↓reduceIte, eq_self, hh_i11]
        rw [bthF_at _ _ (by ((try clear hh_i6); (try clear hh_i8); (try clear hh_ir); (try clear hh_i9); (try clear g6); (try clear g8); (try clear gr); (try clear g9); (try clear hh_i10); (try clear hh_i11); omega))]
        simp only [vsAll]
        refine ⟨⟨by ((try clear hh_i6); (try clear hh_i8); (try clear hh_ir); (try clear hh_i9); (try clear g6); (try clear g8); (try clear gr); (try clear g9); (try clear hh_i10); (try clear hh_i11); omega), by ((try clear hh_i6); (try clear hh_i8); (try clear hh_ir); (try clear hh_i9); (try clear g6); (try clear g8); (try clear gr); (try clear g9); (try clear hh_i10); (try clear hh_i11); omega)⟩, by ((try clear hh_i6); (try clear hh_i8); (try clear hh_ir); (try clear hh_i9); (try clear g6); (try clear g8); (try clear gr); (try clear g9); (try clear hh_i10); (try clear hh_i11); omega), callK_pure (all_tri (pm i i) _) ?_⟩
        simp only [vsAll]
        generalize hL : bitsL (pm i i) = L
        refine vs_rangeS (σ := Unit) (bitsA (pm i i)) (fun j _ => ∀ q, q < j → ¬ v (upM (pm i) i (2 ^ L.getD q 0)) = some n)
          (fun _ _ => (((((G.set i6 (.box 1 1 fun _ => [i64 n])).set i8 (.box 1 5 (bthF (pm i)))).set ir (.row 1 (pl i).length (intF (pl i)))).set i9 (.box 1 1 fun _ => [.sl ir 1 (pl i).length])).set
            i10 (.box 1 1 fun _ => [i64 i])).set i11 (.box 1 1 fun _ => [.func (.func 83) [.arr 5 1 (bthF (pm i))] []])) () (fun _ => True) Tryd.func88 (by kernel_rfl) rfl (by simp only [vsAll, opA, ↓reduceIte, eq_self]) (by simp only [vsAll, opA, ↓reduceIte, eq_self]) (by decide) (fun v hv => by obtain ⟨p, _, rfl⟩ := List.mem_map.1 hv; rfl)
          (fun yf H K hi => all1_tri (pm i i) (by have := hmb i i; ((try clear hh_i6); (try clear hh_i8); (try clear hh_ir); (try clear hh_i9); (try clear g6); (try clear g8); (try clear gr); (try clear g9); (try clear hh_i10); (try clear hh_i11); omega)) yf H _ K hi) (fun q hq => absurd hq (Nat.not_lt_zero _)) ?_ ?_ ?_ ?_ ?_
        · (repeat (first | exact HSub_rfl | refine HSub_put_eq (by simp only [vsAll, ↓reduceIte, eq_self, hh_i8, hh_ir, hh_i9, hh_i10, hh_i11]) ?_ | refine HSub_drop2 (by simp only [eq_self, g6, g8, gr, g9, hh_i10, hh_i11]) ?_ | refine HSub_keep_eq (by simp only [vsAll, binA, binLitA, intA, aggA, aggV, boolA, nilA2, isConst, unA, loadA, loadRow, partA, partOk, fieldAddrA, indexAddrA, indexA, fieldA, extractA, lenA, nilCheckA, boxA, boxZ, cellA, cellsA, fillA, okParts, buildSliceA, buildMutA, makeSliceA, partIdx, elemsA, lensA, ifaceA, convA, mmA, pickA, okAll, stAll, opsA, partsA, partsOk, opA, allocA, boxMutA, newCells, okCells, storeObj, appendA, guardV, taA, nM, mapUpA, lookA, sliceA, sliceS, boundsA, opO, okO, copyA, dstOk, nilA, quietOk, nilSliceOp, deferV, panA, resA, argFr, retA.eq_1, retA.eq_2, Nat.reduceAdd, Nat.reduceSub, Nat.reduceMul, Nat.reduceLT, Nat.reduceLeDiff, Nat.reduceEqDiff, Nat.reduceBEq, Int.reduceAdd, Int.reduceSub, Int.reduceMul, Int.reduceNeg, Int.reduceLE, Int.reduceLT, Int.reduceEq, Int.reduceNe, Int.reduceToNat, ↓reduceIte, reduceCtorEq, implies_true, forall_const, eq_self, ne_eq, wtAll, Tryd.ntmps63, Tryd.results63, hh_i6, hh_i8, hh_ir, hh_i9, g6, g8, gr, g9, hh_i10, hh_i11]) ?_))
        · intro j _ _ q hq; exact hq
        · intros; trivial
        · rintro j w ⟨⟩ hw hbef lid did l lo h1 h2 h3'
          simp only [Hp.set_none] at h1 h2
          have h4 : ¬ did = lid := fun e => h3' e.symm
          skip
          obtain ⟨hj, rfl⟩ := bits_get hw
          rw [hL] at hj ⊢
          have ht16 : L.getD j 0 < 16 := by rw [← hL] at hj ⊢; exact bitsL_lt (hmb i i) (mem_getD _ j 0 hj)
          generalize hgt : L.getD j 0 = t at ht16 ⊢
          simp only [vsAll, opA, dstOk, quietOk, nilSliceOp, Nat.reduceLT, Nat.reduceBEq, ↓reduceIte, eq_self]
          refine vs_draw2R [0, 0, 0, 0, 0, 0, 0, 0, 0, 0, 0, 0, 0] [] [0, 1, 2, 3, 4, 5, 6, 7, 8, 9, 10, 11, 12] (by repeat' constructor) (by decide +kernel) ?_
          simp only [vsAll, loadA, loadRow, partA, partOk, opA, dstOk, Nat.reduceLT, Nat.reduceEqDiff, ↓reduceIte, eq_self, wtAll, hh_i11, h1, h2]
          refine qcall _ ⟨trivial, by simp only [vsAll, okAll, opsA, opA, Nat.reduceEqDiff, ↓reduceIte, eq_self], tri_bound (only_tri (pm i) i t _ (by ((try clear hh_i6); (try clear hh_i8); (try clear hh_ir); (try clear hh_i9); (try clear g6); (try clear g8); (try clear gr); (try clear g9); (try clear hh_i10); (try clear hh_i11); (try clear h1); (try clear h2); (try clear h3'); (try clear h4); omega)) (by ((try clear hh_i6); (try clear hh_i8); (try clear hh_ir); (try clear hh_i9); (try clear g6); (try clear g8); (try clear gr); (try clear g9); (try clear hh_i10); (try clear hh_i11); (try clear h1); (try clear h2); (try clear h3'); (try clear h4); omega)))⟩ ?_
          simp only [vsAll, loadA, loadRow, partA, partOk, fillA, okParts, partsA, partsOk, opA, dstOk, Nat.reduceLT, Nat.reduceEqDiff, ↓reduceIte, eq_self, wtAll]
          refine qcall _ ⟨trivial, by simp only [vsAll, okAll, opsA, opA, Nat.reduceEqDiff, ↓reduceIte, eq_self], hf (upM (pm i) i (2 ^ t)) (fun q => ?_) _⟩ ?_
          · unfold upM
            split
            · exact Nat.pow_lt_pow_right (by decide) ht16
            · exact hmb i q
          have nothing : ∀ (h : ¬ v (upM (pm i) i (2 ^ t)) = some n) q, q < j + 1 → ¬ v (upM (pm i) i (2 ^ L.getD q 0)) = some n := fun h q hq => by
            by_cases e : q = j
            · rw [e, hgt]; exact h
            · exact hbef q (by ((try clear hh_i6); (try clear hh_i8); (try clear hh_ir); (try clear hh_i9); (try clear g6); (try clear g8); (try clear gr); (try clear g9); (try clear hh_i10); (try clear hh_i11); (try clear h1); (try clear h2); (try clear h3'); (try clear h4); omega))
          cases hx : v (upM (pm i) i (2 ^ t)) with
          | none =>
            simp only [vsAll, binA, binLitA, intA, loadA, loadRow, partA, partOk, extractA, pickA, opA, guardV, dstOk, quietOk, Nat.reduceAdd, Nat.reduceLT, Nat.reduceEqDiff, ↓reduceIte, implies_true, eq_self, wtAll, hh_i8, hh_ir, hh_i9, hh_i10, hh_i11, h1, h2, Option.getD_none]
            exact ⟨⟨_, _, rfl⟩, _, ⟨(), nothing (by rw [hx]; simp), rfl⟩, by (repeat (first | exact HSub_rfl | refine HSub_put_eq (by simp only [vsAll, ↓reduceIte, eq_self, hh_i8, hh_ir, hh_i9, hh_i10, hh_i11, h1, h2, h4]) ?_ | refine HSub_drop2 (by simp only [eq_self, g6, g8, gr, g9, hh_i10, hh_i11, h1, h2]) ?_ | refine HSub_keep_eq (by simp only [vsAll, binA, binLitA, intA, aggA, aggV, boolA, nilA2, isConst, unA, loadA, loadRow, partA, partOk, fieldAddrA, indexAddrA, indexA, fieldA, extractA, lenA, nilCheckA, boxA, boxZ, cellA, cellsA, fillA, okParts, buildSliceA, buildMutA, makeSliceA, partIdx, elemsA, lensA, ifaceA, convA, mmA, pickA, okAll, stAll, opsA, partsA, partsOk, opA, allocA, boxMutA, newCells, okCells, storeObj, appendA, guardV, taA, nM, mapUpA, lookA, sliceA, sliceS, boundsA, opO, okO, copyA, dstOk, nilA, quietOk, nilSliceOp, deferV, panA, resA, argFr, retA.eq_1, retA.eq_2, Nat.reduceAdd, Nat.reduceSub, Nat.reduceMul, Nat.reduceLT, Nat.reduceLeDiff, Nat.reduceEqDiff, Nat.reduceBEq, Int.reduceAdd, Int.reduceSub, Int.reduceMul, Int.reduceNeg, Int.reduceLE, Int.reduceLT, Int.reduceEq, Int.reduceNe, Int.reduceToNat, ↓reduceIte, reduceCtorEq, implies_true, forall_const, eq_self, ne_eq, wtAll, Tryd.ntmps63, Tryd.results63, hh_i6, hh_i8, hh_ir, hh_i9, g6, g8, gr, g9, hh_i10, hh_i11, h1, h2, h3', h4]) ?_))⟩
          | some r =>
            simp only [vsAll, binA, binLitA, intA, loadA, loadRow, partA, partOk, extractA, pickA, opA, guardV, dstOk, quietOk, Nat.reduceAdd, Nat.reduceLT, Nat.reduceEqDiff, ↓reduceIte, implies_true, eq_self, wtAll, hh_i8, hh_ir, hh_i9, hh_i10, hh_i11, h1, h2, Option.getD_some]
            refine condV (fun hc => ?_) (fun hc => ?_)
            · have hrn : r = n := by simpa using hc
              subst hrn
              have hyes : fstT v r (pm i) i (bitsL (pm i i)) = some t := by
                unfold fstT
                rw [hL]
                refine find_at hj (fun q hq => ?_) (by rw [hgt, hx]; simp) hgt
                rw [decide_eq_false_iff_not]; exact hbef q hq
              have hs1 := congrArg Prod.fst (hstep i)
              have hs2 := congrArg Prod.snd (hstep i)
              simp only [fstS, hyes] at hs1 hs2
              have hlN := hlb i
              simp only [vsAll, eq_self]
              refine vs_draw2R [0, 0, 0, 0, 0, 0, 0, 1, 3, 5] [([0, 1, 2, 3, 4, 5, 6], [], 7), ([], [], 8), ([], [], 9)] [] (by repeat' constructor) (by decide +kernel) ?_
              simp only [vsAll, loadA, loadRow, partA, partOk, opA, dstOk, Nat.reduceLT, Nat.reduceEqDiff, ↓reduceIte, eq_self, wtAll, hh_i11, h1, h2]
              refine qcall _ ⟨trivial, by simp only [vsAll, okAll, opsA, opA, Nat.reduceEqDiff, ↓reduceIte, eq_self], tri_bound (only_tri (pm i) i t _ (by ((try clear hh_i6); (try clear hh_i8); (try clear hh_ir); (try clear hh_i9); (try clear g6); (try clear g8); (try clear gr); (try clear g9); (try clear hh_i10); (try clear hh_i11); (try clear h1); (try clear h2); (try clear h3'); (try clear h4); omega)) (by ((try clear hh_i6); (try clear hh_i8); (try clear hh_ir); (try clear hh_i9); (try clear g6); (try clear g8); (try clear gr); (try clear g9); (try clear hh_i10); (try clear hh_i11); (try clear h1); (try clear h2); (try clear h3'); (try clear h4); omega)))⟩ ?_
              simp only [vsAll, binA, binLitA, intA, loadA, loadRow, partA, partOk, cellA, cellsA, okParts, buildSliceA, partIdx, elemsA, lensA, partsA, partsOk, opA, newCells, okCells, storeObj, appendA, dstOk, Nat.reduceMul, Nat.reduceLT, Nat.reduceLeDiff, Nat.reduceEqDiff, ↓reduceIte, eq_self, wtAll, hh_ir, hh_i9, hh_i10, hh_i11, h1, h2]
              rw [app_ints (pl i) (t : Int) _ rfl]
              refine ⟨fun q hq => ?_, by ((try clear hh_i6); (try clear hh_i8); (try clear hh_ir); (try clear hh_i9); (try clear g6); (try clear g8); (try clear gr); (try clear g9); (try clear hh_i10); (try clear hh_i11); (try clear h1); (try clear h2); (try clear h3'); (try clear h4); omega), by ((try clear hh_i6); (try clear hh_i8); (try clear hh_ir); (try clear hh_i9); (try clear g6); (try clear g8); (try clear gr); (try clear g9); (try clear hh_i10); (try clear hh_i11); (try clear h1); (try clear h2); (try clear h3'); (try clear h4); omega), fun q hq => by rw [bthF_at _ _ hq]; exact ⟨rfl, trivial⟩, ⟨_, _, rfl⟩, by simp only [InR_i64]; ((try clear hh_i6); (try clear hh_i8); (try clear hh_ir); (try clear hh_i9); (try clear g6); (try clear g8); (try clear gr); (try clear g9); (try clear hh_i10); (try clear hh_i11); (try clear h1); (try clear h2); (try clear h3'); (try clear h4); omega),
                loopD_next (i + 1, G.set did dfO, did :: lm) ⟨by simp only []; ((try clear hh_i6); (try clear hh_i8); (try clear hh_ir); (try clear hh_i9); (try clear g6); (try clear g8); (try clear gr); (try clear g9); (try clear hh_i10); (try clear hh_i11); (try clear h1); (try clear h2); (try clear h3'); (try clear h4); omega), hG.cons h2.2.2.2.2.2.2, by simp only [vsAll, ↓reduceIte, eq_self, g6, h2], by simp only [vsAll, ↓reduceIte, eq_self, g8, h2], by simp only [vsAll, ↓reduceIte, eq_self, gr, h2], by simp only [vsAll, ↓reduceIte, eq_self, g9, h2]⟩ (by simp only []; ((try clear hh_i6); (try clear hh_i8); (try clear hh_ir); (try clear hh_i9); (try clear g6); (try clear g8); (try clear gr); (try clear g9); (try clear hh_i10); (try clear hh_i11); (try clear h1); (try clear h2); (try clear h3'); (try clear h4); omega)) ?_ rfl ?_⟩
              · have : q = 0 := by ((try clear hh_i6); (try clear hh_i8); (try clear hh_ir); (try clear hh_i9); (try clear g6); (try clear g8); (try clear gr); (try clear g9); (try clear hh_i10); (try clear hh_i11); (try clear h1); (try clear h2); (try clear h3'); (try clear h4); omega)
                subst this
                exact ⟨rfl, trivial⟩
              · simp only [vsAll, Nat.reduceEqDiff, ↓reduceIte, eq_self, Int.natCast_add, Int.natCast_one]
              · simp only [hs1, hs2, List.length_append, List.length_cons, List.length_nil]; (repeat (first | exact HSub_rfl | refine HSub_put_eq (by simp only [vsAll, ↓reduceIte, eq_self, hh_i8, hh_ir, hh_i9, hh_i10, hh_i11, h1, h2, h4]) ?_ | refine HSub_drop2 (by simp only [eq_self, g6, g8, gr, g9, hh_i10, hh_i11, h1, h2]) ?_ | refine HSub_keep_eq (by simp only [vsAll, binA, binLitA, intA, aggA, aggV, boolA, nilA2, isConst, unA, loadA, loadRow, partA, partOk, fieldAddrA, indexAddrA, indexA, fieldA, extractA, lenA, nilCheckA, boxA, boxZ, cellA, cellsA, fillA, okParts, buildSliceA, buildMutA, makeSliceA, partIdx, elemsA, lensA, ifaceA, convA, mmA, pickA, okAll, stAll, opsA, partsA, partsOk, opA, allocA, boxMutA, newCells, okCells, storeObj, appendA, guardV, taA, nM, mapUpA, lookA, sliceA, sliceS, boundsA, opO, okO, copyA, dstOk, nilA, quietOk, nilSliceOp, deferV, panA, resA, argFr, retA.eq_1, retA.eq_2, Nat.reduceAdd, Nat.reduceSub, Nat.reduceMul, Nat.reduceLT, Nat.reduceLeDiff, Nat.reduceEqDiff, Nat.reduceBEq, Int.reduceAdd, Int.reduceSub, Int.reduceMul, Int.reduceNeg, Int.reduceLE, Int.reduceLT, Int.reduceEq, Int.reduceNe, Int.reduceToNat, ↓reduceIte, reduceCtorEq, implies_true, forall_const, eq_self, ne_eq, wtAll, Tryd.ntmps63, Tryd.results63, hh_i6, hh_i8, hh_ir, hh_i9, g6, g8, gr, g9, hh_i10, hh_i11, h1, h2, h3', h4]) ?_))
            · have hrn : ¬ r = n := by simpa using hc
              simp only [vsAll, ↓reduceIte, eq_self]
              exact ⟨⟨_, _, rfl⟩, _, ⟨(), nothing (by rw [hx]; simpa using hrn), rfl⟩, by (repeat (first | exact HSub_rfl | refine HSub_put_eq (by simp only [vsAll, ↓reduceIte, eq_self, hh_i8, hh_ir, hh_i9, hh_i10, hh_i11, h1, h2, h4]) ?_ | refine HSub_drop2 (by simp only [eq_self, g6, g8, gr, g9, hh_i10, hh_i11, h1, h2]) ?_ | refine HSub_keep_eq (by simp only [vsAll, binA, binLitA, intA, aggA, aggV, boolA, nilA2, isConst, unA, loadA, loadRow, partA, partOk, fieldAddrA, indexAddrA, indexA, fieldA, extractA, lenA, nilCheckA, boxA, boxZ, cellA, cellsA, fillA, okParts, buildSliceA, buildMutA, makeSliceA, partIdx, elemsA, lensA, ifaceA, convA, mmA, pickA, okAll, stAll, opsA, partsA, partsOk, opA, allocA, boxMutA, newCells, okCells, storeObj, appendA, guardV, taA, nM, mapUpA, lookA, sliceA, sliceS, boundsA, opO, okO, copyA, dstOk, nilA, quietOk, nilSliceOp, deferV, panA, resA, argFr, retA.eq_1, retA.eq_2, Nat.reduceAdd, Nat.reduceSub, Nat.reduceMul, Nat.reduceLT, Nat.reduceLeDiff, Nat.reduceEqDiff, Nat.reduceBEq, Int.reduceAdd, Int.reduceSub, Int.reduceMul, Int.reduceNeg, Int.reduceLE, Int.reduceLT, Int.reduceEq, Int.reduceNe, Int.reduceToNat, ↓reduceIte, reduceCtorEq, implies_true, forall_const, eq_self, ne_eq, wtAll, Tryd.ntmps63, Tryd.results63, hh_i6, hh_i8, hh_ir, hh_i9, g6, g8, gr, g9, hh_i10, hh_i11, h1, h2, h3', h4]) ?_))⟩
        · rintro ⟨⟩ hbef lid did lo h1 h2 h3'
          simp only [Hp.set_none] at h1 h2
          have h4 : ¬ did = lid := fun e => h3' e.symm
          skip
          have hnone : fstT v n (pm i) i (bitsL (pm i i)) = none := by
            unfold fstT
            rw [hL, List.find?_eq_none]
            intro t ht
            obtain ⟨q, hq, rfl⟩ := getD_mem 0 ht
            rw [decide_eq_true_eq]
            exact hbef q (by simp [bitsA, hL]; exact hq)
          have hs1 := congrArg Prod.fst (hstep i)
          have hs2 := congrArg Prod.snd (hstep i)
          simp only [fstS, hnone] at hs1 hs2
          simp only [vsAll, binA, binLitA, intA, opA, dstOk, Nat.reduceLT, Nat.reduceEqDiff, ↓reduceIte, eq_self]
          refine ⟨by simp only [InR_i64]; ((try clear hh_i6); (try clear hh_i8); (try clear hh_ir); (try clear hh_i9); (try clear g6); (try clear g8); (try clear gr); (try clear g9); (try clear hh_i10); (try clear hh_i11); (try clear h1); (try clear h2); (try clear h3'); (try clear h4); omega), loopD_next (i + 1, G.set did dfO, did :: lm) ⟨by simp only []; ((try clear hh_i6); (try clear hh_i8); (try clear hh_ir); (try clear hh_i9); (try clear g6); (try clear g8); (try clear gr); (try clear g9); (try clear hh_i10); (try clear hh_i11); (try clear h1); (try clear h2); (try clear h3'); (try clear h4); omega), hG.cons h2.2.2.2.2.2.2, by simp only [vsAll, ↓reduceIte, eq_self, g6, h2], by simp only [vsAll, ↓reduceIte, eq_self, g8, h2], by simp only [vsAll, ↓reduceIte, eq_self, gr, h2], by simp only [vsAll, ↓reduceIte, eq_self, g9, h2]⟩ (by simp only []; ((try clear hh_i6); (try clear hh_i8); (try clear hh_ir); (try clear hh_i9); (try clear g6); (try clear g8); (try clear gr); (try clear g9); (try clear hh_i10); (try clear hh_i11); (try clear h1); (try clear h2); (try clear h3'); (try clear h4); omega)) ?_ rfl ?_⟩
          · simp only [vsAll, Nat.reduceEqDiff, ↓reduceIte, eq_self, Int.natCast_add, Int.natCast_one]
          · simp only [hs1, hs2]; (repeat (first | exact HSub_rfl | refine HSub_put_eq (by simp only [vsAll, ↓reduceIte, eq_self, hh_i8, hh_ir, hh_i9, hh_i10, hh_i11, h1, h2, h4]) ?_ | refine HSub_drop2 (by simp only [eq_self, g6, g8, gr, g9, hh_i10, hh_i11, h1, h2]) ?_ | refine HSub_keep_eq (by simp only [vsAll, binA, binLitA, intA, aggA, aggV, boolA, nilA2, isConst, unA, loadA, loadRow, partA, partOk, fieldAddrA, indexAddrA, indexA, fieldA, extractA, lenA, nilCheckA, boxA, boxZ, cellA, cellsA, fillA, okParts, buildSliceA, buildMutA, makeSliceA, partIdx, elemsA, lensA, ifaceA, convA, mmA, pickA, okAll, stAll, opsA, partsA, partsOk, opA, allocA, boxMutA, newCells, okCells, storeObj, appendA, guardV, taA, nM, mapUpA, lookA, sliceA, sliceS, boundsA, opO, okO, copyA, dstOk, nilA, quietOk, nilSliceOp, deferV, panA, resA, argFr, retA.eq_1, retA.eq_2, Nat.reduceAdd, Nat.reduceSub, Nat.reduceMul, Nat.reduceLT, Nat.reduceLeDiff, Nat.reduceEqDiff, Nat.reduceBEq, Int.reduceAdd, Int.reduceSub, Int.reduceMul, Int.reduceNeg, Int.reduceLE, Int.reduceLT, Int.reduceEq, Int.reduceNe, Int.reduceToNat, ↓reduceIte, reduceCtorEq, implies_true, forall_const, eq_self, ne_eq, wtAll, Tryd.ntmps63, Tryd.results63, hh_i6, hh_i8, hh_ir, hh_i9, g6, g8, gr, g9, hh_i10, hh_i11, h1, h2, h3', h4]) ?_))
      · have ei : i = s.sh.length := by ((try clear hh_i6); (try clear hh_i8); (try clear hh_ir); (try clear hh_i9); (try clear g6); (try clear g8); (try clear gr); (try clear g9); omega)
        subst ei
        have hlN := hlb s.sh.length
        simp only [vsAll, loadA, loadRow, partA, partOk, lenA, makeSliceA, opA, copyA, dstOk, nilSliceOp, Nat.reduceLT, Nat.reduceEqDiff, Nat.reduceBEq, ↓reduceIte, eq_self, ne_eq, wtAll, hh_i8, hh_ir, hh_i9]
        refine ⟨by ((try clear hh_i6); (try clear hh_i8); (try clear hh_ir); (try clear hh_i9); (try clear g6); (try clear g8); (try clear gr); (try clear g9); omega), by ((try clear hh_i6); (try clear hh_i8); (try clear hh_ir); (try clear hh_i9); (try clear g6); (try clear g8); (try clear gr); (try clear g9); omega), by ((try clear hh_i6); (try clear hh_i8); (try clear hh_ir); (try clear hh_i9); (try clear g6); (try clear g8); (try clear gr); (try clear g9); omega), ?_⟩
        intro io hh_io; (try simp only [ite_none] at hh_io)
        simp only [vsAll, Nat.reduceLT, ↓reduceIte, eq_self, hh_i9, hh_io]
        have ecp : cpF 0 (min (pl s.sh.length).length (pl s.sh.length).length) (fun x => [i64 0]) 0 (intF (pl s.sh.length)) = intF (pl s.sh.length) := by
          funext q
          simp only [cpF, Nat.min_self, Nat.zero_add, Nat.sub_zero]
          split
          · rfl
          · have : (pl s.sh.length).length ≤ q := by ((try clear hh_i6); (try clear hh_i8); (try clear hh_ir); (try clear hh_i9); (try clear g6); (try clear g8); (try clear gr); (try clear g9); (try clear hh_io); omega)
            simp [intF, List.getD_eq_getElem?_getD, List.getElem?_eq_none this]
        refine ⟨fun q hq => ⟨rfl, trivial⟩, ?_⟩
        rw [ecp, show lm.map AD.mark = lm.map AD.mark ++ [] from (List.append_nil _).symm]
        refine popM_many (H := H.set io (.row 1 (pl s.sh.length).length (intF (pl s.sh.length)))) hG.nodup (fun d hd' => ?_) (fun d hd' => ?_) ?_ (fun B K' => rfl) (fun B hB hs => ?_)
        · have hp := hG.at' d hd'
          have q1 : ¬ d = i6 := fun e => by rw [e, g6] at hp; cases hp
          have q2 : ¬ d = i8 := fun e => by rw [e, g8] at hp; cases hp
          have q3 : ¬ d = ir := fun e => by rw [e, gr] at hp; cases hp
          have q4 : ¬ d = i9 := fun e => by rw [e, g9] at hp; cases hp
          have q5 : ¬ d = io := fun e => by rw [e, hh_io.2.2.2.2] at hp; cases hp
          simp only [vsAll, ↓reduceIte, eq_self, q1, q2, q3, q4, q5, hp]
        · have hp := hG.at' d hd'
          have q5 : ¬ d = io := fun e => by rw [e, hh_io.2.2.2.2] at hp; cases hp
          rw [Hp.set_ne _ _ q5]
          exact hG.base d hd'
        · rw [Hp.set_set]
          refine HSub.set ?_ (.refl _)
          (repeat (first | exact HSub_rfl | refine HSub_put_eq (by simp only [vsAll, binA, binLitA, intA, aggA, aggV, boolA, nilA2, isConst, unA, loadA, loadRow, partA, partOk, fieldAddrA, indexAddrA, indexA, fieldA, extractA, lenA, nilCheckA, boxA, boxZ, cellA, cellsA, fillA, okParts, buildSliceA, buildMutA, makeSliceA, partIdx, elemsA, lensA, ifaceA, convA, mmA, pickA, okAll, stAll, opsA, partsA, partsOk, opA, allocA, boxMutA, newCells, okCells, storeObj, appendA, guardV, taA, nM, mapUpA, lookA, sliceA, sliceS, boundsA, opO, okO, copyA, dstOk, nilA, quietOk, nilSliceOp, deferV, panA, resA, argFr, retA.eq_1, retA.eq_2, Nat.reduceAdd, Nat.reduceSub, Nat.reduceMul, Nat.reduceLT, Nat.reduceLeDiff, Nat.reduceEqDiff, Nat.reduceBEq, Int.reduceAdd, Int.reduceSub, Int.reduceMul, Int.reduceNeg, Int.reduceLE, Int.reduceLT, Int.reduceEq, Int.reduceNe, Int.reduceToNat, ↓reduceIte, reduceCtorEq, implies_true, forall_const, eq_self, ne_eq, wtAll, Tryd.ntmps63, Tryd.results63, hh_i6, hh_i8, hh_ir, hh_i9, g6, g8, gr, g9, hh_io]) ?_ | refine HSub_drop2 (by simp only [eq_self, hh_i6, hh_i8, hh_ir, hh_i9]) ?_ | refine HSub_keep_eq (by simp only [vsAll, binA, binLitA, intA, aggA, aggV, boolA, nilA2, isConst, unA, loadA, loadRow, partA, partOk, fieldAddrA, indexAddrA, indexA, fieldA, extractA, lenA, nilCheckA, boxA, boxZ, cellA, cellsA, fillA, okParts, buildSliceA, buildMutA, makeSliceA, partIdx, elemsA, lensA, ifaceA, convA, mmA, pickA, okAll, stAll, opsA, partsA, partsOk, opA, allocA, boxMutA, newCells, okCells, storeObj, appendA, guardV, taA, nM, mapUpA, lookA, sliceA, sliceS, boundsA, opO, okO, copyA, dstOk, nilA, quietOk, nilSliceOp, deferV, panA, resA, argFr, retA.eq_1, retA.eq_2, Nat.reduceAdd, Nat.reduceSub, Nat.reduceMul, Nat.reduceLT, Nat.reduceLeDiff, Nat.reduceEqDiff, Nat.reduceBEq, Int.reduceAdd, Int.reduceSub, Int.reduceMul, Int.reduceNeg, Int.reduceLE, Int.reduceLT, Int.reduceEq, Int.reduceNe, Int.reduceToNat, ↓reduceIte, reduceCtorEq, implies_true, forall_const, eq_self, ne_eq, wtAll, Tryd.ntmps63, Tryd.results63, hh_i6, hh_i8, hh_ir, hh_i9, g6, g8, gr, g9, hh_io]) ?_))
          exact hG.sub
        · have hio : H io = none := hG.no hh_io.2.2.2.2
          have ep : (fstP (fnV s step) n (tdA s u) s.sh.length).2 = pl s.sh.length := by rw [hv, ← hpl]
          simp only [vsAll, resA, retA.eq_2, Nat.reduceEqDiff, ↓reduceIte, eq_self, Tryd.results63]
          exact ⟨_, hs, .inr ⟨n, io, by rw [hv, hn], hio, by rw [ep], by rw [ep]⟩⟩
/-- What the program tells of the first plan with so much. -/
def firstV (s : Sl) (u : Bool) (step : Int → Int → Int) (n : Int) : List Int := (fstP (fnV s step) n (tdA s u) s.sh.length).2
theorem first_call {s : Sl} {u : Bool} {step : Int → Int → Int} {fs fj : Fn} {cs cj : List AV} {H : Hp} {K Kp : AV → Hp → Prop} (k : Ok s) (T : ∀ m, Gol (fiS s m 0 step min) fs fj cs cj)
    (h1 : fnV s step (tdA s u) = none → Kp (refS 4) H) (h2 : ∀ n, fnV s step (tdA s u) = some n → K (.tuple [i64 n, intsAV (firstV s u step n)]) H) :
    CallK Tryd.prog (fnA 63) [opP s u, .agg [i64 0, .func fs [] cs, .func fj [] cj]] H K Kp := by
  refine ⟨fun r H' => H' = H ∧ ((fnV s step (tdA s u) = none ∧ r = .pan (refS 4)) ∨ ∃ n, fnV s step (tdA s u) = some n ∧ r = .ret (.tuple [i64 n, intsAV (firstV s u step n)])), ?_, fun r H' hr => ?_⟩
  · refine Tri.thawD (first_walk s u step fs fj cs cj H k T) fun r H' hr => ?_
    rcases hr with ⟨hn, rfl, rfl⟩ | ⟨n, id, hn, hid, rfl, rfl⟩
    · exact .inl ⟨rfl, .inl ⟨hn, rfl⟩⟩
    · right
      refine ⟨_, .tuple [i64 n, intsAV (firstV s u step n)], id, 1, (firstV s u step n).length, intF (firstV s u step n), rfl, Hp.set_same _ _ _, ?_, set_del hid, .inr ⟨n, hn, rfl⟩⟩
      refine .tuple rfl fun q hq => ?_
      match q, hq with
      | 0, _ => exact .same _
      | 1, _ => exact .hit fun i hi => rfl
  · rcases hr with ⟨rfl, ⟨hn, rfl⟩ | ⟨n, hn, rfl⟩⟩
    · exact h1 hn
    · exact h2 n hn
def wE (s : Sl) (u : Bool) (step : Int → Int → Int) : Int := if Ok s then if (fnV s step (tdA s u)).isSome = true then 0 else 4 else 1
def wV (s : Sl) (u : Bool) (step : Int → Int → Int) : Int := if wE s u step = 0 then (fnV s step (tdA s u)).getD 0 else 0
def wP (s : Sl) (u : Bool) (step : Int → Int → Int) : AV := if wE s u step = 0 then intsAV (firstV s u step (wV s u step)) else nilA
end Go.Proofs.YtnmgegodkmgdeaaDoor
end
section
set_option linter.unusedVariables false
set_option linter.unusedSimpArgs false
set_option maxHeartbeats 4000000
set_option maxRecDepth 100000
namespace Go.Proofs.YtnmgegodkmgdeaaDoor
open Go.V
theorem wbest_tri (s : Sl) (u : Bool) (H : Hp) (kn : Near s) : PTri Tryd.prog (fnA 21) [s.av, boo u] H (.tuple [i64 (wV s u max), wP s u max, i64 (wE s u max)]) := by
  refine Tri.drop ?_
  refine tri_a (m := fun _ => false) ans62 Tryd.func21 (by kernel_rfl) rfl (by simp only [List.length_append, List.length_cons, List.length_nil, Tryd.ntmps21]; decide) ?_
  simp only [vsAll, loadA, loadRow, partA, partOk, boxA, boxZ, okAll, stAll, opsA, opA, allocA, dstOk, nilSliceOp, deferV, argFr, Nat.reduceAdd, Nat.reduceLT, Nat.reduceEqDiff, ↓reduceIte, eq_self, wtAll, Tryd.ntmps21]
  intro i5 hh_i5; (try simp only [Hp.set_none, ite_none] at hh_i5)
  refine open_call kn (fun he => ?_) (fun k hv => ?_)
  · have hno : ¬ Ok s := fun k => he (errE_ok k)
    have e : wE s u max = 1 := if_neg hno
    have ev : wV s u max = 0 := by rw [wV, if_neg (by rw [e]; decide)]
    have ep : wP s u max = nilA := by rw [wP, if_neg (by rw [e]; decide)]
    have eE : errE s true = 1 := errE_no hno true
    simp only [vsAll]
    refine ⟨1, i5, _, by rw [eE], rfl, by simp only [vsAll, ↓reduceIte, eq_self]; try rfl, ?_⟩
    simp only [vsAll, loadA, loadRow, partA, partOk, resA, retA.eq_2, Nat.reduceLT, Nat.reduceEqDiff, ↓reduceIte, eq_self, wtAll, Tryd.results21]
    refine dropR_pure ?_ (by (repeat (first | exact HSub_rfl | refine HSub_put_eq (by simp only [vsAll, binA, binLitA, intA, aggA, aggV, boolA, nilA2, isConst, unA, loadA, loadRow, partA, partOk, fieldAddrA, indexAddrA, indexA, fieldA, extractA, lenA, nilCheckA, boxA, boxZ, cellA, cellsA, fillA, okParts, buildSliceA, buildMutA, makeSliceA, partIdx, elemsA, lensA, ifaceA, convA, mmA, pickA, okAll, stAll, opsA, partsA, partsOk, opA, allocA, boxMutA, newCells, okCells, storeObj, appendA, guardV, taA, nM, mapUpA, lookA, sliceA, sliceS, boundsA, opO, okO, copyA, dstOk, nilA, quietOk, nilSliceOp, deferV, panA, resA, argFr, retA.eq_1, retA.eq_2, Nat.reduceAdd, Nat.reduceSub, Nat.reduceMul, Nat.reduceLT, Nat.reduceLeDiff, Nat.reduceEqDiff, Nat.reduceBEq, Int.reduceAdd, Int.reduceSub, Int.reduceMul, Int.reduceNeg, Int.reduceLE, Int.reduceLT, Int.reduceEq, Int.reduceNe, Int.reduceToNat, ↓reduceIte, reduceCtorEq, implies_true, forall_const, eq_self, ne_eq, wtAll, Tryd.ntmps21, Tryd.results21, hh_i5]) ?_ | refine HSub_drop2 (by simp only [eq_self, hh_i5]) ?_ | refine HSub_keep_eq (by simp only [vsAll, binA, binLitA, intA, aggA, aggV, boolA, nilA2, isConst, unA, loadA, loadRow, partA, partOk, fieldAddrA, indexAddrA, indexA, fieldA, extractA, lenA, nilCheckA, boxA, boxZ, cellA, cellsA, fillA, okParts, buildSliceA, buildMutA, makeSliceA, partIdx, elemsA, lensA, ifaceA, convA, mmA, pickA, okAll, stAll, opsA, partsA, partsOk, opA, allocA, boxMutA, newCells, okCells, storeObj, appendA, guardV, taA, nM, mapUpA, lookA, sliceA, sliceS, boundsA, opO, okO, copyA, dstOk, nilA, quietOk, nilSliceOp, deferV, panA, resA, argFr, retA.eq_1, retA.eq_2, Nat.reduceAdd, Nat.reduceSub, Nat.reduceMul, Nat.reduceLT, Nat.reduceLeDiff, Nat.reduceEqDiff, Nat.reduceBEq, Int.reduceAdd, Int.reduceSub, Int.reduceMul, Int.reduceNeg, Int.reduceLE, Int.reduceLT, Int.reduceEq, Int.reduceNe, Int.reduceToNat, ↓reduceIte, reduceCtorEq, implies_true, forall_const, eq_self, ne_eq, wtAll, Tryd.ntmps21, Tryd.results21, hh_i5]) ?_)))
    simp only [nilA, eq_self, ev, e, ep]
  · simp only [vsAll, okAll, stAll, opsA, opA, dstOk, Nat.reduceLT]
    refine callK_pure (longest_tri _) ?_
    simp only [vsAll, okAll, stAll, opsA, opA, dstOk, Nat.reduceLT, Nat.reduceEqDiff, ↓reduceIte, eq_self]
    refine first_call k (fun m => lngG s m) (fun hn => ?_) (fun n hn => ?_)
    · have e : wE s u max = 4 := by rw [wE, if_pos k, hn]; rfl
      have ev : wV s u max = 0 := by rw [wV, if_neg (by rw [e]; decide)]
      have ep : wP s u max = nilA := by rw [wP, if_neg (by rw [e]; decide)]
      simp only [vsAll]
      refine ⟨4, i5, _, rfl, rfl, by simp only [vsAll, ↓reduceIte, eq_self]; try rfl, ?_⟩
      simp only [vsAll, loadA, loadRow, partA, partOk, resA, retA.eq_2, Nat.reduceLT, Nat.reduceEqDiff, ↓reduceIte, eq_self, wtAll, Tryd.results21]
      refine dropR_pure ?_ (by (repeat (first | exact HSub_rfl | refine HSub_put_eq (by simp only [vsAll, binA, binLitA, intA, aggA, aggV, boolA, nilA2, isConst, unA, loadA, loadRow, partA, partOk, fieldAddrA, indexAddrA, indexA, fieldA, extractA, lenA, nilCheckA, boxA, boxZ, cellA, cellsA, fillA, okParts, buildSliceA, buildMutA, makeSliceA, partIdx, elemsA, lensA, ifaceA, convA, mmA, pickA, okAll, stAll, opsA, partsA, partsOk, opA, allocA, boxMutA, newCells, okCells, storeObj, appendA, guardV, taA, nM, mapUpA, lookA, sliceA, sliceS, boundsA, opO, okO, copyA, dstOk, nilA, quietOk, nilSliceOp, deferV, panA, resA, argFr, retA.eq_1, retA.eq_2, Nat.reduceAdd, Nat.reduceSub, Nat.reduceMul, Nat.reduceLT, Nat.reduceLeDiff, Nat.reduceEqDiff, Nat.reduceBEq, Int.reduceAdd, Int.reduceSub, Int.reduceMul, Int.reduceNeg, Int.reduceLE, Int.reduceLT, Int.reduceEq, Int.reduceNe, Int.reduceToNat, ↓reduceIte, reduceCtorEq, implies_true, forall_const, eq_self, ne_eq, wtAll, Tryd.ntmps21, Tryd.results21, hh_i5]) ?_ | refine HSub_drop2 (by simp only [eq_self, hh_i5]) ?_ | refine HSub_keep_eq (by simp only [vsAll, binA, binLitA, intA, aggA, aggV, boolA, nilA2, isConst, unA, loadA, loadRow, partA, partOk, fieldAddrA, indexAddrA, indexA, fieldA, extractA, lenA, nilCheckA, boxA, boxZ, cellA, cellsA, fillA, okParts, buildSliceA, buildMutA, makeSliceA, partIdx, elemsA, lensA, ifaceA, convA, mmA, pickA, okAll, stAll, opsA, partsA, partsOk, opA, allocA, boxMutA, newCells, okCells, storeObj, appendA, guardV, taA, nM, mapUpA, lookA, sliceA, sliceS, boundsA, opO, okO, copyA, dstOk, nilA, quietOk, nilSliceOp, deferV, panA, resA, argFr, retA.eq_1, retA.eq_2, Nat.reduceAdd, Nat.reduceSub, Nat.reduceMul, Nat.reduceLT, Nat.reduceLeDiff, Nat.reduceEqDiff, Nat.reduceBEq, Int.reduceAdd, Int.reduceSub, Int.reduceMul, Int.reduceNeg, Int.reduceLE, Int.reduceLT, Int.reduceEq, Int.reduceNe, Int.reduceToNat, ↓reduceIte, reduceCtorEq, implies_true, forall_const, eq_self, ne_eq, wtAll, Tryd.ntmps21, Tryd.results21, hh_i5]) ?_)))
      simp only [nilA, eq_self, ev, e, ep]
    · have e : wE s u max = 0 := by rw [wE, if_pos k, hn]; rfl
      have ev : wV s u max = n := by rw [wV, if_pos e, hn]; rfl
      have ep : wP s u max = intsAV (firstV s u max n) := by rw [wP, if_pos e, ev]
      simp only [vsAll, extractA, cellA, cellsA, opA, newCells, okCells, storeObj, dstOk, nilSliceOp, Nat.reduceAdd, Nat.reduceLT, Nat.reduceEqDiff, ↓reduceIte, eq_self, wtAll]
      refine Ent.ret ⟨i5, _, rfl, by simp only [vsAll, ↓reduceIte, eq_self]; try rfl, ?_⟩
      simp only [vsAll, loadA, loadRow, partA, partOk, resA, retA.eq_2, Nat.reduceLT, Nat.reduceEqDiff, ↓reduceIte, eq_self, wtAll, Tryd.results21]
      refine dropR_pure ?_ (by (repeat (first | exact HSub_rfl | refine HSub_put_eq (by simp only [vsAll, binA, binLitA, intA, aggA, aggV, boolA, nilA2, isConst, unA, loadA, loadRow, partA, partOk, fieldAddrA, indexAddrA, indexA, fieldA, extractA, lenA, nilCheckA, boxA, boxZ, cellA, cellsA, fillA, okParts, buildSliceA, buildMutA, makeSliceA, partIdx, elemsA, lensA, ifaceA, convA, mmA, pickA, okAll, stAll, opsA, partsA, partsOk, opA, allocA, boxMutA, newCells, okCells, storeObj, appendA, guardV, taA, nM, mapUpA, lookA, sliceA, sliceS, boundsA, opO, okO, copyA, dstOk, nilA, quietOk, nilSliceOp, deferV, panA, resA, argFr, retA.eq_1, retA.eq_2, Nat.reduceAdd, Nat.reduceSub, Nat.reduceMul, Nat.reduceLT, Nat.reduceLeDiff, Nat.reduceEqDiff, Nat.reduceBEq, Int.reduceAdd, Int.reduceSub, Int.reduceMul, Int.reduceNeg, Int.reduceLE, Int.reduceLT, Int.reduceEq, Int.reduceNe, Int.reduceToNat, ↓reduceIte, reduceCtorEq, implies_true, forall_const, eq_self, ne_eq, wtAll, Tryd.ntmps21, Tryd.results21, hh_i5]) ?_ | refine HSub_drop2 (by simp only [eq_self, hh_i5]) ?_ | refine HSub_keep_eq (by simp only [vsAll, binA, binLitA, intA, aggA, aggV, boolA, nilA2, isConst, unA, loadA, loadRow, partA, partOk, fieldAddrA, indexAddrA, indexA, fieldA, extractA, lenA, nilCheckA, boxA, boxZ, cellA, cellsA, fillA, okParts, buildSliceA, buildMutA, makeSliceA, partIdx, elemsA, lensA, ifaceA, convA, mmA, pickA, okAll, stAll, opsA, partsA, partsOk, opA, allocA, boxMutA, newCells, okCells, storeObj, appendA, guardV, taA, nM, mapUpA, lookA, sliceA, sliceS, boundsA, opO, okO, copyA, dstOk, nilA, quietOk, nilSliceOp, deferV, panA, resA, argFr, retA.eq_1, retA.eq_2, Nat.reduceAdd, Nat.reduceSub, Nat.reduceMul, Nat.reduceLT, Nat.reduceLeDiff, Nat.reduceEqDiff, Nat.reduceBEq, Int.reduceAdd, Int.reduceSub, Int.reduceMul, Int.reduceNeg, Int.reduceLE, Int.reduceLT, Int.reduceEq, Int.reduceNe, Int.reduceToNat, ↓reduceIte, reduceCtorEq, implies_true, forall_const, eq_self, ne_eq, wtAll, Tryd.ntmps21, Tryd.results21, hh_i5]) ?_)))
      simp only [eq_self, ev, e, ep]
theorem wtotal_tri (s : Sl) (u : Bool) (H : Hp) (kn : Near s) : PTri Tryd.prog (fnA 23) [s.av, boo u] H (.tuple [i64 (wV s u (fun w r => w + r)), wP s u (fun w r => w + r), i64 (wE s u (fun w r => w + r))]) := by
  refine Tri.drop ?_
  refine tri_a (m := fun _ => false) ans66 Tryd.func23 (by kernel_rfl) rfl (by simp only [List.length_append, List.length_cons, List.length_nil, Tryd.ntmps23]; decide) ?_
  simp only [vsAll, loadA, loadRow, partA, partOk, boxA, boxZ, okAll, stAll, opsA, opA, allocA, dstOk, nilSliceOp, deferV, argFr, Nat.reduceAdd, Nat.reduceLT, Nat.reduceEqDiff, ↓reduceIte, eq_self, wtAll, Tryd.ntmps23]
  intro i5 hh_i5; (try simp only [Hp.set_none, ite_none] at hh_i5)
  refine open_call kn (fun he => ?_) (fun k hv => ?_)
  · have hno : ¬ Ok s := fun k => he (errE_ok k)
    have e : wE s u (fun w r => w + r) = 1 := if_neg hno
    have ev : wV s u (fun w r => w + r) = 0 := by rw [wV, if_neg (by rw [e]; decide)]
    have ep : wP s u (fun w r => w + r) = nilA := by rw [wP, if_neg (by rw [e]; decide)]
    have eE : errE s true = 1 := errE_no hno true
    simp only [vsAll]
    refine ⟨1, i5, _, by rw [eE], rfl, by simp only [vsAll, ↓reduceIte, eq_self]; try rfl, ?_⟩
    simp only [vsAll, loadA, loadRow, partA, partOk, resA, retA.eq_2, Nat.reduceLT, Nat.reduceEqDiff, ↓reduceIte, eq_self, wtAll, Tryd.results23]
    refine dropR_pure ?_ (by (repeat (first | exact HSub_rfl | refine HSub_put_eq (by simp only [vsAll, binA, binLitA, intA, aggA, aggV, boolA, nilA2, isConst, unA, loadA, loadRow, partA, partOk, fieldAddrA, indexAddrA, indexA, fieldA, extractA, lenA, nilCheckA, boxA, boxZ, cellA, cellsA, fillA, okParts, buildSliceA, buildMutA, makeSliceA, partIdx, elemsA, lensA, ifaceA, convA, mmA, pickA, okAll, stAll, opsA, partsA, partsOk, opA, allocA, boxMutA, newCells, okCells, storeObj, appendA, guardV, taA, nM, mapUpA, lookA, sliceA, sliceS, boundsA, opO, okO, copyA, dstOk, nilA, quietOk, nilSliceOp, deferV, panA, resA, argFr, retA.eq_1, retA.eq_2, Nat.reduceAdd, Nat.reduceSub, Nat.reduceMul, Nat.reduceLT, Nat.reduceLeDiff, Nat.reduceEqDiff, Nat.reduceBEq, Int.reduceAdd, Int.reduceSub, Int.reduceMul, Int.reduceNeg, Int.reduceLE, Int.reduceLT, Int.reduceEq, Int.reduceNe, Int.reduceToNat, ↓reduceIte, reduceCtorEq, implies_true, forall_const, eq_self, ne_eq, wtAll, Tryd.ntmps23, Tryd.results23, hh_i5]) ?_ | refine HSub_drop2 (by simp only [eq_self, hh_i5]) ?_ | refine HSub_keep_eq (by simp only [vsAll, binA, binLitA, intA, aggA, aggV, boolA, nilA2, isConst, unA, loadA, loadRow, partA, partOk, fieldAddrA, indexAddrA, indexA, fieldA, extractA, lenA, nilCheckA, boxA, boxZ, cellA, cellsA, fillA, okParts, buildSliceA, buildMutA, makeSliceA, partIdx, elemsA, lensA, ifaceA, convA, mmA, pickA, okAll, stAll, opsA, partsA, partsOk, opA, allocA, boxMutA, newCells, okCells, storeObj, appendA, guardV, taA, nM, mapUpA, lookA, sliceA, sliceS, boundsA, opO, okO, copyA, dstOk, nilA, quietOk, nilSliceOp, deferV, panA, resA, argFr, retA.eq_1, retA.eq_2, Nat.reduceAdd, Nat.reduceSub, Nat.reduceMul, Nat.reduceLT, Nat.reduceLeDiff, Nat.reduceEqDiff, Nat.reduceBEq, Int.reduceAdd, Int.reduceSub, Int.reduceMul, Int.reduceNeg, Int.reduceLE, Int.reduceLT, Int.reduceEq, Int.reduceNe, Int.reduceToNat, ↓reduceIte, reduceCtorEq, implies_true, forall_const, eq_self, ne_eq, wtAll, Tryd.ntmps23, Tryd.results23, hh_i5]) ?_)))
    simp only [nilA, eq_self, ev, e, ep]
  · simp only [vsAll, okAll, stAll, opsA, opA, dstOk, Nat.reduceLT]
    refine callK_pure (sumg_tri _) ?_
    simp only [vsAll, okAll, stAll, opsA, opA, dstOk, Nat.reduceLT, Nat.reduceEqDiff, ↓reduceIte, eq_self]
    refine first_call k (fun m => sumG s m) (fun hn => ?_) (fun n hn => ?_)
    · have e : wE s u (fun w r => w + r) = 4 := by rw [wE, if_pos k, hn]; rfl
      have ev : wV s u (fun w r => w + r) = 0 := by rw [wV, if_neg (by rw [e]; decide)]
      have ep : wP s u (fun w r => w + r) = nilA := by rw [wP, if_neg (by rw [e]; decide)]
      simp only [vsAll]
      refine ⟨4, i5, _, rfl, rfl, by simp only [vsAll, ↓reduceIte, eq_self]; try rfl, ?_⟩
      simp only [vsAll, loadA, loadRow, partA, partOk, resA, retA.eq_2, Nat.reduceLT, Nat.reduceEqDiff, ↓reduceIte, eq_self, wtAll, Tryd.results23]
      refine dropR_pure ?_ (by (repeat (first | exact HSub_rfl | refine HSub_put_eq (by simp only [vsAll, binA, binLitA, intA, aggA, aggV, boolA, nilA2, isConst, unA, loadA, loadRow, partA, partOk, fieldAddrA, indexAddrA, indexA, fieldA, extractA, lenA, nilCheckA, boxA, boxZ, cellA, cellsA, fillA, okParts, buildSliceA, buildMutA, makeSliceA, partIdx, elemsA, lensA, ifaceA, convA, mmA, pickA, okAll, stAll, opsA, partsA, partsOk, opA, allocA, boxMutA, newCells, okCells, storeObj, appendA, guardV, taA, nM, mapUpA, lookA, sliceA, sliceS, boundsA, opO, okO, copyA, dstOk, nilA, quietOk, nilSliceOp, deferV, panA, resA, argFr, retA.eq_1, retA.eq_2, Nat.reduceAdd, Nat.reduceSub, Nat.reduceMul, Nat.reduceLT, Nat.reduceLeDiff, Nat.reduceEqDiff, Nat.reduceBEq, Int.reduceAdd, Int.reduceSub, Int.reduceMul, Int.reduceNeg, Int.reduceLE, Int.reduceLT, Int.reduceEq, Int.reduceNe, Int.reduceToNat, ↓reduceIte, reduceCtorEq, implies_true, forall_const, eq_self, ne_eq, wtAll, Tryd.ntmps23, Tryd.results23, hh_i5]) ?_ | refine HSub_drop2 (by simp only [eq_self, hh_i5]) ?_ | refine HSub_keep_eq (by simp only [vsAll, binA, binLitA, intA, aggA, aggV, boolA, nilA2, isConst, unA, loadA, loadRow, partA, partOk, fieldAddrA, indexAddrA, indexA, fieldA, extractA, lenA, nilCheckA, boxA, boxZ, cellA, cellsA, fillA, okParts, buildSliceA, buildMutA, makeSliceA, partIdx, elemsA, lensA, ifaceA, convA, mmA, pickA, okAll, stAll, opsA, partsA, partsOk, opA, allocA, boxMutA, newCells, okCells, storeObj, appendA, guardV, taA, nM, mapUpA, lookA, sliceA, sliceS, boundsA, opO, okO, copyA, dstOk, nilA, quietOk, nilSliceOp, deferV, panA, resA, argFr, retA.eq_1, retA.eq_2, Nat.reduceAdd, Nat.reduceSub, Nat.reduceMul, Nat.reduceLT, Nat.reduceLeDiff, Nat.reduceEqDiff, Nat.reduceBEq, Int.reduceAdd, Int.reduceSub, Int.reduceMul, Int.reduceNeg, Int.reduceLE, Int.reduceLT, Int.reduceEq, Int.reduceNe, Int.reduceToNat, ↓reduceIte, reduceCtorEq, implies_true, forall_const, eq_self, ne_eq, wtAll, Tryd.ntmps23, Tryd.results23, hh_i5]) ?_)))
      simp only [nilA, eq_self, ev, e, ep]
    · have e : wE s u (fun w r => w + r) = 0 := by rw [wE, if_pos k, hn]; rfl
      have ev : wV s u (fun w r => w + r) = n := by rw [wV, if_pos e, hn]; rfl
      have ep : wP s u (fun w r => w + r) = intsAV (firstV s u (fun w r => w + r) n) := by rw [wP, if_pos e, ev]
      simp only [vsAll, extractA, cellA, cellsA, opA, newCells, okCells, storeObj, dstOk, nilSliceOp, Nat.reduceAdd, Nat.reduceLT, Nat.reduceEqDiff, ↓reduceIte, eq_self, wtAll]
      refine Ent.ret ⟨i5, _, rfl, by simp only [vsAll, ↓reduceIte, eq_self]; try rfl, ?_⟩
      simp only [vsAll, loadA, loadRow, partA, partOk, resA, retA.eq_2, Nat.reduceLT, Nat.reduceEqDiff, ↓reduceIte, eq_self, wtAll, Tryd.results23]
      refine dropR_pure ?_ (by (repeat (first | exact HSub_rfl | refine HSub_put_eq (by simp only [vsAll, binA, binLitA, intA, aggA, aggV, boolA, nilA2, isConst, unA, loadA, loadRow, partA, partOk, fieldAddrA, indexAddrA, indexA, fieldA, extractA, lenA, nilCheckA, boxA, boxZ, cellA, cellsA, fillA, okParts, buildSliceA, buildMutA, makeSliceA, partIdx, elemsA, lensA, ifaceA, convA, mmA, pickA, okAll, stAll, opsA, partsA, partsOk, opA, allocA, boxMutA, newCells, okCells, storeObj, appendA, guardV, taA, nM, mapUpA, lookA, sliceA, sliceS, boundsA, opO, okO, copyA, dstOk, nilA, quietOk, nilSliceOp, deferV, panA, resA, argFr, retA.eq_1, retA.eq_2, Nat.reduceAdd, Nat.reduceSub, Nat.reduceMul, Nat.reduceLT, Nat.reduceLeDiff, Nat.reduceEqDiff, Nat.reduceBEq, Int.reduceAdd, Int.reduceSub, Int.reduceMul, Int.reduceNeg, Int.reduceLE, Int.reduceLT, Int.reduceEq, Int.reduceNe, Int.reduceToNat, ↓reduceIte, reduceCtorEq, implies_true, forall_const, eq_self, ne_eq, wtAll, Tryd.ntmps23, Tryd.results23, hh_i5]) ?_ | refine HSub_drop2 (by simp only [eq_self, hh_i5]) ?_ | refine HSub_keep_eq (by simp only [vsAll, binA, binLitA, intA, aggA, aggV, boolA, nilA2, isConst, unA, loadA, loadRow, partA, partOk, fieldAddrA, indexAddrA, indexA, fieldA, extractA, lenA, nilCheckA, boxA, boxZ, cellA, cellsA, fillA, okParts, buildSliceA, buildMutA, makeSliceA, partIdx, elemsA, lensA, ifaceA, convA, mmA, pickA, okAll, stAll, opsA, partsA, partsOk, opA, allocA, boxMutA, newCells, okCells, storeObj, appendA, guardV, taA, nM, mapUpA, lookA, sliceA, sliceS, boundsA, opO, okO, copyA, dstOk, nilA, quietOk, nilSliceOp, deferV, panA, resA, argFr, retA.eq_1, retA.eq_2, Nat.reduceAdd, Nat.reduceSub, Nat.reduceMul, Nat.reduceLT, Nat.reduceLeDiff, Nat.reduceEqDiff, Nat.reduceBEq, Int.reduceAdd, Int.reduceSub, Int.reduceMul, Int.reduceNeg, Int.reduceLE, Int.reduceLT, Int.reduceEq, Int.reduceNe, Int.reduceToNat, ↓reduceIte, reduceCtorEq, implies_true, forall_const, eq_self, ne_eq, wtAll, Tryd.ntmps23, Tryd.results23, hh_i5]) ?_)))
      simp only [eq_self, ev, e, ep]
end Go.Proofs.YtnmgegodkmgdeaaDoor
end
section
set_option linter.unusedVariables false
set_option linter.unusedSimpArgs false
namespace Go.Proofs.YtnmgegodkmgdeaaDoor
open Go.V
def boxL (h : Nat) : Nat → List (List Int)
  | 0 => [[]]
  | n + 1 => (List.range h).flatMap fun t : Nat => (boxL h n).map fun l => (t : Int) :: l
theorem mem_box {h : Nat} : ∀ {n : Nat} {l : List Int}, l ∈ boxL h n ↔ l.length = n ∧ ∀ j, j < n → ∃ q : Nat, q < h ∧ l.getD j 0 = (q : Int) := by
  intro n
  induction n with
  | zero =>
    intro l
    simp only [boxL, List.mem_singleton]
    constructor
    · rintro rfl; exact ⟨rfl, fun j hj => absurd hj (Nat.not_lt_zero _)⟩
    · rintro ⟨h1, _⟩; exact List.length_eq_zero_iff.1 h1
  | succ n ih =>
    intro l
    simp only [boxL, List.mem_flatMap, List.mem_range, List.mem_map]
    constructor
    · rintro ⟨t, ht, r, hr, rfl⟩
      obtain ⟨h1, h2⟩ := ih.1 hr
      refine ⟨by simp [h1], fun j hj => ?_⟩
      cases j with
      | zero => exact ⟨t, ht, by simp⟩
      | succ j =>
        obtain ⟨q, hq, e⟩ := h2 j (by omega)
        exact ⟨q, hq, by simpa using e⟩
    · rintro ⟨h1, h2⟩
      match l, h1 with
      | a :: r, h1 =>
        obtain ⟨q, hq, e⟩ := h2 0 (by omega)
        refine ⟨q, hq, r, ih.2 ⟨by simpa using h1, fun j hj => ?_⟩, by simp at e; rw [e]⟩
        obtain ⟨p, hp, e2⟩ := h2 (j + 1) (by omega)
        exact ⟨p, hp, by simpa using e2⟩
theorem nodup_box (h n : Nat) : (boxL h n).Nodup := by
  induction n with
  | zero => simp [boxL]
  | succ n ih =>
    unfold boxL
    rw [List.nodup_iff_pairwise_ne, List.flatMap_def, List.pairwise_flatten]
    constructor
    · intro l hl
      obtain ⟨t, _, rfl⟩ := List.mem_map.1 hl
      rw [List.pairwise_map]
      refine ih.imp fun hab e => hab ?_
      simpa using e
    · rw [List.pairwise_map]
      refine List.pairwise_lt_range.imp fun {a b} hab => ?_
      intro x hx y hy e
      obtain ⟨r, _, rfl⟩ := List.mem_map.1 hx
      obtain ⟨r', _, rfl⟩ := List.mem_map.1 hy
      simp only [List.cons.injEq] at e
      omega
theorem box_ext {h n : Nat} {a b : List Int} (ha : a ∈ boxL h n) (hb : b ∈ boxL h n) (e : ∀ i, i < n → a.getD i 0 = b.getD i 0) : a = b := by
  obtain ⟨h1, _⟩ := mem_box.1 ha
  obtain ⟨h2, _⟩ := mem_box.1 hb
  refine List.ext_getElem (by omega) fun i hi hj => ?_
  have := e i (by omega)
  simpa [List.getD_eq_getElem?_getD, hi, hj] using this
theorem box_set {h n i t : Nat} {b : List Int} (hb : b ∈ boxL h n) (ht : t < h) : b.set i (t : Int) ∈ boxL h n := by
  obtain ⟨h1, h2⟩ := mem_box.1 hb
  refine mem_box.2 ⟨by simp [h1], fun j hj => ?_⟩
  by_cases hij : i = j
  · exact ⟨t, ht, by simp [List.getD_eq_getElem?_getD, List.getElem?_set, hij, h1, hj]⟩
  · obtain ⟨q, hq, e⟩ := h2 j hj
    exact ⟨q, hq, by simpa [List.getD_eq_getElem?_getD, List.getElem?_set, hij] using e⟩
theorem getD_set {b : List Int} {i j : Nat} {t : Int} (hi : i < b.length) : (b.set i t).getD j 0 = if j = i then t else b.getD j 0 := by
  by_cases hij : i = j
  · simp [List.getD_eq_getElem?_getD, List.getElem?_set, hij, hij ▸ hi]
  · have : ¬ j = i := fun e => hij e.symm
    simp [List.getD_eq_getElem?_getD, List.getElem?_set, hij, this]
/-- The one of the least. -/
theorem exists_min (f : Nat → Int) : ∀ (l : List Nat), l ≠ [] → ∃ i, i ∈ l ∧ ∀ j ∈ l, f i ≤ f j := by
  intro l
  induction l with
  | nil => intro h; exact absurd rfl h
  | cons a l ih =>
    intro _
    by_cases hl : l = []
    · subst hl; exact ⟨a, by simp, by simp⟩
    · obtain ⟨i, hi, hm⟩ := ih hl
      by_cases h : f a ≤ f i
      · refine ⟨a, by simp, fun j hj => ?_⟩
        rcases List.mem_cons.1 hj with rfl | hj
        · exact Int.le_refl _
        · have := hm j hj; omega
      · refine ⟨i, by simp [hi], fun j hj => ?_⟩
        rcases List.mem_cons.1 hj with rfl | hj
        · omega
        · exact hm j hj

/-- The ships that have not had the slip come on from some tide on, at tides of theirs, and never two at once. -/
structure Fi.Rt (x : Fi) (had : Nat) (free : Int) (l : List Int) : Prop where
  on : ∀ i, i < x.N → had.testBit i = false → free ≤ l.getD i 0 ∧ (x.may i).testBit (l.getD i 0).toNat = true
  two : ∀ i j, i < x.N → j < x.N → i ≠ j → had.testBit i = false → had.testBit j = false → l.getD i 0 + x.td i ≤ l.getD j 0 ∨ l.getD j 0 + x.td j ≤ l.getD i 0
/-- The others do as they are told to. -/
def Fi.Ag (x : Fi) (had : Nat) (b l : List Int) : Prop := ∀ i, i < x.N → had.testBit i = true → l.getD i 0 = b.getD i 0
/-- What is counted of one plan. -/
def Fi.vl (x : Fi) (had : Nat) (l : List Int) : Nat → Int
  | 0 => x.e0
  | i + 1 => if had.testBit i = true then x.vl had l i else x.step (l.getD i 0 - x.fr i) (x.vl had l i)
structure Fi.Lw (x : Fi) : Prop where
  hj : ∀ a b c, x.join (x.join a b) c = x.join a (x.join b c)
  hc : ∀ a b, x.join a b = x.join b a
  hs : ∀ w a b, x.step w (x.join a b) = x.join (x.step w a) (x.step w b)
  hl : ∀ v w r, x.step v (x.step w r) = x.step w (x.step v r)
theorem vl_or {x : Fi} (w : x.Lw) {had i : Nat} (h : had.testBit i = false) (l : List Int) : ∀ n, i < n → x.vl had l n = x.step (l.getD i 0 - x.fr i) (x.vl (had ||| 2 ^ i) l n) := by
  intro n
  have low : ∀ m, m ≤ i → x.vl had l m = x.vl (had ||| 2 ^ i) l m := by
    intro m
    induction m with
    | zero => intro _; rfl
    | succ m ih =>
      intro hm
      have e : (had ||| 2 ^ i).testBit m = had.testBit m := by
        rw [or_test, decide_eq_false (by omega), Bool.or_false]
      simp only [Fi.vl, e, ih (by omega)]
  induction n with
  | zero => intro h0; omega
  | succ n ih =>
    intro hn
    by_cases e : n = i
    · subst e
      have e2 : (had ||| 2 ^ n).testBit n = true := by rw [or_test]; simp
      simp only [Fi.vl, h, e2, if_true, Bool.false_eq_true, if_false, low n (Nat.le_refl _)]
    · have e2 : (had ||| 2 ^ i).testBit n = had.testBit n := by
        rw [or_test, decide_eq_false e, Bool.or_false]
      simp only [Fi.vl, e2, ih (by omega)]
      split
      · rfl
      · rw [w.hl]
/-- The choices of who is next. -/
def Fi.nx (x : Fi) (had : Nat) : List (Nat × Nat) := (List.range x.N).flatMap fun i => if had.testBit i = true then [] else (bitsL (x.may i)).map fun t => (i, t)
theorem mem_nx {x : Fi} {had : Nat} {c : Nat × Nat} : c ∈ x.nx had ↔ c.1 < x.N ∧ had.testBit c.1 = false ∧ c.2 ∈ bitsL (x.may c.1) := by
  unfold Fi.nx
  rw [List.mem_flatMap]
  constructor
  · rintro ⟨i, hi, hm⟩
    rw [List.mem_range] at hi
    cases hb : had.testBit i with
    | true => rw [hb, if_pos rfl] at hm; cases hm
    | false =>
      rw [hb, if_neg (by decide)] at hm
      obtain ⟨t, ht, rfl⟩ := List.mem_map.1 hm
      exact ⟨hi, hb, ht⟩
  · rintro ⟨h1, h2, h3⟩
    refine ⟨c.1, List.mem_range.2 h1, ?_⟩
    rw [h2, if_neg (by decide)]
    exact List.mem_map.2 ⟨c.2, h3, rfl⟩
theorem nodup_nx (x : Fi) (had : Nat) : (x.nx had).Nodup := by
  unfold Fi.nx
  rw [List.nodup_iff_pairwise_ne, List.flatMap_def, List.pairwise_flatten]
  constructor
  · intro l hl
    obtain ⟨i, _, rfl⟩ := List.mem_map.1 hl
    split
    · exact List.Pairwise.nil
    · rw [List.pairwise_map]
      refine (bitsL_sorted _).imp fun {a b} hab e => ?_
      simp only [Prod.mk.injEq] at e
      omega
  · rw [List.pairwise_map]
    refine List.pairwise_lt_range.imp fun {a b} hab => ?_
    intro p hp q hq e
    subst e
    split at hp
    · cases hp
    · split at hq
      · cases hq
      · obtain ⟨t, _, rfl⟩ := List.mem_map.1 hp
        obtain ⟨t', _, e⟩ := List.mem_map.1 hq
        simp only [Prod.mk.injEq] at e
        omega
theorem shp_nx (x : Fi) (f : Nat → Int → Option Int) (had : Nat) (free : Int) : x.shpF f had free (List.range x.N) = (x.nx had).foldl (fun z c => comb x.join z (x.con f had free c.1 c.2)) none := by
  unfold Fi.shpF Fi.nx
  generalize (none : Option Int) = z
  generalize List.range x.N = l
  induction l generalizing z with
  | nil => rfl
  | cons i l ih =>
    rw [List.foldl_cons, List.flatMap_cons, List.foldl_append, ih]
    congr 1
    split
    · rfl
    · rw [List.foldl_map]; rfl
theorem bit_or {had i k : Nat} : (had ||| 2 ^ i).testBit k = false ↔ had.testBit k = false ∧ k ≠ i := by
  rw [or_test, Bool.or_eq_false_iff, decide_eq_false_iff_not]
theorem fd_eq {x : Fi} (w : x.Lw) {h : Nat} (h64 : h ≤ 64) (hm : ∀ i, x.may i < 2 ^ h) (htd : ∀ i, i < x.N → 1 ≤ x.td i) : ∀ (n had : Nat) (free : Int) (b : List Int), cnt x.N had = n → had < 2 ^ x.N → 0 ≤ free → b ∈ boxL h x.N →
    x.fd n had free = foldJ x.join ((filP (fun l => x.Rt had free l ∧ x.Ag had b l) (boxL h x.N)).map fun l => x.vl had l x.N) := by
  intro n
  induction n with
  | zero =>
    intro had free b hc hh hfr hb
    have hall := (cnt_zero hh).1 hc
    have hbit : ∀ i, i < x.N → had.testBit i = true := fun i hi => by rw [hall, Nat.testBit_two_pow_sub_one]; simp [hi]
    have hv : ∀ (l : List Int) n, n ≤ x.N → x.vl had l n = x.e0 := by
      intro l n
      induction n with
      | zero => intro _; rfl
      | succ n ih => intro hn; simp only [Fi.vl, hbit n (by omega), if_true, ih (by omega)]
    have hP : ∀ l ∈ boxL h x.N, (x.Rt had free l ∧ x.Ag had b l) ↔ l = b := by
      intro l hl
      constructor
      · rintro ⟨_, ha⟩
        exact box_ext hl hb fun i hi => ha i hi (hbit i hi)
      · rintro rfl
        exact ⟨⟨fun i hi hf => absurd (hbit i hi) (by rw [hf]; decide), fun i j hi _ _ hf _ => absurd (hbit i hi) (by rw [hf]; decide)⟩, fun i hi _ => rfl⟩
    rw [filP_congr hP]
    have one : ∀ (L : List (List Int)), L.Nodup → b ∈ L → filP (fun l => l = b) L = [b] := by
      intro L
      induction L with
      | nil => intro _ h0; cases h0
      | cons a L ih =>
        intro hn hm
        rw [List.nodup_cons] at hn
        unfold filP
        by_cases e : a = b
        · subst e
          rw [List.filter_cons, if_pos (cdec_iff.2 rfl)]
          congr 1
          rw [List.filter_eq_nil_iff]
          intro c hc
          rw [cdec_iff]
          rintro rfl
          exact hn.1 hc
        · rw [List.filter_cons, if_neg (fun h => e (cdec_iff.1 h))]
          refine ih hn.2 ?_
          rcases List.mem_cons.1 hm with rfl | hm
          · exact absurd rfl e
          · exact hm
    rw [one _ (nodup_box h x.N) hb]
    simp only [List.map_cons, List.map_nil, foldJ, comb, Fi.fd, hv b x.N (Nat.le_refl _)]
  | succ n ih =>
    intro had free b hc hh hfr hb
    obtain ⟨hbl, _⟩ := mem_box.1 hb
    have step1 : x.fd (n + 1) had free = x.shpF (x.fd n) had free (List.range x.N) := rfl
    rw [step1, shp_nx]
    -- the plans by which this ship is next, at this tide
    let Q : Nat × Nat → List Int → Prop := fun c l => free ≤ (c.2 : Int) ∧ x.Rt (had ||| 2 ^ c.1) (c.2 + x.td c.1) l ∧ x.Ag (had ||| 2 ^ c.1) (b.set c.1 c.2) l
    have hcon : ∀ c ∈ x.nx had, x.con (x.fd n) had free c.1 c.2 = foldJ x.join ((filP (Q c) (boxL h x.N)).map fun l => x.vl had l x.N) := by
      rintro ⟨i, t⟩ hmem
      obtain ⟨hi, hbi, ht⟩ := mem_nx.1 hmem
      simp only at hi hbi ht
      have ht2 := (mem_bits (Nat.lt_of_lt_of_le (hm i) (Nat.pow_le_pow_right (by decide) h64))).1 ht
      have hth : t < h := by
        have := Nat.ge_two_pow_of_testBit ht2
        have := hm i
        apply Nat.lt_of_not_le
        intro hle
        have : 2 ^ h ≤ 2 ^ t := Nat.pow_le_pow_right (by decide) hle
        omega
      have htd1 := htd i hi
      have hcn := cnt_or hi hbi
      unfold Fi.con
      by_cases hlt : (t : Int) < free
      · rw [if_pos hlt]
        have : filP (Q (i, t)) (boxL h x.N) = [] := by
          rw [List.eq_nil_iff_forall_not_mem]
          intro l hl
          have := (mem_filP.1 hl).2.1
          simp only at this
          omega
        rw [this]; rfl
      · rw [if_neg hlt, ih (had ||| 2 ^ i) (t + x.td i) (b.set i t) (by omega) (or_full hi hh) (by omega) (box_set hb hth), ← foldJ_map (w.hs _), List.map_map]
        have eQ : filP (Q (i, t)) (boxL h x.N) = filP (fun l => x.Rt (had ||| 2 ^ i) (t + x.td i) l ∧ x.Ag (had ||| 2 ^ i) (b.set i t) l) (boxL h x.N) :=
          filP_congr fun l _ => ⟨fun hq => hq.2, fun hq => ⟨by simp only; omega, hq⟩⟩
        rw [eQ]
        congr 1
        refine List.map_congr_left fun l hl => ?_
        have hag := (mem_filP.1 hl).2.2 i hi (by rw [or_test]; simp)
        rw [getD_set (by omega), if_pos rfl] at hag
        simp only [Function.comp]
        rw [vl_or w hbi l x.N hi, hag]
    have hfold : ∀ (C : List (Nat × Nat)) z, (∀ c ∈ C, c ∈ x.nx had) → C.foldl (fun z c => comb x.join z (x.con (x.fd n) had free c.1 c.2)) z = C.foldl (fun z c => comb x.join z (foldJ x.join ((filP (Q c) (boxL h x.N)).map fun l => x.vl had l x.N))) z := by
      intro C
      induction C with
      | nil => intro z _; rfl
      | cons c C ihC =>
        intro z hC
        rw [List.foldl_cons, List.foldl_cons, hcon c (hC c (by simp)), ihC _ (fun d hd => hC d (by simp [hd]))]
    rw [hfold _ _ (fun c hc => hc), foldJ_flat w.hj, none_comb]
    have em : ((x.nx had).flatMap fun c => (filP (Q c) (boxL h x.N)).map fun l => x.vl had l x.N) = ((x.nx had).flatMap fun c => filP (Q c) (boxL h x.N)).map fun l => x.vl had l x.N := by
      rw [List.map_flatMap]
    rw [em]
    refine foldJ_perm w.hj w.hc (List.Perm.map _ ?_)
    refine (part_perm Q (boxL h x.N) (x.nx had) ?_).trans ?_
    · refine (nodup_nx x had).imp_of_mem ?_
      rintro ⟨i, t⟩ ⟨j, r⟩ h1 h2 hne l hl ⟨q1, q2⟩
      obtain ⟨hi, hbi, hti⟩ := mem_nx.1 h1
      obtain ⟨hj, hbj, htj⟩ := mem_nx.1 h2
      simp only at hi hbi hti hj hbj htj
      obtain ⟨_, r1, a1⟩ := q1
      obtain ⟨_, r2, a2⟩ := q2
      simp only at r1 a1 r2 a2
      have e1 := a1 i hi (by rw [or_test]; simp)
      have e2 := a2 j hj (by rw [or_test]; simp)
      rw [getD_set (by omega), if_pos rfl] at e1 e2
      have htd1 := htd i hi
      have htd2 := htd j hj
      by_cases hij : j = i
      · subst hij
        apply hne
        rw [e1] at e2
        have : t = r := by omega
        rw [this]
      · have o1 := (r1.on j hj (bit_or.2 ⟨hbj, hij⟩)).1
        have o2 := (r2.on i hi (bit_or.2 ⟨hbi, fun e => hij e.symm⟩)).1
        omega
    · refine List.Perm.of_eq (filP_congr fun l hl => ?_)
      obtain ⟨hll, hlq⟩ := mem_box.1 hl
      constructor
      · rintro ⟨⟨i, t⟩, hmem, hfree, hr, ha⟩
        obtain ⟨hi, hbi, hti⟩ := mem_nx.1 hmem
        simp only at hi hbi hti hfree hr ha
        have e1 := ha i hi (by rw [or_test]; simp)
        rw [getD_set (by omega), if_pos rfl] at e1
        have htd1 := htd i hi
        refine ⟨⟨fun k hk hbk => ?_, fun k m hk hm' hne hbk hbm => ?_⟩, fun k hk hbk => ?_⟩
        · by_cases e : k = i
          · subst e
            rw [e1]
            exact ⟨hfree, by rw [Int.toNat_natCast]; exact (mem_bits (Nat.lt_of_lt_of_le (hm k) (Nat.pow_le_pow_right (by decide) h64))).1 hti⟩
          · have := hr.on k hk (bit_or.2 ⟨hbk, e⟩)
            exact ⟨by omega, this.2⟩
        · by_cases e : k = i
          · subst e
            have := (hr.on m hm' (bit_or.2 ⟨hbm, fun e => hne e.symm⟩)).1
            omega
          · by_cases e2 : m = i
            · subst e2
              have := (hr.on k hk (bit_or.2 ⟨hbk, e⟩)).1
              omega
            · exact hr.two k m hk hm' hne (bit_or.2 ⟨hbk, e⟩) (bit_or.2 ⟨hbm, e2⟩)
        · have h1 := ha k hk (by rw [or_test, hbk]; rfl)
          rw [getD_set (by omega)] at h1
          have : ¬ k = i := by rintro rfl; rw [hbi] at hbk; cases hbk
          rw [if_neg this] at h1
          exact h1
      · rintro ⟨hr, ha⟩
        have hne : ((List.range x.N).filter fun i => !had.testBit i) ≠ [] := by
          intro e
          unfold cnt at hc
          rw [e] at hc
          simp at hc
        obtain ⟨i, hi, hmin⟩ := exists_min (fun i => l.getD i 0) _ hne
        simp only [List.mem_filter, List.mem_range, Bool.not_eq_true'] at hi hmin
        obtain ⟨hi, hbi⟩ := hi
        obtain ⟨q, hq, eq⟩ := hlq i hi
        have hon := hr.on i hi hbi
        rw [eq, Int.toNat_natCast] at hon
        have htd1 := htd i hi
        refine ⟨(i, q), mem_nx.2 ⟨hi, hbi, (mem_bits (Nat.lt_of_lt_of_le (hm i) (Nat.pow_le_pow_right (by decide) h64))).2 hon.2⟩, hon.1, ⟨fun k hk hbk => ?_, fun k m hk hm' hne hbk hbm => ?_⟩, fun k hk hbk => ?_⟩
        · simp only at hbk ⊢
          obtain ⟨hbk1, hki⟩ := bit_or.1 hbk
          have h1 := hmin k ⟨hk, hbk1⟩
          have h2 := hr.two k i hk hi hki hbk1 hbi
          have h3 := hr.on k hk hbk1
          have htdk := htd k hk
          rw [eq] at h1 h2
          exact ⟨by omega, h3.2⟩
        · simp only at hbk hbm
          exact hr.two k m hk hm' hne (bit_or.1 hbk).1 (bit_or.1 hbm).1
        · simp only at hbk ⊢
          rw [getD_set (by omega)]
          by_cases e : k = i
          · subst e; rw [if_pos rfl, eq]
          · rw [if_neg e]
            refine ha k hk ?_
            rw [or_test, decide_eq_false e, Bool.or_false] at hbk
            exact hbk
end Go.Proofs.YtnmgegodkmgdeaaDoor
end
section
set_option linter.unusedVariables false
set_option linter.unusedSimpArgs false
namespace Go.Proofs.YtnmgegodkmgdeaaDoor
open Go.V
/-- A right plan. -/
def rtB (s : Sl) (u : Bool) (l : List Int) : Bool := (List.range s.sh.length).all fun j => decide (brT s u j (l.getD j 0) l = 0)
theorem rtB_iff {s : Sl} {u : Bool} {l : List Int} : rtB s u l = true ↔ ∀ j, j < s.sh.length → brT s u j (l.getD j 0) l = 0 := by simp [rtB]
theorem brT_high {s : Sl} {u : Bool} {j : Nat} {t : Nat} {b : List Int} (h : s.hs.length ≤ t) : ¬ brT s u j t b = 0 := by
  have e : enB s u j (t : Int) = false := by
    unfold enB
    have : decide ((t : Int) ≤ (s.hs.length : Int) - 1) = false := decide_eq_false (by omega)
    rw [this, Bool.and_false, Bool.false_and]
  unfold brT
  have ha : ¬ alR s u j (t : Int) = 0 := by
    unfold alR
    rw [e]
    simp only [Bool.not_false, Bool.true_or, if_true]
    split <;> omega
  rw [if_neg ha]
  exact ha
theorem flatMap_range_ext {α : Type} (f : Nat → List α) {h H : Nat} (hle : h ≤ H) (hz : ∀ t, h ≤ t → f t = []) : (List.range h).flatMap f = (List.range H).flatMap f := by
  obtain ⟨d, rfl⟩ : ∃ d, H = h + d := ⟨H - h, by omega⟩
  clear hle
  induction d with
  | zero => rfl
  | succ d ih =>
    rw [ih, ← Nat.add_assoc, List.range_succ, List.flatMap_append]
    simp [hz (h + d) (by omega)]
theorem pls_box {s : Sl} {u : Bool} {H : Nat} (hH : s.hs.length ≤ H) : ∀ (n : Nat) (b : List Int),
    pls s u n b = ((boxL H n).map (b ++ ·)).filter fun l => (List.range n).all fun j => decide (brT s u (b.length + j) (l.getD (b.length + j) 0) l = 0) := by
  intro n
  induction n with
  | zero => intro b; simp [pls, boxL]
  | succ n ih =>
    intro b
    rw [pls, flatMap_range_ext _ hH (fun t ht => if_neg (brT_high ht))]
    rw [boxL, List.map_flatMap, List.filter_flatMap]
    rw [List.flatMap_def, List.flatMap_def]
    congr 1
    refine List.map_congr_left fun t _ => ?_
    rw [List.map_map]
    have hget : ∀ (r : List Int), (b ++ (t : Int) :: r).getD b.length 0 = t := fun r => by simp [List.getD_eq_getElem?_getD]
    have hbr : ∀ (r : List Int), brT s u b.length t (b ++ (t : Int) :: r) = brT s u b.length t b := fun r =>
      brT_congr s u _ _ _ _ fun i hi => by simp [List.getD_eq_getElem?_getD, List.getElem?_append_left hi]
    split
    · rename_i hb
      rw [ih]
      have e : (boxL H n).map ((b ++ [(t : Int)]) ++ ·) = (boxL H n).map ((b ++ ·) ∘ fun l => (t : Int) :: l) := by
        refine List.map_congr_left fun r _ => ?_
        simp
      rw [e]
      refine List.filter_congr fun l hl => ?_
      obtain ⟨r, hr, rfl⟩ := List.mem_map.1 hl
      simp only [Function.comp, List.length_append, List.length_cons, List.length_nil]
      rw [Bool.eq_iff_iff, List.all_eq_true, List.all_eq_true]
      simp only [List.mem_range, decide_eq_true_eq]
      constructor
      · intro h j hj
        cases j with
        | zero => rw [Nat.add_zero, hget, hbr]; exact hb
        | succ j =>
          have := h j (by omega)
          rw [show b.length + (0 + 1) + j = b.length + (j + 1) by omega] at this
          exact this
      · intro h j hj
        have := h (j + 1) (by omega)
        rw [show b.length + (0 + 1) + j = b.length + (j + 1) by omega]
        exact this
    · rename_i hb
      symm
      rw [List.filter_eq_nil_iff]
      intro l hl
      obtain ⟨r, hr, rfl⟩ := List.mem_map.1 hl
      simp only [Function.comp, List.all_eq_true, List.mem_range, decide_eq_true_eq]
      intro h
      have := h 0 (by omega)
      rw [Nat.add_zero, hget, hbr] at this
      exact hb this
theorem rpl_box {s : Sl} (k : Ok s) (u : Bool) : rpl s u = (boxL 16 s.sh.length).filter (rtB s u) := by
  unfold rpl
  rw [pls_box k.nH]
  have e : (boxL 16 s.sh.length).map (([] : List Int) ++ ·) = boxL 16 s.sh.length := by simp
  rw [e]
  refine List.filter_congr fun l _ => ?_
  simp [rtB]
theorem mem_rpl {s : Sl} (k : Ok s) {u : Bool} {l : List Int} : l ∈ rpl s u ↔ l ∈ boxL 16 s.sh.length ∧ rtB s u l = true := by
  rw [rpl_box k, List.mem_filter]

theorem tdN_bit (s : Sl) (u : Bool) (i : Nat) : ∀ (n j : Nat), (tdN s u i n).testBit j = (decide (j < n) && decide (alR s u i j = 0)) := by
  intro n
  induction n with
  | zero => intro j; simp [tdN]
  | succ n ih =>
    intro j
    have hlt := tdN_lt s u i n
    simp only [tdN]
    by_cases ha : alR s u i n = 0
    · rw [if_pos ha, ← or_bit _ _ hlt, or_test, ih]
      by_cases hj : j = n
      · subst hj; simp [ha]
      · have : decide (j < n + 1) = decide (j < n) := by rw [decide_eq_decide]; omega
        rw [this, decide_eq_false hj, Bool.or_false]
    · rw [if_neg ha, Nat.add_zero, ih]
      by_cases hj : j = n
      · subst hj; simp [ha]
      · have : decide (j < n + 1) = decide (j < n) := by rw [decide_eq_decide]; omega
        rw [this]
theorem tdA_bit {s : Sl} {u : Bool} {i j : Nat} (hi : i < s.sh.length) : (tdA s u i).testBit j = true ↔ j < s.hs.length ∧ alR s u i j = 0 := by
  rw [tdA, if_pos hi, tdN_bit, Bool.and_eq_true, decide_eq_true_eq, decide_eq_true_eq]
theorem alR_high {s : Sl} {u : Bool} {i t : Nat} (h : alR s u i t = 0) : t < s.hs.length := by
  apply Nat.lt_of_not_le
  intro hle
  apply brT_high (s := s) (u := u) (j := i) (b := []) hle
  unfold brT
  have e : enB s u i (t : Int) = false := by
    unfold enB
    have : decide ((t : Int) ≤ (s.hs.length : Int) - 1) = false := decide_eq_false (by omega)
    rw [this, Bool.and_false, Bool.false_and]
  unfold alR at h
  rw [e] at h
  simp only [Bool.not_false, Bool.true_or, if_true] at h
  split at h <;> omega
/-- Those who are left come on when they can, and never two at once. -/
structure PR (s : Sl) (u : Bool) (S : Nat) (l : List Int) : Prop where
  on : ∀ i, i < s.sh.length → S.testBit i = false → alR s u i (l.getD i 0) = 0
  two : ∀ i j, i < s.sh.length → j < i → S.testBit i = false → S.testBit j = false → ovB s i (l.getD i 0) j (l.getD j 0) = false
theorem ovB_no {s : Sl} {a b : Nat} {x y : Int} : ovB s a x b y = false ↔ x + (s.sh.getD a sh0).td ≤ y ∨ y + (s.sh.getD b sh0).td ≤ x := by
  unfold ovB
  rw [Bool.and_eq_false_iff, decide_eq_false_iff_not, decide_eq_false_iff_not]
  omega
theorem rtB_PR {s : Sl} {u : Bool} {l : List Int} : rtB s u l = true ↔ PR s u 0 l := by
  rw [rtB_iff]
  constructor
  · intro h
    have hal : ∀ i, i < s.sh.length → alR s u i (l.getD i 0) = 0 := fun i hi => by
      have := h i hi
      unfold brT at this
      split at this
      · assumption
      · rename_i hne; exact absurd this hne
    refine ⟨fun i hi _ => hal i hi, fun i j hi hj _ _ => ?_⟩
    have := h i hi
    unfold brT at this
    rw [if_pos (hal i hi)] at this
    cases hov : ovB s i (l.getD i 0) j (l.getD j 0) with
    | false => rfl
    | true =>
      rw [if_pos (any_range.2 ⟨j, hj, hov⟩)] at this
      omega
  · intro h i hi
    unfold brT
    rw [if_pos (h.on i hi (Nat.zero_testBit i))]
    rw [if_neg]
    intro ha
    obtain ⟨j, hj, ho⟩ := any_range.1 ha
    rw [h.two i j hi hj (Nat.zero_testBit _) (Nat.zero_testBit _)] at ho
    cases ho
theorem rt_PR {s : Sl} {u : Bool} {S : Nat} {l : List Int} {e0 : Int} {step join : Int → Int → Int} (hl : l ∈ boxL 16 s.sh.length) :
    (fiS s (tdA s u) e0 step join).Rt S 0 l ↔ PR s u S l := by
  obtain ⟨hlen, hq⟩ := mem_box.1 hl
  constructor
  · intro h
    refine ⟨fun i hi hb => ?_, fun i j hi hj hb hb' => ?_⟩
    · obtain ⟨q, hq, e⟩ := hq i hi
      have := (h.on i hi hb).2
      rw [e, Int.toNat_natCast] at this
      rw [e]
      exact ((tdA_bit hi).1 this).2
    · rw [ovB_no]
      exact h.two i j hi (by show j < s.sh.length; omega) (by omega) hb hb'
  · intro h
    refine ⟨fun i hi hb => ?_, fun i j hi hj hne hb hb' => ?_⟩
    · obtain ⟨q, hq, e⟩ := hq i hi
      have := h.on i hi hb
      rw [e] at this
      rw [e, Int.toNat_natCast]
      exact ⟨by omega, (tdA_bit hi).2 ⟨alR_high this, this⟩⟩
    · show l.getD i 0 + (s.sh.getD i sh0).td ≤ l.getD j 0 ∨ l.getD j 0 + (s.sh.getD j sh0).td ≤ l.getD i 0
      rcases Nat.lt_or_gt_of_ne hne with h1 | h1
      · have := ovB_no.1 (h.two j i hj h1 hb' hb); omega
      · exact ovB_no.1 (h.two i j hi h1 hb hb')
theorem fnd_eq {s : Sl} (k : Ok s) (u : Bool) {e0 : Int} {step join : Int → Int → Int} (w : (fiS s (tdA s u) e0 step join).Lw) :
    (fiS s (tdA s u) e0 step join).fnd 0 0 = foldJ join ((rpl s u).map fun l => (fiS s (tdA s u) e0 step join).vl 0 l s.sh.length) := by
  have hb0 : List.replicate s.sh.length (0 : Int) ∈ boxL 16 s.sh.length := mem_box.2 ⟨by simp, fun j hj => ⟨0, by omega, by rw [List.getD_eq_getElem?_getD, List.getElem?_replicate]; split <;> rfl⟩⟩
  unfold Fi.fnd
  rw [fd_eq w (h := 16) (by omega) (tdA_b k u) (fun i hi => (k.s i hi).2.2.1) _ 0 0 (List.replicate s.sh.length 0) rfl (Nat.pow_pos (by decide)) (Int.le_refl 0) hb0]
  have e : filP (fun l => (fiS s (tdA s u) e0 step join).Rt 0 0 l ∧ (fiS s (tdA s u) e0 step join).Ag 0 (List.replicate s.sh.length 0) l) (boxL 16 s.sh.length) = rpl s u := by
    rw [rpl_box k]
    symm
    refine filP_of fun l hl => ?_
    rw [rt_PR hl, rtB_PR]
    exact ⟨fun h => ⟨h, fun i _ hb => by rw [Nat.zero_testBit] at hb; cases hb⟩, fun h => h.1⟩
  show foldJ join ((filP _ (boxL 16 s.sh.length)).map _) = _
  rw [e]
  rfl
end Go.Proofs.YtnmgegodkmgdeaaDoor
end
section
set_option linter.unusedVariables false
set_option linter.unusedSimpArgs false
namespace Go.Proofs.YtnmgegodkmgdeaaDoor
open Go.V
theorem cnt_Lw (s : Sl) (m : Nat → Nat) : (cntF s m).Lw := ⟨fun a b c => Int.add_assoc a b c, fun a b => Int.add_comm a b, fun w a b => rfl, fun v w r => rfl⟩
theorem cnt_vl (s : Sl) (m : Nat → Nat) (S : Nat) (l : List Int) : ∀ n, (cntF s m).vl S l n = 1 := by
  intro n
  induction n with
  | zero => rfl
  | succ n ih => simp only [Fi.vl]; split <;> exact ih
theorem foldJ_ones {α : Type} (L : List α) : (foldJ (fun a b : Int => a + b) (L.map fun _ => (1 : Int))).getD 0 = L.length := by
  have h : ∀ L : List α, L ≠ [] → foldJ (fun a b : Int => a + b) (L.map fun _ => (1 : Int)) = some (L.length : Int) := by
    intro L
    induction L with
    | nil => intro h; exact absurd rfl h
    | cons a L ih =>
      intro _
      simp only [List.map_cons, foldJ]
      cases L with
      | nil => rfl
      | cons b L =>
        rw [ih (by simp)]
        simp only [comb, List.length_cons]
        congr 1
        omega
  cases L with
  | nil => rfl
  | cons a L => rw [h _ (by simp)]; rfl
theorem wcnt_eq (s : Sl) (u : Bool) : wcntV s u = (cntV s u : Nat) := by
  unfold wcntV cntV
  by_cases e : cntE s = 0
  · rw [if_pos e, if_pos e]
    have k : Ok s := by
      unfold cntE at e
      split at e
      · assumption
      · omega
    rw [fnd_eq k u (cnt_Lw s _)]
    have : ((rpl s u).map fun l => (cntF s (tdA s u)).vl 0 l s.sh.length) = (rpl s u).map fun _ => (1 : Int) := List.map_congr_left fun l _ => cnt_vl s _ 0 l _
    rw [this]
    exact foldJ_ones _
  · rw [if_neg e, if_neg e]; rfl

theorem lng_Lw (s : Sl) (m : Nat → Nat) : (lngF s m).Lw := ⟨fun a b c => by show min (min a b) c = min a (min b c); omega, fun a b => by show min a b = min b a; omega, fun w a b => by show max w (min a b) = min (max w a) (max w b); omega, fun v w r => by show max v (max w r) = max w (max v r); omega⟩
theorem sum_Lw (s : Sl) (m : Nat → Nat) : (sumF s m).Lw := ⟨fun a b c => by show min (min a b) c = min a (min b c); omega, fun a b => by show min a b = min b a; omega, fun w a b => by show w + min a b = min (w + a) (w + b); omega, fun v w r => by show v + (w + r) = w + (v + r); omega⟩
theorem lng_vl (s : Sl) (m : Nat → Nat) (l : List Int) : ∀ n, (lngF s m).vl 0 l n = wmN s l n := by
  intro n
  induction n with
  | zero => rfl
  | succ n ih =>
    simp only [Fi.vl, Nat.zero_testBit, Bool.false_eq_true, if_false, wmN, ih]
    exact Int.max_comm _ _
theorem sum_vl (s : Sl) (m : Nat → Nat) (l : List Int) : ∀ n, (sumF s m).vl 0 l n = wsN s l n := by
  intro n
  induction n with
  | zero => rfl
  | succ n ih =>
    simp only [Fi.vl, Nat.zero_testBit, Bool.false_eq_true, if_false, wsN, ih]
    exact Int.add_comm _ _
/-- What is counted of a plan, in two ways. -/
structure GLw (s : Sl) (step : Int → Int → Int) (f : List Int → Int) : Prop where
  lw : ∀ m, (fiS s m 0 step min).Lw
  vl : ∀ m l, l.length = s.sh.length → (fiS s m 0 step min).vl 0 l s.sh.length = f l
theorem glw_max (s : Sl) : GLw s max (wm s) := ⟨lng_Lw s, fun m l hl => by rw [lng_vl]; unfold wm; rw [hl]⟩
theorem glw_sum (s : Sl) : GLw s (fun w r => w + r) (ws s) := ⟨sum_Lw s, fun m l hl => by rw [sum_vl]; unfold ws; rw [hl]⟩
theorem box0 (n : Nat) : List.replicate n (0 : Int) ∈ boxL 16 n := mem_box.2 ⟨by simp, fun j hj => ⟨0, by omega, by rw [List.getD_eq_getElem?_getD, List.getElem?_replicate]; split <;> rfl⟩⟩
/-- The least that is counted of plans in which each ship comes on at one of these tides. -/
theorem fnV_min {s : Sl} (k : Ok s) {step : Int → Int → Int} {f : List Int → Int} (g : GLw s step f) {m : Nat → Nat} (hm : ∀ i, m i < 2 ^ 16) :
    MinS (fnV s step m) fun x => ∃ l, l ∈ boxL 16 s.sh.length ∧ (fiS s m 0 step min).Rt 0 0 l ∧ f l = x := by
  unfold fnV Fi.fnd
  rw [fd_eq (g.lw m) (h := 16) (by omega) hm (fun i hi => (k.s i hi).2.2.1) _ 0 0 (List.replicate s.sh.length 0) rfl (Nat.pow_pos (by decide)) (Int.le_refl 0) (box0 _)]
  refine (minS_fold _).congr fun x => ?_
  rw [List.mem_map]
  constructor
  · rintro ⟨l, hl, rfl⟩
    obtain ⟨h1, h2, _⟩ := mem_filP.1 hl
    exact ⟨l, h1, h2, (g.vl m l (mem_box.1 h1).1).symm⟩
  · rintro ⟨l, h1, h2, rfl⟩
    exact ⟨l, mem_filP.2 ⟨h1, h2, fun i _ hb => by rw [Nat.zero_testBit] at hb; cases hb⟩, g.vl m l (mem_box.1 h1).1⟩
theorem fnV_rpl {s : Sl} (k : Ok s) {u : Bool} {step : Int → Int → Int} {f : List Int → Int} (g : GLw s step f) : MinS (fnV s step (tdA s u)) fun x => ∃ l, l ∈ rpl s u ∧ f l = x := by
  refine (fnV_min k g (tdA_b k u)).congr fun x => ?_
  constructor
  · rintro ⟨l, h1, h2, h3⟩
    exact ⟨l, (mem_rpl k).2 ⟨h1, rtB_PR.2 ((rt_PR h1).1 h2)⟩, h3⟩
  · rintro ⟨l, h1, h3⟩
    obtain ⟨h1, h2⟩ := (mem_rpl k).1 h1
    exact ⟨l, h1, (rt_PR h1).2 (rtB_PR.1 h2), h3⟩
theorem mnP_eq (f : List Int → Int) (L : List (List Int)) : ∀ i, mnP f L i = mnG f L [] i := by
  intro i
  induction i with
  | zero => rfl
  | succ i ih => simp only [mnP, mnG, ih]
/-- A list comes before another one. -/
def LexLt (n : Nat) (a b : List Int) : Prop := ∃ i, i < n ∧ (∀ j, j < i → a.getD j 0 = b.getD j 0) ∧ a.getD i 0 < b.getD i 0
theorem lex_box (h : Nat) : ∀ n, (boxL h n).Pairwise (LexLt n) := by
  intro n
  induction n with
  | zero => simp [boxL]
  | succ n ih =>
    unfold boxL
    rw [List.flatMap_def, List.pairwise_flatten]
    constructor
    · intro l hl
      obtain ⟨t, _, rfl⟩ := List.mem_map.1 hl
      rw [List.pairwise_map]
      refine ih.imp ?_
      rintro a b ⟨i, hi, h1, h2⟩
      refine ⟨i + 1, by omega, fun j hj => ?_, by simpa using h2⟩
      cases j with
      | zero => rfl
      | succ j => simpa using h1 j (by omega)
    · rw [List.pairwise_map]
      refine List.pairwise_lt_range.imp fun {a b} hab => ?_
      intro x hx y hy
      obtain ⟨r, _, rfl⟩ := List.mem_map.1 hx
      obtain ⟨r', _, rfl⟩ := List.mem_map.1 hy
      refine ⟨0, by omega, fun j hj => by omega, ?_⟩
      simp only [List.getD_cons_zero]
      omega
theorem lex_irr {n : Nat} {a b : List Int} (h : LexLt n a b) (h' : LexLt n b a) : False := by
  obtain ⟨i, hi, h1, h2⟩ := h
  obtain ⟨j, hj, h3, h4⟩ := h'
  rcases Nat.lt_trichotomy i j with h | h | h
  · have := h3 i h; omega
  · subst h; omega
  · have := h1 j h; omega
/-- The first of the best ones. -/
structure FstBest (s : Sl) (u : Bool) (f : List Int → Int) (B : List Int) : Prop where
  mem : B ∈ rpl s u
  le : ∀ l, l ∈ rpl s u → f B ≤ f l
  fst : ∀ l, l ∈ rpl s u → f l = f B → l = B ∨ LexLt s.sh.length B l
theorem mnP_best {s : Sl} (k : Ok s) {u : Bool} (f : List Int → Int) (h : 0 < (rpl s u).length) : FstBest s u f (mnP f (rpl s u) (rpl s u).length) := by
  obtain ⟨p, hp, e, h1, h2⟩ := mnG_spec f (rpl s u) [] h _ (Nat.le_refl _)
  rw [mnP_eq, e]
  refine ⟨mem_getD _ p _ hp, fun l hl => ?_, fun l hl he => ?_⟩
  · obtain ⟨q, hq, rfl⟩ := getD_mem [] hl
    exact h1 q hq
  · obtain ⟨q, hq, rfl⟩ := getD_mem [] hl
    rcases Nat.lt_trichotomy q p with h3 | h3 | h3
    · have := h2 q h3; omega
    · subst h3; exact .inl rfl
    · right
      have hs : (rpl s u).Pairwise (LexLt s.sh.length) := by
        rw [rpl_box k]; exact (lex_box 16 _).filter _
      have := List.pairwise_iff_getElem.1 hs p q hp hq h3
      rw [List.getD_eq_getElem?_getD, List.getD_eq_getElem?_getD, List.getElem?_eq_getElem hp, List.getElem?_eq_getElem hq]
      exact this
theorem wE_eq {s : Sl} {u : Bool} {step : Int → Int → Int} {f : List Int → Int} (g : GLw s step f) : wE s u step = rgtE s u := by
  unfold wE rgtE
  by_cases k : Ok s
  · rw [if_pos k, if_pos k]
    have := (fnV_rpl (u := u) k g).some_iff
    by_cases h : (rpl s u).length = 0
    · rw [if_pos h, if_neg]
      intro h2
      obtain ⟨x, l, hl, _⟩ := this.1 h2
      rw [List.length_eq_zero_iff.1 h] at hl
      cases hl
    · rw [if_neg h, if_pos]
      obtain ⟨l, hl⟩ := List.exists_mem_of_length_pos (Nat.pos_of_ne_zero h)
      exact this.2 ⟨_, l, hl, rfl⟩
  · rw [if_neg k, if_neg k]
theorem fnV_best {s : Sl} (k : Ok s) {u : Bool} {step : Int → Int → Int} {f : List Int → Int} (g : GLw s step f) {B : List Int} (hB : FstBest s u f B) : fnV s step (tdA s u) = some (f B) :=
  (fnV_rpl k g).uniq ⟨fun x ⟨l, hl, e⟩ => ⟨f B, rfl, by have := hB.le l hl; omega⟩, fun m hm => by cases hm; exact ⟨B, hB.mem, rfl⟩⟩
theorem wV_eq {s : Sl} {u : Bool} {step : Int → Int → Int} {f : List Int → Int} (g : GLw s step f) : wV s u step = bestV f s u := by
  unfold wV bestV
  rw [wE_eq g]
  by_cases h : rgtE s u = 0
  · obtain ⟨k, h0⟩ := rgtE_zero h
    rw [if_pos h, if_pos h, fnV_best k g (mnP_best k f h0), bestP, if_pos h]
    rfl
  · rw [if_neg h, if_neg h]
end Go.Proofs.YtnmgegodkmgdeaaDoor
end
section
set_option linter.unusedVariables false
set_option linter.unusedSimpArgs false
namespace Go.Proofs.YtnmgegodkmgdeaaDoor
open Go.V
theorem bit_pow {a b : Nat} : (2 ^ a).testBit b = true ↔ b = a := by
  rw [Nat.testBit_two_pow, decide_eq_true_eq]
  exact ⟨Eq.symm, Eq.symm⟩
theorem box_nat {h n : Nat} {l : List Int} (hl : l ∈ boxL h n) {i : Nat} (hi : i < n) : ∃ q : Nat, q < h ∧ l.getD i 0 = (q : Int) := (mem_box.1 hl).2 i hi
/-- Tides of which those of the first ships are told. -/
def pmB (s : Sl) (u : Bool) (B : List Int) (i : Nat) : Nat → Nat := fun q => if q < i then 2 ^ (B.getD q 0).toNat else tdA s u q
theorem pmB_lt {s : Sl} (k : Ok s) {u : Bool} {B : List Int} (hB : B ∈ boxL 16 s.sh.length) {i : Nat} (hi : i ≤ s.sh.length) (q : Nat) : pmB s u B i q < 2 ^ 16 := by
  unfold pmB
  split
  · obtain ⟨t, ht, e⟩ := box_nat hB (show q < s.sh.length by omega)
    rw [e, Int.toNat_natCast]
    exact Nat.pow_lt_pow_right (by decide) ht
  · exact tdA_b k u q
theorem pmB_up {s : Sl} {u : Bool} {B : List Int} {i t : Nat} (h : B.getD i 0 = (t : Int)) : upM (pmB s u B i) i (2 ^ t) = pmB s u B (i + 1) := by
  funext q
  unfold upM pmB
  by_cases e : q = i
  · subst e; rw [if_pos rfl, if_pos (by omega), h, Int.toNat_natCast]
  · rw [if_neg e]
    by_cases h1 : q < i
    · rw [if_pos h1, if_pos (by omega)]
    · rw [if_neg h1, if_neg (by omega)]
theorem v_up {s : Sl} (k : Ok s) {u : Bool} {step : Int → Int → Int} {f : List Int → Int} (g : GLw s step f) {B : List Int} (hB : FstBest s u f B) {i t : Nat} (hi : i < s.sh.length) (ht : t ∈ bitsL (tdA s u i)) :
    fnV s step (upM (pmB s u B i) i (2 ^ t)) = some (f B) ↔ ∃ l, l ∈ rpl s u ∧ (∀ q, q < i → l.getD q 0 = B.getD q 0) ∧ l.getD i 0 = (t : Int) ∧ f l = f B := by
  have hbx := ((mem_rpl k).1 hB.mem).1
  have ht16 := bitsL_lt (tdA_b k u i) ht
  have htb := (mem_bits (Nat.lt_of_lt_of_le (tdA_b k u i) (by decide))).1 ht
  have hmb : ∀ q, upM (pmB s u B i) i (2 ^ t) q < 2 ^ 16 := fun q => by
    unfold upM
    split
    · exact Nat.pow_lt_pow_right (by decide) ht16
    · exact pmB_lt k hbx (by omega) q
  have hbits : ∀ l, l ∈ boxL 16 s.sh.length → ∀ q, q < s.sh.length → ((upM (pmB s u B i) i (2 ^ t) q).testBit (l.getD q 0).toNat = true ↔
      if q < i then l.getD q 0 = B.getD q 0 else if q = i then l.getD q 0 = (t : Int) else (tdA s u q).testBit (l.getD q 0).toNat = true) := fun l hl q hq => by
    obtain ⟨a, ha, ea⟩ := box_nat hl hq
    obtain ⟨b, hb, eb⟩ := box_nat hbx hq
    rw [ea, eb, Int.toNat_natCast]
    unfold upM pmB
    by_cases h1 : q < i
    · rw [if_pos h1, if_pos h1, if_neg (by omega), eb, Int.toNat_natCast, bit_pow]
      omega
    · rw [if_neg h1, if_neg h1]
      by_cases h2 : q = i
      · rw [if_pos h2, if_pos h2, bit_pow]; omega
      · rw [if_neg h2, if_neg h2]
  have hBq := (rtB_PR.1 ((mem_rpl k).1 hB.mem).2)
  have hRt : ∀ l, l ∈ boxL 16 s.sh.length → ((fiS s (upM (pmB s u B i) i (2 ^ t)) 0 step min).Rt 0 0 l ↔ l ∈ rpl s u ∧ (∀ q, q < i → l.getD q 0 = B.getD q 0) ∧ l.getD i 0 = (t : Int)) := fun l hl => by
    have hb := hbits l hl
    constructor
    · intro h
      have h1 : ∀ q, q < i → l.getD q 0 = B.getD q 0 := fun q hq => by
        have := (hb q (by omega)).1 (h.on q (by show q < s.sh.length; omega) (Nat.zero_testBit _)).2
        rw [if_pos hq] at this
        exact this
      have h2 : l.getD i 0 = (t : Int) := by
        have := (hb i hi).1 (h.on i hi (Nat.zero_testBit _)).2
        rw [if_neg (by omega), if_pos rfl] at this
        exact this
      refine ⟨(mem_rpl k).2 ⟨hl, rtB_PR.2 ⟨fun q hq _ => ?_, fun a b ha hb' _ _ => ?_⟩⟩, h1, h2⟩
      · obtain ⟨a, ha, ea⟩ := box_nat hl hq
        rcases Nat.lt_trichotomy q i with h3 | h3 | h3
        · rw [h1 q h3]; exact hBq.on q hq (Nat.zero_testBit _)
        · subst h3; rw [h2]; exact ((tdA_bit hi).1 htb).2
        · have := (hb q hq).1 (h.on q hq (Nat.zero_testBit _)).2
          rw [if_neg (by omega), if_neg (by omega), ea, Int.toNat_natCast] at this
          rw [ea]; exact ((tdA_bit hq).1 this).2
      · rw [ovB_no]
        exact h.two a b ha (by show b < s.sh.length; omega) (by omega) (Nat.zero_testBit _) (Nat.zero_testBit _)
    · rintro ⟨hm, h1, h2⟩
      have hP := (rt_PR (e0 := 0) (step := step) (join := min) hl).2 (rtB_PR.1 ((mem_rpl k).1 hm).2)
      refine ⟨fun q hq hz => ⟨(hP.on q hq hz).1, (hb q hq).2 ?_⟩, fun a b ha hb' hne h3 h4 => hP.two a b ha hb' hne h3 h4⟩
      split
      · exact h1 q (by assumption)
      · split
        · rename_i e; rw [e]; exact h2
        · exact (hP.on q hq hz).2
  have hmin := fnV_min k g hmb
  constructor
  · intro he
    obtain ⟨l, hl, hr, hf⟩ := hmin.is _ he
    obtain ⟨h1, h2, h3⟩ := (hRt l hl).1 hr
    exact ⟨l, h1, h2, h3, hf⟩
  · rintro ⟨l, h1, h2, h3, hf⟩
    have hl := ((mem_rpl k).1 h1).1
    obtain ⟨m, hm, hle⟩ := hmin.le (f B) ⟨l, hl, (hRt l hl).2 ⟨h1, h2, h3⟩, hf⟩
    obtain ⟨l', hl', hr', hf'⟩ := hmin.is _ hm
    have := hB.le l' ((hRt l' hl').1 hr').1
    rw [hm]
    congr 1
    omega
theorem fstP_eq {s : Sl} (k : Ok s) {u : Bool} {step : Int → Int → Int} {f : List Int → Int} (g : GLw s step f) {B : List Int} (hB : FstBest s u f B) :
    ∀ i, i ≤ s.sh.length → fstP (fnV s step) (f B) (tdA s u) i = (pmB s u B i, B.take i) := by
  have hbx := ((mem_rpl k).1 hB.mem).1
  have hlen := (mem_box.1 hbx).1
  have hBq := (rtB_PR.1 ((mem_rpl k).1 hB.mem).2)
  intro i
  induction i with
  | zero => intro _; simp only [fstP, List.take_zero]; congr 1
  | succ i ih =>
    intro hi
    have his : i < s.sh.length := by omega
    obtain ⟨t, ht, et⟩ := box_nat hbx his
    have htm : t ∈ bitsL (tdA s u i) := (mem_bits (Nat.lt_of_lt_of_le (tdA_b k u i) (by decide))).2 ((tdA_bit his).2 (by
      have := hBq.on i his (Nat.zero_testBit _)
      rw [et] at this
      exact ⟨alR_high this, this⟩))
    have hpi : pmB s u B i i = tdA s u i := if_neg (by omega)
    have hfind : fstT (fnV s step) (f B) (pmB s u B i) i (bitsL (pmB s u B i i)) = some t := by
      rw [hpi]
      obtain ⟨j, hj, ej⟩ := getD_mem 0 htm
      refine find_at hj (fun q hq => ?_) ?_ ej
      · rw [decide_eq_false_iff_not]
        intro he
        have hqm := mem_getD (bitsL (tdA s u i)) q 0 (by omega)
        have hlt : (bitsL (tdA s u i)).getD q 0 < t := by
          have := List.pairwise_iff_getElem.1 (bitsL_sorted (tdA s u i)) q j (by omega) hj hq
          rw [← ej, List.getD_eq_getElem?_getD, List.getD_eq_getElem?_getD, List.getElem?_eq_getElem hj, List.getElem?_eq_getElem (by omega : q < (bitsL (tdA s u i)).length)]
          exact this
        obtain ⟨l, h1, h2, h3, h4⟩ := (v_up k g hB his hqm).1 he
        have hlex : LexLt s.sh.length l B := ⟨i, his, h2, by rw [h3, et]; omega⟩
        rcases hB.fst l h1 h4 with e | e
        · subst e; exact lex_irr hlex hlex
        · exact lex_irr hlex e
      · rw [decide_eq_true_eq, ej]
        exact (v_up k g hB his htm).2 ⟨B, hB.mem, fun _ _ => rfl, et, rfl⟩
    simp only [fstP, fstS, ih (by omega), hfind, pmB_up et]
    rw [take_snoc B i 0 (by omega), et]
theorem first_eq {s : Sl} (k : Ok s) {u : Bool} {step : Int → Int → Int} {f : List Int → Int} (g : GLw s step f) {B : List Int} (hB : FstBest s u f B) : firstV s u step (f B) = B := by
  unfold firstV
  rw [fstP_eq k g hB _ (Nat.le_refl _)]
  have hlen := (mem_box.1 ((mem_rpl k).1 hB.mem).1).1
  show B.take _ = B
  rw [← hlen, List.take_length]
theorem wP_eq {s : Sl} {u : Bool} {step : Int → Int → Int} {f : List Int → Int} (g : GLw s step f) : wP s u step = bestA f s u := by
  unfold wP bestA
  rw [wE_eq g]
  by_cases h : rgtE s u = 0
  · obtain ⟨k, h0⟩ := rgtE_zero h
    have hb := mnP_best k (u := u) f h0
    rw [if_pos h, if_pos h, wV_eq g, bestV, if_pos h, bestP, if_pos h, first_eq k g hb]
  · rw [if_neg h, if_neg h]
end Go.Proofs.YtnmgegodkmgdeaaDoor
end
section
set_option linter.unusedVariables false
set_option linter.unusedSimpArgs false
namespace Go.Proofs.YtnmgegodkmgdeaaDoor
open Go.V
/-- The least of numbers that are not negative; -1: there is none. -/
structure MinB (b : Int) (S : Int → Prop) : Prop where
  le : ∀ x, S x → 0 ≤ b ∧ b ≤ x
  is : b = -1 ∨ S b
theorem MinB.uniq {b b' : Int} {S : Int → Prop} (h : MinB b S) (h' : MinB b' S) : b = b' := by
  rcases h.is with e | e
  · rcases h'.is with e' | e'
    · omega
    · have := h.le b' e'; omega
  · rcases h'.is with e' | e'
    · have := h'.le b e; omega
    · have h1 := h'.le b e; have h2 := h.le b' e'; omega
theorem MinB.congr {b : Int} {S S' : Int → Prop} (h : MinB b S) (e : ∀ x, S x ↔ S' x) : MinB b S' :=
  ⟨fun x hx => h.le x ((e x).2 hx), h.is.imp id (e b).1⟩
theorem MinB.neg {b : Int} {S : Int → Prop} (h : MinB b S) : b < 0 ↔ ∀ x, ¬ S x := by
  constructor
  · intro hb x hx
    have := h.le x hx; omega
  · intro hn
    rcases h.is with e | e
    · omega
    · exact absurd e (hn b)
theorem minB_step {b : Int} {S S' : Int → Prop} {o : Option Int} (h : MinB b S) (hS : ∀ x, S x → 0 ≤ x) (ho : MinS o S') (h0 : ∀ x, S' x → 0 ≤ x) : MinB (favS b o) fun x => S x ∨ S' x := by
  cases o with
  | none =>
    exact h.congr fun x => ⟨.inl, fun hx => hx.elim id fun hx => by obtain ⟨m, hm, _⟩ := ho.le x hx; cases hm⟩
  | some m =>
    have hm := ho.is m rfl
    have hm0 := h0 m hm
    have hle : ∀ x, S' x → m ≤ x := fun x hx => by obtain ⟨q, hq, hl⟩ := ho.le x hx; cases hq; exact hl
    rw [show favS b (some m) = if b < 0 ∨ m < b then m else b from rfl]
    by_cases hc : b < 0 ∨ m < b
    · rw [if_pos hc]
      refine ⟨fun x hx => ?_, .inr (.inr hm)⟩
      rcases hx with hx | hx
      · have := h.le x hx; omega
      · have := hle x hx; omega
    · rw [if_neg hc]
      refine ⟨fun x hx => ?_, ?_⟩
      · rcases hx with hx | hx
        · exact h.le x hx
        · have := hle x hx; omega
      · rcases h.is with e | e
        · omega
        · exact .inr (.inl e)
theorem minB_none : MinB (-1) fun _ => False := ⟨fun x h => h.elim, .inl rfl⟩
theorem minB_fold {o : Nat → Option Int} {S : Nat → Int → Prop} (L : List Nat) : ∀ (b : Int) (T : Int → Prop), MinB b T → (∀ x, T x → 0 ≤ x) → (∀ t ∈ L, MinS (o t) (S t) ∧ ∀ x, S t x → 0 ≤ x) →
    MinB (L.foldl (fun b t => favS b (o t)) b) fun x => T x ∨ ∃ t, t ∈ L ∧ S t x := by
  induction L with
  | nil => intro b T h _ _; exact h.congr fun x => by simp
  | cons a L ih =>
    intro b T h hT hL
    obtain ⟨h1, h2⟩ := hL a (by simp)
    refine (ih _ _ (minB_step h hT h1 h2) (fun x hx => hx.elim (hT x) (h2 x)) (fun t ht => hL t (by simp [ht]))).congr fun x => ?_
    simp only [List.mem_cons]
    constructor
    · rintro ((h | h) | ⟨t, ht, h⟩)
      · exact .inl h
      · exact .inr ⟨a, .inl rfl, h⟩
      · exact .inr ⟨t, .inr ht, h⟩
    · rintro (h | ⟨t, rfl | ht, h⟩)
      · exact .inl (.inl h)
      · exact .inl (.inr h)
      · exact .inr ⟨t, ht, h⟩
theorem minS_map {o : Option Int} {S : Int → Prop} (h : MinS o S) {g : Int → Int} (hg : ∀ a b, a ≤ b → g a ≤ g b) : MinS (o.map g) fun x => ∃ y, S y ∧ g y = x := by
  constructor
  · rintro x ⟨y, hy, rfl⟩
    obtain ⟨m, rfl, hm⟩ := h.le y hy
    exact ⟨g m, rfl, hg _ _ hm⟩
  · intro m hm
    cases o with
    | none => cases hm
    | some q => cases hm; exact ⟨q, h.is q rfl, rfl⟩
theorem fstN_iff (l : List Int) (a : Nat) : ∀ n, fstN l a n = true ↔ ∀ k, k < n → k = a ∨ l.getD a 0 < l.getD k 0 := by
  intro n
  induction n with
  | zero => simp [fstN]
  | succ n ih =>
    simp only [fstN, Bool.and_eq_true, Bool.or_eq_true, decide_eq_true_eq, ih]
    constructor
    · rintro ⟨h1, h2⟩ k hk
      by_cases e : k = n
      · subst e; exact h2
      · exact h1 k (by omega)
    · intro h
      exact ⟨fun k hk => h k (by omega), h n (by omega)⟩
theorem favO_min {s : Sl} (k : Ok s) (u : Bool) {i t : Nat} (hi : i < s.sh.length) (ht : t ∈ bitsL (tdA s u i)) :
    MinS ((lngF s (tdA s u)).favO i t) fun x => ∃ l, l ∈ rpl s u ∧ fstB l i = true ∧ l.getD i 0 = (t : Int) ∧ wm s l = x := by
  have ht16 := bitsL_lt (tdA_b k u i) ht
  have htb := (tdA_bit hi).1 ((mem_bits (Nat.lt_of_lt_of_le (tdA_b k u i) (by decide))).1 ht)
  have htd : ∀ i, i < s.sh.length → 1 ≤ (s.sh.getD i sh0).td := fun i hi => (k.s i hi).2.2.1
  have htdi := htd i hi
  have hb : (List.replicate s.sh.length (0 : Int)).set i t ∈ boxL 16 s.sh.length := box_set (box0 _) ht16
  have hbl : i < (List.replicate s.sh.length (0 : Int)).length := by simpa using hi
  unfold Fi.favO Fi.fnd
  have e0 : (lngF s (tdA s u)).td i = (s.sh.getD i sh0).td := rfl
  have e1 : (lngF s (tdA s u)).fr i = (s.sh.getD i sh0).fr := rfl
  rw [e0, e1, fd_eq (x := lngF s (tdA s u)) (lng_Lw s (tdA s u)) (h := 16) (by omega) (tdA_b k u) htd _ (2 ^ i) (t + (s.sh.getD i sh0).td) _ rfl (Nat.pow_lt_pow_right (by decide) hi) (by omega) hb]
  refine (minS_map (minS_fold _) (g := fun n => max n (t - (s.sh.getD i sh0).fr)) (fun a b hab => by omega)).congr fun x => ?_
  have hset : ∀ l, l ∈ boxL 16 s.sh.length → (((lngF s (tdA s u)).Rt (2 ^ i) (t + (s.sh.getD i sh0).td) l ∧ (lngF s (tdA s u)).Ag (2 ^ i) ((List.replicate s.sh.length (0 : Int)).set i t) l) ↔
      l ∈ rpl s u ∧ fstB l i = true ∧ l.getD i 0 = (t : Int)) := fun l hl => by
    have hlen := (mem_box.1 hl).1
    constructor
    · rintro ⟨hR, hA⟩
      have h1 : l.getD i 0 = (t : Int) := by
        have := hA i hi (bit_pow.2 rfl)
        rw [getD_set hbl, if_pos rfl] at this
        exact this
      have hno : ∀ q, q ≠ i → (2 ^ i).testBit q = false := fun q hq => by
        rw [← Bool.not_eq_true]
        intro h; exact hq (bit_pow.1 h)
      have hon : ∀ q, q < s.sh.length → q ≠ i → t + (s.sh.getD i sh0).td ≤ l.getD q 0 ∧ alR s u q (l.getD q 0) = 0 := fun q hq hne => by
        obtain ⟨a, b⟩ := hR.on q hq (hno q hne)
        obtain ⟨p, hp, ep⟩ := box_nat hl hq
        rw [ep, Int.toNat_natCast] at b
        refine ⟨a, ?_⟩
        rw [ep]; exact ((tdA_bit hq).1 b).2
      refine ⟨(mem_rpl k).2 ⟨hl, rtB_PR.2 ⟨fun q hq _ => ?_, fun a b ha hb' _ _ => ?_⟩⟩, ?_, h1⟩
      · by_cases e : q = i
        · subst e; rw [h1]; exact htb.2
        · exact (hon q hq e).2
      · rw [ovB_no]
        have hbN : b < s.sh.length := by omega
        by_cases ea : a = i
        · subst ea
          have := (hon b hbN (by omega)).1
          rw [h1]; exact .inl this
        · by_cases eb : b = i
          · subst eb
            have := (hon a ha ea).1
            rw [h1]; exact .inr this
          · exact hR.two a b ha hbN (by omega) (hno a ea) (hno b eb)
      · unfold fstB
        rw [fstN_iff]
        intro q hq
        by_cases e : q = i
        · exact .inl e
        · have := (hon q (by omega) e).1
          right; rw [h1]; omega
    · rintro ⟨hm, hf, h1⟩
      have hP := rtB_PR.1 ((mem_rpl k).1 hm).2
      unfold fstB at hf
      rw [fstN_iff] at hf
      have two : ∀ a b, a < s.sh.length → b < s.sh.length → a ≠ b → l.getD a 0 + (s.sh.getD a sh0).td ≤ l.getD b 0 ∨ l.getD b 0 + (s.sh.getD b sh0).td ≤ l.getD a 0 := fun a b ha hb' hne => by
        rcases Nat.lt_or_gt_of_ne hne with h | h
        · have := ovB_no.1 (hP.two b a hb' h (Nat.zero_testBit _) (Nat.zero_testBit _)); omega
        · exact ovB_no.1 (hP.two a b ha h (Nat.zero_testBit _) (Nat.zero_testBit _))
      refine ⟨⟨fun q hq hbq => ?_, fun a b ha hb' hne _ _ => two a b ha hb' hne⟩, fun q hq hbq => ?_⟩
      · have hne : q ≠ i := fun e => by rw [e, bit_pow.2 rfl] at hbq; cases hbq
        have h2 : l.getD i 0 < l.getD q 0 := (hf q (by have : q < s.sh.length := hq; omega)).resolve_left hne
        have h3 := two i q hi hq (fun e => hne e.symm)
        have h4 := htd q hq
        have h5 := hP.on q hq (Nat.zero_testBit _)
        obtain ⟨p, hp, ep⟩ := box_nat hl hq
        rw [h1] at h2 h3
        rw [ep] at h5 h2 h3 ⊢
        refine ⟨by omega, ?_⟩
        rw [Int.toNat_natCast]
        exact (tdA_bit hq).2 ⟨alR_high h5, h5⟩
      · have e := bit_pow.1 hbq
        subst e
        rw [getD_set hbl, if_pos rfl]; exact h1
  have hwm : ∀ l, l ∈ boxL 16 s.sh.length → l.getD i 0 = (t : Int) → max ((lngF s (tdA s u)).vl (2 ^ i) l s.sh.length) (t - (s.sh.getD i sh0).fr) = wm s l := fun l hl h1 => by
    have h2 := (glw_max s).vl (tdA s u) l (mem_box.1 hl).1
    rw [← h2, vl_or (lng_Lw s _) (Nat.zero_testBit i) l _ hi, Nat.zero_or, h1]
    exact Int.max_comm _ _
  constructor
  · rintro ⟨y, hy, rfl⟩
    obtain ⟨l, hl, rfl⟩ := List.mem_map.1 hy
    obtain ⟨h1, h2⟩ := mem_filP.1 hl
    obtain ⟨h3, h4, h5⟩ := (hset l h1).1 h2
    exact ⟨l, h3, h4, h5, (hwm l h1 h5).symm⟩
  · rintro ⟨l, h3, h4, h5, rfl⟩
    have h1 := ((mem_rpl k).1 h3).1
    exact ⟨_, List.mem_map.2 ⟨l, mem_filP.2 ⟨h1, (hset l h1).2 ⟨h3, h4, h5⟩⟩, rfl⟩, hwm l h1 h5⟩
/-- The longest waits of the plans that begin with a ship. -/
def FavS (s : Sl) (u : Bool) (i : Nat) (x : Int) : Prop := ∃ l, l ∈ rpl s u ∧ fstB l i = true ∧ wm s l = x
theorem wfav_min {s : Sl} (k : Ok s) (u : Bool) {i : Nat} (hi : i < s.sh.length) : MinB (wfavB s u i) (FavS s u i) := by
  unfold wfavB Fi.favP
  refine (minB_fold (o := fun t => (lngF s (tdA s u)).favO i t) (S := fun t x => ∃ l, l ∈ rpl s u ∧ fstB l i = true ∧ l.getD i 0 = (t : Int) ∧ wm s l = x) _ _ _ minB_none (fun x h => h.elim)
    (fun t ht => ⟨favO_min k u hi ht, fun x ⟨l, hl, _, _, e⟩ => by have := wm_b k hl; omega⟩)).congr fun x => ?_
  constructor
  · rintro (h | ⟨t, ht, l, h1, h2, h3, h4⟩)
    · exact h.elim
    · exact ⟨l, h1, h2, h4⟩
  · rintro ⟨l, h1, h2, h4⟩
    obtain ⟨hl, hr⟩ := (mem_rpl k).1 h1
    obtain ⟨t, ht, et⟩ := box_nat hl hi
    have := (rtB_PR.1 hr).on i hi (Nat.zero_testBit _)
    rw [et] at this
    exact .inr ⟨t, (mem_bits (Nat.lt_of_lt_of_le (tdA_b k u i) (by decide))).2 ((tdA_bit hi).2 ⟨alR_high this, this⟩), l, h1, h2, et, h4⟩
theorem favN_min {s : Sl} {L : List (List Int)} (a : Nat) (h : ∀ l ∈ L, 0 ≤ wm s l) : ∀ i, i ≤ L.length → MinB (favN s L a i) fun x => ∃ q, q < i ∧ fstB (L.getD q []) a = true ∧ wm s (L.getD q []) = x := by
  intro i
  induction i with
  | zero => intro _; exact minB_none.congr fun x => by simp
  | succ i ih =>
    intro hi
    have hw := h _ (mem_getD L i [] (by omega))
    simp only [favN]
    cases hf : fstB (L.getD i []) a with
    | false =>
      rw [Bool.false_and, if_neg (by decide)]
      refine (ih (by omega)).congr fun x => ?_
      constructor
      · rintro ⟨q, hq, h1⟩; exact ⟨q, by omega, h1⟩
      · rintro ⟨q, hq, h1, h2⟩
        by_cases e : q = i
        · subst e; rw [hf] at h1; cases h1
        · exact ⟨q, by omega, h1, h2⟩
    | true =>
      have h1 : MinS (some (wm s (L.getD i []))) fun x => x = wm s (L.getD i []) := ⟨fun x hx => ⟨_, rfl, by omega⟩, fun m hm => by cases hm; rfl⟩
      have hs := minB_step (ih (by omega)) (fun x ⟨q, hq, _, e⟩ => by have := h _ (mem_getD L q [] (by omega)); omega) h1 (fun x hx => by omega)
      have e : (if (true && (decide (favN s L a i < 0) || decide (wm s (L.getD i []) < favN s L a i))) = true then wm s (L.getD i []) else favN s L a i) = favS (favN s L a i) (some (wm s (L.getD i []))) := by
        simp only [Bool.true_and, Bool.or_eq_true, decide_eq_true_eq, favS]
      rw [e]
      refine hs.congr fun x => ?_
      constructor
      · rintro (⟨q, hq, h1, h2⟩ | rfl)
        · exact ⟨q, by omega, h1, h2⟩
        · exact ⟨i, by omega, hf, rfl⟩
      · rintro ⟨q, hq, h1, h2⟩
        by_cases e : q = i
        · subst e; exact .inr h2.symm
        · exact .inl ⟨q, by omega, h1, h2⟩
theorem fav_min {s : Sl} (k : Ok s) (u : Bool) (i : Nat) : MinB (favN s (rpl s u) i (rpl s u).length) (FavS s u i) := by
  refine (favN_min i (fun l hl => (wm_b k hl).1) _ (Nat.le_refl _)).congr fun x => ?_
  constructor
  · rintro ⟨q, hq, h1, h2⟩; exact ⟨_, mem_getD _ q [] hq, h1, h2⟩
  · rintro ⟨l, hl, h1, h2⟩
    obtain ⟨q, hq, rfl⟩ := getD_mem [] hl
    exact ⟨q, hq, h1, h2⟩
theorem wfavB_eq {s : Sl} (k : Ok s) (u : Bool) {i : Nat} (hi : i < s.sh.length) : wfavB s u i = favN s (rpl s u) i (rpl s u).length := (wfav_min k u hi).uniq (fav_min k u i)
theorem wfavE_eq (s : Sl) (u : Bool) (n : Int) : wfavE s u n = favE s u n := by
  unfold wfavE favE
  by_cases h : errE s (shipB s n) = 0
  · rw [if_pos h, if_pos h]
    obtain ⟨k, hv⟩ := errE_zero h
    rw [shipB_iff] at hv
    rw [wfavB_eq k u (by omega)]
    by_cases hr : rgtE s u = 0
    · rw [if_pos hr]
    · rw [if_neg hr]
      have hz : (rpl s u).length = 0 := by
        unfold rgtE at hr
        rw [if_pos k] at hr
        split at hr
        · assumption
        · exact absurd rfl hr
      rw [hz]
      rw [rgtE, if_pos k, if_pos hz]
      rfl
  · rw [if_neg h, if_neg h]
theorem wfavV_eq (s : Sl) (u : Bool) (n : Int) : wfavV s u n = favV s u n := by
  unfold wfavV favV
  rw [wfavE_eq]
  by_cases h : favE s u n = 0
  · rw [if_pos h, if_pos h]
    have h2 : errE s (shipB s n) = 0 := by
      unfold favE at h
      by_cases hc : errE s (shipB s n) = 0
      · exact hc
      · rw [if_neg hc] at h; exact absurd h hc
    obtain ⟨k, hv⟩ := errE_zero h2
    rw [shipB_iff] at hv
    exact wfavB_eq k u (by omega)
  · rw [if_neg h, if_neg h]
end Go.Proofs.YtnmgegodkmgdeaaDoor
end
section
set_option linter.unusedVariables false
set_option linter.unusedSimpArgs false
namespace Go.Proofs.YtnmgegodkmgdeaaDoor
open Go.V
/-- The numbers of those that are left. -/
def idxL (N S : Nat) : List Nat := (List.range N).filter fun i => !S.testBit i
theorem mem_idx {N S i : Nat} : i ∈ idxL N S ↔ i < N ∧ S.testBit i = false := by simp [idxL]
theorem nodup_idx (N S : Nat) : (idxL N S).Nodup := List.nodup_range.sublist List.filter_sublist
theorem shL_eq (s : Sl) (S : Nat) : ∀ n, shL s S n = (idxL n S).map fun i => s.sh.getD i sh0 := by
  intro n
  induction n with
  | zero => rfl
  | succ n ih =>
    unfold idxL at ih ⊢
    rw [List.range_succ, List.filter_append, List.map_append]
    simp only [shL]
    cases h : S.testBit n with
    | true => simp [ih, h]
    | false => simp [ih, h]
theorem woS_sh (s : Sl) (S : Nat) : (woS s S).sh = (idxL s.sh.length S).map fun i => s.sh.getD i sh0 := shL_eq s S _
theorem woS_len (s : Sl) (S : Nat) : (woS s S).sh.length = (idxL s.sh.length S).length := by rw [woS_sh, List.length_map]
theorem woS_get (s : Sl) (S : Nat) {a : Nat} (ha : a < (idxL s.sh.length S).length) : (woS s S).sh.getD a sh0 = s.sh.getD ((idxL s.sh.length S).getD a 0) sh0 := by
  rw [woS_sh, getD_map _ _ a 0 sh0 ha]
theorem alR_sh {s s' : Sl} (h : s'.hs = s.hs) {u : Bool} {a i : Nat} {t : Int} (e : s'.sh.getD a sh0 = s.sh.getD i sh0) : alR s' u a t = alR s u i t := by
  unfold alR enB htI
  rw [e, h]
theorem PR.two' {s : Sl} {u : Bool} {S : Nat} {l : List Int} (h : PR s u S l) {i j : Nat} (hi : i < s.sh.length) (hj : j < s.sh.length) (hne : i ≠ j) (bi : S.testBit i = false) (bj : S.testBit j = false) :
    l.getD i 0 + (s.sh.getD i sh0).td ≤ l.getD j 0 ∨ l.getD j 0 + (s.sh.getD j sh0).td ≤ l.getD i 0 := by
  rcases Nat.lt_or_gt_of_ne hne with h1 | h1
  · have := ovB_no.1 (h.two j i hj h1 bj bi); omega
  · exact ovB_no.1 (h.two i j hi h1 bi bj)
/-- Those who are left have a right plan of their own just if they can come on. -/
theorem woS_plan {s : Sl} (k : Ok s) (u : Bool) (S : Nat) : (∃ l, l ∈ rpl (woS s S) u) ↔ ∃ l, l ∈ boxL 16 s.sh.length ∧ PR s u S l := by
  have k' := woS_ok k S
  generalize hI : idxL s.sh.length S = I
  have hlen : (woS s S).sh.length = I.length := by rw [woS_len, hI]
  have hget : ∀ a, a < I.length → (woS s S).sh.getD a sh0 = s.sh.getD (I.getD a 0) sh0 := fun a ha => by rw [← hI] at ha ⊢; exact woS_get s S ha
  have hmem : ∀ i, i ∈ I ↔ i < s.sh.length ∧ S.testBit i = false := fun i => by rw [← hI]; exact mem_idx
  have hnd : I.Nodup := by rw [← hI]; exact nodup_idx _ _
  have hat : ∀ a, a < I.length → I.getD a 0 < s.sh.length ∧ S.testBit (I.getD a 0) = false := fun a ha => (hmem _).1 (mem_getD I a 0 ha)
  constructor
  · rintro ⟨l, hl⟩
    obtain ⟨hb, hr⟩ := (mem_rpl k').1 hl
    have hP := rtB_PR.1 hr
    have hin : ∀ i, i < s.sh.length → S.testBit i = false → I.idxOf i < I.length ∧ I.getD (I.idxOf i) 0 = i := fun i hi hb => by
      have h1 := List.idxOf_lt_length_of_mem ((hmem i).2 ⟨hi, hb⟩)
      refine ⟨h1, ?_⟩
      rw [List.getD_eq_getElem?_getD, List.getElem?_eq_getElem h1, Option.getD_some]
      exact List.getElem_idxOf h1
    let L : List Int := (List.range s.sh.length).map fun i => if S.testBit i = true then 0 else l.getD (I.idxOf i) 0
    have hL : ∀ i, i < s.sh.length → L.getD i 0 = if S.testBit i = true then 0 else l.getD (I.idxOf i) 0 := fun i hi => by
      rw [getD_map _ _ i 0 0 (by simpa using hi)]
      simp [hi]
    have hLf : ∀ i, i < s.sh.length → S.testBit i = false → L.getD i 0 = l.getD (I.idxOf i) 0 := fun i hi hb => by rw [hL i hi, hb]; rfl
    refine ⟨L, mem_box.2 ⟨by simp [L], fun i hi => ?_⟩, fun i hi hb => ?_, fun i j hi hj bi bj => ?_⟩
    · rw [hL i hi]
      cases hS : S.testBit i with
      | true => exact ⟨0, by omega, rfl⟩
      | false =>
        obtain ⟨h1, _⟩ := hin i hi hS
        exact box_nat hb (by rw [hlen]; exact h1)
    · obtain ⟨h1, h2⟩ := hin i hi hb
      rw [hLf i hi hb]
      exact (alR_sh (s := s) (s' := woS s S) rfl (by rw [hget _ h1, h2])).symm.trans (hP.on (I.idxOf i) (by rw [hlen]; exact h1) (Nat.zero_testBit _))
    · obtain ⟨h1, h2⟩ := hin i hi bi
      obtain ⟨h3, h4⟩ := hin j (by omega) bj
      have hne : I.idxOf i ≠ I.idxOf j := fun e => by rw [e, h4] at h2; omega
      have := hP.two' (by rw [hlen]; exact h1) (by rw [hlen]; exact h3) hne (Nat.zero_testBit _) (Nat.zero_testBit _)
      rw [hget _ h1, hget _ h3, h2, h4] at this
      rw [hLf i hi bi, hLf j (by omega) bj, ovB_no]
      exact this
  · rintro ⟨l, hb, hP⟩
    let L : List Int := I.map fun i => l.getD i 0
    have hL : ∀ a, a < I.length → L.getD a 0 = l.getD (I.getD a 0) 0 := fun a ha => by rw [getD_map _ _ a 0 0 ha]
    refine ⟨L, (mem_rpl k').2 ⟨mem_box.2 ⟨by simp [L, hlen], fun a ha => ?_⟩, rtB_PR.2 ⟨fun a ha _ => ?_, fun a c ha hc _ _ => ?_⟩⟩⟩
    · rw [hlen] at ha
      rw [hL a ha]
      exact box_nat hb (hat a ha).1
    · rw [hlen] at ha
      rw [hL a ha]
      exact (alR_sh (s := s) (s' := woS s S) rfl (hget a ha)).trans (hP.on _ (hat a ha).1 (hat a ha).2)
    · rw [hlen] at ha
      have hc' : c < I.length := by omega
      have hne : I.getD a 0 ≠ I.getD c 0 := fun e => by
        rw [List.getD_eq_getElem?_getD, List.getD_eq_getElem?_getD, List.getElem?_eq_getElem ha, List.getElem?_eq_getElem hc', Option.getD_some, Option.getD_some] at e
        have hpw := List.pairwise_iff_getElem.1 (List.nodup_iff_pairwise_ne.1 hnd) c a hc' ha hc
        exact hpw e.symm
      rw [ovB_no, hL a ha, hL c hc', hget a ha, hget c hc']
      exact hP.two' (hat a ha).1 (hat c hc').1 hne (hat a ha).2 (hat c hc').2
theorem canB_iff {s : Sl} (k : Ok s) (u : Bool) (S : Nat) : canB s u S = true ↔ ∃ l, l ∈ boxL 16 s.sh.length ∧ PR s u S l := by
  rw [← woS_plan k]
  unfold canB
  rw [decide_eq_true_eq]
  exact ⟨List.exists_mem_of_length_pos, fun ⟨l, hl⟩ => List.length_pos_of_mem hl⟩
theorem lngO_iff {s : Sl} (k : Ok s) (u : Bool) {S : Nat} (hS : S < 2 ^ s.sh.length) : lngO s u S = true ↔ ∃ l, l ∈ boxL 16 s.sh.length ∧ PR s u S l := by
  have htd : ∀ i, i < s.sh.length → 1 ≤ (s.sh.getD i sh0).td := fun i hi => (k.s i hi).2.2.1
  unfold lngO Fi.fnd
  rw [fd_eq (x := lngF s (tdA s u)) (lng_Lw s (tdA s u)) (h := 16) (by omega) (tdA_b k u) htd _ S 0 _ rfl hS (Int.le_refl 0) (box0 s.sh.length)]
  refine (minS_fold _).some_iff.trans ?_
  constructor
  · rintro ⟨x, hx⟩
    obtain ⟨l, hl, _⟩ := List.mem_map.1 hx
    obtain ⟨h1, h2, _⟩ := mem_filP.1 hl
    exact ⟨l, h1, (rt_PR h1).1 h2⟩
  · rintro ⟨l, hl, hP⟩
    obtain ⟨hlen, hq⟩ := mem_box.1 hl
    -- those who are dropped come on at 0
    let L : List Int := (List.range s.sh.length).map fun i => if S.testBit i = true then 0 else l.getD i 0
    have hL : ∀ i, i < s.sh.length → L.getD i 0 = if S.testBit i = true then 0 else l.getD i 0 := fun i hi => by
      rw [getD_map _ _ i 0 0 (by simpa using hi)]
      simp [hi]
    have hLf : ∀ i, i < s.sh.length → S.testBit i = false → L.getD i 0 = l.getD i 0 := fun i hi hb => by rw [hL i hi, hb]; rfl
    have hLb : L ∈ boxL 16 s.sh.length := mem_box.2 ⟨by simp [L], fun i hi => by
      rw [hL i hi]
      split
      · exact ⟨0, by omega, rfl⟩
      · exact hq i hi⟩
    refine ⟨_, List.mem_map.2 ⟨L, mem_filP.2 ⟨hLb, (rt_PR hLb).2 ⟨fun i hi hb => ?_, fun i j hi hj bi bj => ?_⟩, fun i hi hb => ?_⟩, rfl⟩⟩
    · rw [hLf i hi hb]; exact hP.on i hi hb
    · rw [hLf i hi bi, hLf j (by omega) bj]; exact hP.two i j hi hj bi bj
    · have hi' : i < s.sh.length := hi
      rw [hL i hi', hb, if_pos rfl, List.getD_eq_getElem?_getD, List.getElem?_replicate]
      split <;> rfl
theorem drop_least {s : Sl} (k : Ok s) (u : Bool) : LeastSet (canB s u) s.sh.length (dropV s u) := by
  have hc : cntE s = 0 := if_pos k
  have hall : canB s u (2 ^ s.sh.length - 1) = true := by
    rw [canB_iff k]
    exact ⟨_, box0 _, PR.mk (fun i hi hb => by rw [Nat.testBit_two_pow_sub_one, decide_eq_true hi] at hb; cases hb) (fun i j hi hj hb _ => by rw [Nat.testBit_two_pow_sub_one, decide_eq_true hi] at hb; cases hb)⟩
  have hr : rset (canB s u) s.sh.length = some (dropV s u) := by
    rw [rset, if_pos hall, dropV, if_pos hc]
  exact rset_least (by have := k.nS; omega) hr
theorem wdrop_eq (s : Sl) (u : Bool) : wdropV s u = dropV s u := by
  by_cases hc : cntE s = 0
  · have k : Ok s := by
      unfold cntE at hc
      split at hc
      · assumption
      · omega
    have hl := drop_least k u
    rw [wdropV, if_pos hc]
    have he : ∀ i, i < 2 ^ s.sh.length → lngO s u i = canB s u i := fun i hi => by rw [Bool.eq_iff_iff, lngO_iff k u hi, canB_iff k]
    cases hf : fewV (lngO s u) s.sh.length with
    | none =>
      have := fewV_none (by have := k.nS; omega) hf _ hl.lt
      rw [he _ hl.lt, hl.is] at this
      cases this
    | some r =>
      have h := fewV_some hf
      have h2 : LeastSet (canB s u) s.sh.length r := ⟨h.lt, by rw [← he _ h.lt]; exact h.is, fun i hi hi2 => h.le i hi (by rw [he i hi]; exact hi2)⟩
      exact h2.uniq hl
  · rw [wdropV, if_neg hc, dropV, if_neg hc]
end Go.Proofs.YtnmgegodkmgdeaaDoor
end
section
set_option linter.unusedVariables false
set_option linter.unusedSimpArgs false
namespace Go.V
set_option linter.unusedSectionVars false
variable [Inhabited GivT]
/-- What one cell holds. -/
inductive CK where
  | int (k : IntKind)
  | bool
  | sl (ks : List CK)

/-- The cells of a type. -/
def cellsT (P : Program) : Nat → TypeId → Option (List CK)
  | 0, _ => none
  | d + 1, t => match P.underlying t with
    | some .bool => some [.bool]
    | some (.int k) => some [.int k]
    | some (.slice e) => match cellsT P d e with
      | some ks => if P.cellsOf e = ks.length ∧ 0 < ks.length then some [.sl ks] else none
      | none => none
    | some (.array n e) => match cellsT P d e with
      | some ks => if P.cellsOf e = ks.length ∧ P.cellsOf t = n * ks.length then some ((List.replicate n ks).flatten) else none
      | none => none
    | some (.struct fs) => match fs.toList.foldl (fun acc f => match acc with
        | some ks => match cellsT P d f.type with
          | some l => if f.offset = ks.length ∧ P.cellsOf f.type = l.length then some (ks ++ l) else none
          | none => none
        | none => none) (some []) with
      | some ks => if P.cellsOf t = ks.length then some ks else none
      | none => none
    | _ => none

/-- Such an abstract value. -/
inductive CKA : CK → AV → Prop
  | int {k : IntKind} {z : Int} (h : (Lit.int k z).wf = true) : CKA (.int k) (.lit (.int k z))
  | bool {b : Bool} : CKA .bool (.lit (.bool b))
  | sl {ks : List CK} {n : Nat} {f : Nat → List AV} (hn : n ≤ maxLen) (hl : ∀ i, i < n → (f i).length = ks.length) (h : ∀ i j k, i < n → ks[j]? = some k → CKA k ((f i).getD j .any)) : CKA (.sl ks) (.rsl n ks.length f)

def CellIs (W : World) (k : CK) (v : Value) : Prop := ∃ av, CKA k av ∧ VRel (st0 W) av v
def CellsOk (W : World) (ks : List CK) (cs : List Value) : Prop := cs.length = ks.length ∧ ∀ (i : Nat) (k : CK) (v : Value), ks[i]? = some k → cs[i]? = some v → CellIs W k v

theorem CellsOk.append {W : World} {ks ls : List CK} {cs ds : List Value} (h : CellsOk W ks cs) (h' : CellsOk W ls ds) : CellsOk W (ks ++ ls) (cs ++ ds) := by
  refine ⟨by simp [h.1, h'.1], fun i k v hk hv => ?_⟩
  by_cases hi : i < ks.length
  · rw [List.getElem?_append_left hi] at hk
    rw [List.getElem?_append_left (by rw [h.1]; exact hi)] at hv
    exact h.2 i k v hk hv
  · rw [List.getElem?_append_right (by omega)] at hk
    rw [List.getElem?_append_right (by rw [h.1]; omega), h.1] at hv
    exact h'.2 _ k v hk hv

theorem trod_cells {H : Type} {enc : TypeId × Value → H} {P : Program} {W : World} {held : Bool} {sp : Nat → Bool} :
    ∀ (d fuel : Nat) (t : TypeId) (cs : List Value) (x : DataW H × List MemPlace) (ks : List CK), cellsT P d t = some ks → DataW.trod enc P W 0 sp held fuel t cs = some x → CellsOk W ks cs := by
  intro d
  induction d with
  | zero => intro fuel t cs x ks hg; cases hg
  | succ d ih =>
    intro fuel t cs x ks hg h
    cases fuel with
    | zero => cases h
    | succ fuel =>
      unfold cellsT at hg
      unfold DataW.trod at h
      cases hu : P.underlying t with
      | none => rw [hu] at hg; cases hg
      | some td =>
        rw [hu] at hg h
        cases td <;> simp only at hg <;> try (cases hg; done)
        case bool =>
          cases hg
          split at h <;> simp_all
          rename_i b
          exact ⟨rfl, fun i k v hk hv => by cases i <;> simp at hk hv; subst hk hv; exact ⟨_, .bool, .lit _⟩⟩
        case int k =>
          cases hg
          split at h <;> simp_all
          rename_i n hh
          exact ⟨rfl, fun i k v hk hv => by cases i <;> simp at hk hv; subst hk hv; exact ⟨_, .int h.1.2, .lit _⟩⟩
        case array n e =>
          cases hke : cellsT P d e with
          | none => rw [hke] at hg; cases hg
          | some lk =>
            rw [hke] at hg
            simp only at hg
            by_cases hc : P.cellsOf e = lk.length ∧ P.cellsOf t = n * lk.length
            case neg => rw [if_neg hc] at hg; cases hg
            rw [if_pos hc] at hg
            cases hg
            split at h <;> try (simp_all; done)
            case _ n' e' heq =>
              simp only [Option.some.injEq, TypeDesc.array.injEq] at heq
              obtain ⟨rfl, rfl⟩ := heq
              split at h
              case isFalse hl => cases h
              case isTrue hl =>
                rw [Option.map_eq_some_iff] at h
                obtain ⟨ys, hy, rfl⟩ := h
                have key : ∀ (c : List Value), (∀ i, i < n → ∃ y, DataW.trod enc P W 0 sp held fuel e ((c.drop (i * P.cellsOf e)).take (P.cellsOf e)) = some y) → ∀ m, m ≤ n → CellsOk W (List.replicate m lk).flatten (c.take (m * lk.length)) := by
                  intro c hcy m
                  induction m with
                  | zero => intro _; exact ⟨by simp, fun i k v hk => by simp at hk⟩
                  | succ m ihm =>
                    intro hm
                    have h0 := ihm (by omega)
                    obtain ⟨y, h2⟩ := hcy m (by omega)
                    have h3 := ih fuel e _ y lk hke h2
                    rw [hc.1] at h3
                    have := h0.append h3
                    rw [List.replicate_succ', List.flatten_append, Nat.succ_mul, List.take_add]
                    simpa using this
                have := key _ (fun i hi => by
                  obtain ⟨y, _, h2⟩ := (mapM_get _ _ hy).2 i i (by simp [hi])
                  exact ⟨y, h2⟩) n (Nat.le_refl _)
                rw [List.take_of_length_le (by rw [hl, hc.2]; exact Nat.le_refl _)] at this
                exact this
        case slice e =>
          cases hke : cellsT P d e with
          | none => rw [hke] at hg; cases hg
          | some lk =>
            rw [hke] at hg
            simp only at hg
            by_cases hc : P.cellsOf e = lk.length ∧ 0 < lk.length
            case neg => rw [if_neg hc] at hg; cases hg
            rw [if_pos hc] at hg
            cases hg
            obtain ⟨hsz, hpos⟩ := hc
            split at h <;> try (simp_all; done)
            · rename_i heq
              refine ⟨rfl, fun i k v hk hv => ?_⟩
              cases i <;> simp at hk hv
              subst hk hv
              exact ⟨.rsl 0 lk.length fun _ => [], .sl (Nat.zero_le _) (fun i hi => by omega) (fun i j k hi => by omega), .rsl0⟩
            · rename_i e' a len cap heq
              simp only [Option.some.injEq, TypeDesc.slice.injEq] at heq
              subst heq
              simp only at h
              split at h
              case isFalse hl => cases h
              case isTrue hl =>
                rw [Option.bind_eq_some_iff] at h
                obtain ⟨es, he, -⟩ := h
                let g : Nat → List Value := fun i => match W.cells? 0 (a.add (i * P.cellsOf e)) (P.cellsOf e) with
                  | some c => c
                  | none => []
                have hel : ∀ i, i < len → W.cells? 0 (a.add (i * P.cellsOf e)) (P.cellsOf e) = some (g i) ∧ CellsOk W lk (g i) := by
                  intro i hi
                  obtain ⟨y, _, hy⟩ := (mapM_get _ _ he).2 i i (by simp [hi])
                  rw [Option.bind_eq_some_iff] at hy
                  obtain ⟨c, h1, h2⟩ := hy
                  have : g i = c := by simp only [g, h1]
                  rw [this]
                  exact ⟨h1, ih fuel e c y lk hke h2⟩
                -- the abstract cells
                have hch : ∀ i j, ∃ av, i < len → j < lk.length → ∃ k v, lk[j]? = some k ∧ (g i)[j]? = some v ∧ CKA k av ∧ VRel (st0 W) av v := by
                  intro i j
                  by_cases hi : i < len
                  · by_cases hj : j < lk.length
                    · obtain ⟨l1, l2⟩ := (hel i hi).2
                      obtain ⟨av, c1, c2⟩ := l2 j lk[j] (g i)[j] (List.getElem?_eq_getElem hj) (List.getElem?_eq_getElem (by omega))
                      exact ⟨av, fun _ _ => ⟨_, _, List.getElem?_eq_getElem hj, List.getElem?_eq_getElem (by omega), c1, c2⟩⟩
                    · exact ⟨.any, fun _ x => absurd x hj⟩
                  · exact ⟨.any, fun x => absurd x hi⟩
                have hf := fun i => Classical.axiomOfChoice (hch i)
                obtain ⟨F, hF⟩ := Classical.axiomOfChoice hf
                have hget : ∀ i j, j < lk.length → ((List.range lk.length).map (F i)).getD j .any = F i j := fun i j hj => by
                  rw [List.getD_eq_getElem?_getD, List.getElem?_map, List.getElem?_range hj]; rfl
                refine ⟨rfl, fun i k v hk hv => ?_⟩
                cases i <;> simp at hk hv
                subst hk hv
                refine ⟨.rsl len lk.length fun i => (List.range lk.length).map (F i), .sl (Nat.le_trans hl.2.1 hl.2.2) (fun i hi => by simp) (fun i j k hi hk => ?_), ?_⟩
                · have hj := (List.getElem?_eq_some_iff.1 hk).1
                  rw [hget i j hj]
                  obtain ⟨k', v, h1, h2, h3, h4⟩ := hF i j hi hj
                  rw [hk] at h1; cases h1
                  exact h3
                by_cases h0 : len = 0
                · subst h0; exact .rsl0
                have hcell : ∀ i j, i < len → j < lk.length → ∃ u, (g i)[j]? = some u ∧ W.cell? ((a.add (i * P.cellsOf e)).add j) = some u := by
                  intro i j hi hj
                  have h1 := (hel i hi).1
                  unfold World.cells? at h1
                  rw [if_pos (Nat.zero_le _)] at h1
                  exact (mapM_get _ _ h1).2 j j (by simp [hsz, hj])
                obtain ⟨b, off, spot⟩ := a
                obtain ⟨u0, _, hc0⟩ := hcell 0 0 (by omega) hpos
                rw [show ((⟨b, off, spot⟩ : Addr).add (0 * P.cellsOf e)).add 0 = ⟨b, off, spot⟩ from by simp [Addr.add]] at hc0
                unfold World.cell? at hc0
                split at hc0
                case h_2 => cases hc0
                case h_1 c ct fz hb =>
                  have hspot : spot = none := by
                    cases spot with
                    | none => rfl
                    | some s => simp at hc0
                  subst hspot
                  have hadd : ∀ i j, (((⟨b, off, none⟩ : Addr).add (i * P.cellsOf e)).add j) = ⟨b, off + i * P.cellsOf e + j, none⟩ := fun i j => by rw [addr_add, addr_add]
                  have hall : ∀ i j, i < len → j < lk.length → ∃ u, (g i)[j]? = some u ∧ c[off + i * lk.length + j]? = some u := by
                    intro i j hi hj
                    obtain ⟨u, h1, h2⟩ := hcell i j hi hj
                    rw [hadd] at h2
                    unfold World.cell? at h2
                    simp only at hb
                    rw [show W.heap[(⟨b, off + i * P.cellsOf e + j, none⟩ : Addr).block]? = some (.cells c ct fz) from hb] at h2
                    simp only [Option.isSome_none, Bool.false_eq_true, if_false, hsz] at h2
                    exact ⟨u, h1, h2⟩
                  refine .rsl (c := c) (e := ct) (fz := fz) ?_ hb ?_ (fun i hi => by simp) (fun i j hi hj => ?_) hl.2.1
                  · exact (Array.getElem?_eq_some_iff.1 hb).1
                  · obtain ⟨u, _, h2⟩ := hall (len - 1) (lk.length - 1) (by omega) (by omega)
                    have := (Array.getElem?_eq_some_iff.1 h2).1
                    have e1 : len * lk.length = (len - 1) * lk.length + lk.length := by
                      obtain ⟨q, rfl⟩ : ∃ q, len = q + 1 := ⟨len - 1, by omega⟩
                      rw [Nat.add_sub_cancel, Nat.succ_mul]
                    omega
                  · obtain ⟨u, h1, h2⟩ := hall i j hi hj
                    obtain ⟨k', v, q1, q2, q3, q4⟩ := hF i j hi hj
                    rw [h1] at q2; cases q2
                    rw [hget i j hj, Array.getD_eq_getD_getElem?, h2]
                    exact q4
        case struct fs =>
          split at h <;> try (simp_all; done)
          case _ fs' heq =>
            simp only [Option.some.injEq, TypeDesc.struct.injEq] at heq
            subst heq
            split at h
            case isFalse hl => cases h
            case isTrue hl =>
              rw [Option.map_eq_some_iff] at h
              obtain ⟨ys, hy, rfl⟩ := h
              have key : ∀ (c : List Value) (l : List Field) (acc ks : List CK), (∀ f ∈ l, ∃ y, DataW.trod enc P W 0 sp held fuel f.type ((c.drop f.offset).take (P.cellsOf f.type)) = some y) → CellsOk W acc (c.take acc.length) →
                  l.foldl (fun acc f => match acc with
                    | some ks => match cellsT P d f.type with
                      | some l => if f.offset = ks.length ∧ P.cellsOf f.type = l.length then some (ks ++ l) else none
                      | none => none
                    | none => none) (some acc) = some ks → CellsOk W ks (c.take ks.length) := by
                intro c l
                induction l with
                | nil => intro acc ks _ ha he; simp at he; subst he; exact ha
                | cons f l ih2 =>
                  intro acc ks hf ha he
                  simp only [List.foldl_cons] at he
                  have hnone : ∀ l : List Field, l.foldl (fun acc f => match acc with
                    | some ks => match cellsT P d f.type with
                      | some l => if f.offset = ks.length ∧ P.cellsOf f.type = l.length then some (ks ++ l) else none
                      | none => none
                    | none => none) none = (none : Option (List CK)) := by
                    intro l; induction l with
                    | nil => rfl
                    | cons a l ih => simpa using ih
                  cases hl2 : cellsT P d f.type with
                  | none => rw [hl2] at he; simp only at he; rw [hnone] at he; cases he
                  | some lk =>
                    rw [hl2] at he
                    simp only at he
                    by_cases hc : f.offset = acc.length ∧ P.cellsOf f.type = lk.length
                    · rw [if_pos hc] at he
                      obtain ⟨y, hy⟩ := hf f (by simp)
                      have := ih fuel f.type _ y lk hl2 hy
                      rw [hc.1, hc.2] at this
                      have hap := ha.append this
                      refine ih2 (acc ++ lk) ks (fun g hg => hf g (by simp [hg])) ?_ he
                      rw [List.length_append, List.take_add]
                      exact hap
                    · rw [if_neg hc, hnone] at he; cases he
              split at hg
              case h_2 => cases hg
              case h_1 ks' he =>
                split at hg
                case isFalse => cases hg
                case isTrue hc =>
                  cases hg
                  have := key _ fs.toList [] ks (fun f hf => by
                    obtain ⟨i, hi⟩ := List.getElem?_of_mem hf
                    obtain ⟨y, _, h2⟩ := (mapM_get _ _ hy).2 i f hi
                    exact ⟨y, h2⟩) ⟨by simp, fun i k v hk => by simp at hk⟩ he
                  rw [List.take_of_length_le (by rw [hl, hc]; exact Nat.le_refl _)] at this
                  exact this

end Go.V
end
section
set_option linter.unusedVariables false
set_option linter.unusedSimpArgs false
namespace Go.V
set_option linter.unusedSectionVars false
variable [Inhabited GivT]
open Go.ChangeShapes
theorem AV.Le.rslD {n st : Nat} {f g : Nat → List AV} (h : ∀ i, i < n → (g i).length = st ∧ ∀ j, j < st → AV.Le ((f i).getD j .any) ((g i).getD j .any)) : AV.Le (.rsl n st f) (.rsl n st g) := by
  intro S v hv
  cases hv with
  | rsl0 => exact .rsl0
  | rsl hi hb hsz hf hh hcap => exact .rsl hi hb hsz (fun i hi => (h i hi).1) (fun i j hi hj => (h i hi).2 j hj _ _ (hh i j hi hj)) hcap
theorem AV.Le.aggD {cs ds : List AV} (hl : ds.length = cs.length) (h : ∀ j, j < cs.length → AV.Le (cs.getD j .any) (ds.getD j .any)) : AV.Le (.agg cs) (.agg ds) := by
  intro S v hv
  cases hv with
  | agg hn hh => exact .agg (hn.trans hl.symm) fun k hk => h k (by omega) _ _ (hh k (by omega))

/-- Cells that are told. -/
def Told (ks : List CK) (cs : List AV) : Prop := cs.length = ks.length ∧ ∀ j k, ks[j]? = some k → CKA k (cs.getD j .any)

/-- A struct that is handed in. -/
theorem trod_agg {H : Type} {enc : TypeId × Value → H} {P : Program} {W : World} {held : Bool} {sp : Nat → Bool} {t dd : Nat} {v : Value} {d : DataW H} {ps : List MemPlace} {ks : List CK}
    (hk : cellsT P dd t = some ks) (hn : 2 ≤ ks.length) (h : DataW.Trod enc P W 0 sp held t v d ps) : ∃ cs : List AV, Told ks cs ∧ VRel (st0 W) (.agg cs) v := by
  obtain ⟨fuel, h⟩ := h
  obtain ⟨hl, hz⟩ := trod_cells dd fuel t _ _ ks hk h
  cases v with
  | agg vs =>
    simp only [Value.cells] at hl hz
    have hl2 : vs.size = ks.length := by simpa using hl
    have hch : ∀ j : Nat, ∃ av : AV, ∀ (k : CK) (u : Value), ks[j]? = some k → vs[j]? = some u → CKA k av ∧ VRel (st0 W) av u := fun j => by
      cases hkj : ks[j]? with
      | none => exact ⟨.any, fun k u h => by cases h⟩
      | some k =>
        cases hvj : vs[j]? with
        | none => exact ⟨.any, fun k u _ h => by cases h⟩
        | some u =>
          obtain ⟨av, h1, h2⟩ := hz j k u hkj (by simpa using hvj)
          exact ⟨av, fun k' u' e1 e2 => by cases e1; cases e2; exact ⟨h1, h2⟩⟩
    obtain ⟨F, hF⟩ := Classical.axiomOfChoice hch
    have hget : ∀ j, j < ks.length → ((List.range ks.length).map F).getD j .any = F j := fun j hj => by
      rw [List.getD_eq_getElem?_getD, List.getElem?_map, List.getElem?_range hj]; rfl
    refine ⟨(List.range ks.length).map F, ⟨by simp, fun j k hk => ?_⟩, .agg (by simpa using hl2) fun j hj => ?_⟩
    · have hj := (List.getElem?_eq_some_iff.1 hk).1
      rw [hget j hj]
      exact (hF j k vs[j] hk (by simp [show j < vs.size by omega])).1
    · have hj : j < ks.length := by simpa using hj
      rw [hget j hj, Array.getD_eq_getD_getElem?, Array.getElem?_eq_getElem (by omega)]
      exact (hF j ks[j] vs[j] (List.getElem?_eq_getElem hj) (by simp [show j < vs.size by omega])).2
  | _ => simp [Value.cells] at hl; omega
/-- A slice of what can be told. -/
theorem told_slice {α : Type} {ks : List CK} (en : α → List AV) (d0 : α) (hd : ∀ cs, Told ks cs → ∃ x : α, (en x).length = ks.length ∧ ∀ j, j < ks.length → AV.Le (cs.getD j .any) ((en x).getD j .any)) {av : AV} (h : CKA (.sl ks) av) :
    ∃ l : List α, l.length ≤ maxLen ∧ AV.Le av (.rsl l.length ks.length fun i => en (l.getD i d0)) := by
  cases h with
  | @sl _ n f hn hl hh =>
    have hch : ∀ i, ∃ x : α, i < n → (en x).length = ks.length ∧ ∀ j, j < ks.length → AV.Le ((f i).getD j .any) ((en x).getD j .any) := fun i => by
      by_cases hi : i < n
      · obtain ⟨x, h1⟩ := hd (f i) ⟨hl i hi, fun j k hk => hh i j k hi hk⟩
        exact ⟨x, fun _ => h1⟩
      · exact ⟨d0, fun x => absurd x hi⟩
    obtain ⟨F, hF⟩ := Classical.axiomOfChoice hch
    refine ⟨(List.range n).map F, by simpa using hn, ?_⟩
    rw [List.length_map, List.length_range]
    refine AV.Le.rslD fun i hi => ?_
    have e : ((List.range n).map F).getD i d0 = F i := by
      rw [List.getD_eq_getElem?_getD, List.getElem?_map, List.getElem?_range hi]; rfl
    rw [e]
    exact hF i hi
theorem told_int {cs : List AV} {k : IntKind} (j : Nat) {ks : List CK} (h : Told ks cs) (hk : ks[j]? = some (.int k)) : ∃ z : Int, cs.getD j .any = .lit (.int k z) ∧ (Lit.int k z).wf = true := by
  have := h.2 j _ hk
  generalize cs.getD j .any = x at *
  cases this with
  | int hw => exact ⟨_, rfl, hw⟩
end Go.V
end
section
set_option linter.unusedVariables false
set_option linter.unusedSimpArgs false
set_option maxHeartbeats 4000000
set_option maxRecDepth 100000
namespace Go.Proofs.YtnmgegodkmgdeaaDoor
open Go.V
theorem pcount_tri (s : Sl) (u : Bool) (H : Hp) (kn : Near s) : PTri Tryd.prog (fnA 19) [s.av, boo u] H (.tuple [i64 (cntV s u : Nat), i64 (cntE s)]) := by
  have := wcount_tri s u H kn
  rw [wcnt_eq] at this
  exact this
theorem pbest_tri (s : Sl) (u : Bool) (H : Hp) (kn : Near s) : PTri Tryd.prog (fnA 21) [s.av, boo u] H (.tuple [i64 (bestV (wm s) s u), bestA (wm s) s u, i64 (rgtE s u)]) := by
  have := wbest_tri s u H kn
  rw [wV_eq (glw_max s), wP_eq (glw_max s), wE_eq (glw_max s)] at this
  exact this
theorem ptotal_tri (s : Sl) (u : Bool) (H : Hp) (kn : Near s) : PTri Tryd.prog (fnA 23) [s.av, boo u] H (.tuple [i64 (bestV (ws s) s u), bestA (ws s) s u, i64 (rgtE s u)]) := by
  have := wtotal_tri s u H kn
  rw [wV_eq (glw_sum s), wP_eq (glw_sum s), wE_eq (glw_sum s)] at this
  exact this
theorem pfavour_tri (s : Sl) (n : Int) (u : Bool) (H : Hp) (kn : Near s) : PTri Tryd.prog (fnA 25) [s.av, i64 n, boo u] H (.tuple [i64 (favV s u n), i64 (favE s u n)]) := by
  have := wfavour_tri s n u H kn
  rw [wfavV_eq, wfavE_eq] at this
  exact this
theorem pdrop_tri (s : Sl) (u : Bool) (H : Hp) (kn : Near s) : PTri Tryd.prog (fnA 27) [s.av, boo u] H (.tuple [i64 (dropV s u : Nat), i64 (cntE s)]) := by
  have := wdrop_tri s u H kn
  rw [wdrop_eq] at this
  exact this

def lngB (s : Sl) (l : List Int) : Bool := decide (40 < max (max (s.hs.length : Int) s.sh.length) l.length)
theorem long0_tri (s : Sl) (H : Hp) : PTri Tryd.prog (fnA 31) [s.av, .lit (.slice none 0 0)] H (boo (lngB s [])) := by
  refine tri_v0 (fun _ => false) Tryd.func31 (by kernel_rfl) rfl (by simp only [List.length_append, List.length_cons, List.length_nil, Tryd.ntmps31]; decide) ?_
  simp only [vsAll, binA, binLitA, intA, loadA, loadRow, partA, partOk, fieldAddrA, lenA, boxA, boxZ, mmA, okAll, stAll, opsA, opA, dstOk, nilSliceOp, resA, argFr, retA.eq_1, Nat.reduceAdd, Nat.reduceLT, Nat.reduceEqDiff, ↓reduceIte, eq_self, wtAll, Tryd.ntmps31, Tryd.results31]
  rfl
theorem lng_near {s : Sl} {l : List Int} (h : lngB s l = false) : Near s ∧ l.length ≤ 40 := by
  have h0 := of_decide_eq_false h
  exact ⟨⟨by omega, by omega⟩, by omega⟩
/-- How many ways there are to choose a tide for each ship. -/
def hvN (s : Sl) : Nat → Nat
  | 0 => 1
  | i + 1 => hvN s i * max 1 (pop (tideV s false i))
def hvB (s : Sl) (l : List Int) (most : Nat) : Bool := if (lngB s l || !decide (Ok s)) = true then lngB s l else decide (most < hvN s s.sh.length)
theorem tideV_lt {s : Sl} (k : Ok s) (u : Bool) (n : Int) : tideV s u n < 2 ^ 16 := by
  unfold tideV
  split
  · exact tdN_b k u _
  · decide
theorem span_tri (a b : Int) (H : Hp) : PTri Tryd.prog (fnA 74) [i64 a, i64 b] H (.agg [i64 a, i64 b]) := by
  refine tri_vs (m := fun _ => false) Tryd.func74 (by kernel_rfl) rfl (by simp only [List.length_append, List.length_cons, List.length_nil, Tryd.ntmps74]; decide) ?_
  simp only [vsAll, cellA, cellsA, fillA, okParts, partsA, partsOk, opA, allocA, newCells, okCells, storeObj, dstOk, argFr, Nat.reduceAdd, Nat.reduceLT, Nat.reduceLeDiff, Nat.reduceEqDiff, ↓reduceIte, reduceCtorEq, eq_self, wtAll, Tryd.ntmps74]
  intro i4 hh_i4; (try simp only [Hp.set_none, ite_none] at hh_i4)
  refine ret0 ?_
  simp only [vsAll, loadA, loadRow, partA, partOk, resA, retA.eq_1, Nat.reduceLT, Nat.reduceEqDiff, ↓reduceIte, eq_self, wtAll, Tryd.results74]
  exact dropR_pure rfl (by (repeat (first | exact HSub_rfl | refine HSub_put_eq (by simp only [vsAll, binA, binLitA, intA, aggA, aggV, boolA, nilA2, isConst, unA, loadA, loadRow, partA, partOk, fieldAddrA, indexAddrA, indexA, fieldA, extractA, lenA, nilCheckA, boxA, boxZ, cellA, cellsA, fillA, okParts, buildSliceA, buildMutA, makeSliceA, partIdx, elemsA, lensA, ifaceA, convA, mmA, pickA, okAll, stAll, opsA, partsA, partsOk, opA, allocA, boxMutA, newCells, okCells, storeObj, appendA, guardV, taA, nM, mapUpA, lookA, sliceA, sliceS, boundsA, opO, okO, copyA, dstOk, nilA, quietOk, nilSliceOp, deferV, panA, resA, argFr, retA.eq_1, retA.eq_2, Nat.reduceAdd, Nat.reduceSub, Nat.reduceMul, Nat.reduceLT, Nat.reduceLeDiff, Nat.reduceEqDiff, Nat.reduceBEq, Int.reduceAdd, Int.reduceSub, Int.reduceMul, Int.reduceNeg, Int.reduceLE, Int.reduceLT, Int.reduceEq, Int.reduceNe, Int.reduceToNat, ↓reduceIte, reduceCtorEq, implies_true, forall_const, eq_self, ne_eq, wtAll, Tryd.ntmps74, Tryd.results74, hh_i4]) ?_ | refine HSub_drop2 (by simp only [eq_self, hh_i4]) ?_ | refine HSub_keep_eq (by simp only [vsAll, binA, binLitA, intA, aggA, aggV, boolA, nilA2, isConst, unA, loadA, loadRow, partA, partOk, fieldAddrA, indexAddrA, indexA, fieldA, extractA, lenA, nilCheckA, boxA, boxZ, cellA, cellsA, fillA, okParts, buildSliceA, buildMutA, makeSliceA, partIdx, elemsA, lensA, ifaceA, convA, mmA, pickA, okAll, stAll, opsA, partsA, partsOk, opA, allocA, boxMutA, newCells, okCells, storeObj, appendA, guardV, taA, nM, mapUpA, lookA, sliceA, sliceS, boundsA, opO, okO, copyA, dstOk, nilA, quietOk, nilSliceOp, deferV, panA, resA, argFr, retA.eq_1, retA.eq_2, Nat.reduceAdd, Nat.reduceSub, Nat.reduceMul, Nat.reduceLT, Nat.reduceLeDiff, Nat.reduceEqDiff, Nat.reduceBEq, Int.reduceAdd, Int.reduceSub, Int.reduceMul, Int.reduceNeg, Int.reduceLE, Int.reduceLT, Int.reduceEq, Int.reduceNe, Int.reduceToNat, ↓reduceIte, reduceCtorEq, implies_true, forall_const, eq_self, ne_eq, wtAll, Tryd.ntmps74, Tryd.results74, hh_i4]) ?_)))
theorem ship_tri (a b c : Int) (H : Hp) : PTri Tryd.prog (fnA 75) [i64 a, i64 b, i64 c] H (.agg [i64 a, i64 b, i64 c]) := by
  refine tri_vs (m := fun _ => false) Tryd.func75 (by kernel_rfl) rfl (by simp only [List.length_append, List.length_cons, List.length_nil, Tryd.ntmps75]; decide) ?_
  simp only [vsAll, cellA, cellsA, fillA, okParts, partsA, partsOk, opA, allocA, newCells, okCells, storeObj, dstOk, argFr, Nat.reduceAdd, Nat.reduceLT, Nat.reduceLeDiff, Nat.reduceEqDiff, ↓reduceIte, reduceCtorEq, eq_self, wtAll, Tryd.ntmps75]
  intro i4 hh_i4; (try simp only [Hp.set_none, ite_none] at hh_i4)
  refine ret0 ?_
  simp only [vsAll, loadA, loadRow, partA, partOk, resA, retA.eq_1, Nat.reduceLT, Nat.reduceEqDiff, ↓reduceIte, eq_self, wtAll, Tryd.results75]
  exact dropR_pure rfl (by (repeat (first | exact HSub_rfl | refine HSub_put_eq (by simp only [vsAll, binA, binLitA, intA, aggA, aggV, boolA, nilA2, isConst, unA, loadA, loadRow, partA, partOk, fieldAddrA, indexAddrA, indexA, fieldA, extractA, lenA, nilCheckA, boxA, boxZ, cellA, cellsA, fillA, okParts, buildSliceA, buildMutA, makeSliceA, partIdx, elemsA, lensA, ifaceA, convA, mmA, pickA, okAll, stAll, opsA, partsA, partsOk, opA, allocA, boxMutA, newCells, okCells, storeObj, appendA, guardV, taA, nM, mapUpA, lookA, sliceA, sliceS, boundsA, opO, okO, copyA, dstOk, nilA, quietOk, nilSliceOp, deferV, panA, resA, argFr, retA.eq_1, retA.eq_2, Nat.reduceAdd, Nat.reduceSub, Nat.reduceMul, Nat.reduceLT, Nat.reduceLeDiff, Nat.reduceEqDiff, Nat.reduceBEq, Int.reduceAdd, Int.reduceSub, Int.reduceMul, Int.reduceNeg, Int.reduceLE, Int.reduceLT, Int.reduceEq, Int.reduceNe, Int.reduceToNat, ↓reduceIte, reduceCtorEq, implies_true, forall_const, eq_self, ne_eq, wtAll, Tryd.ntmps75, Tryd.results75, hh_i4]) ?_ | refine HSub_drop2 (by simp only [eq_self, hh_i4]) ?_ | refine HSub_keep_eq (by simp only [vsAll, binA, binLitA, intA, aggA, aggV, boolA, nilA2, isConst, unA, loadA, loadRow, partA, partOk, fieldAddrA, indexAddrA, indexA, fieldA, extractA, lenA, nilCheckA, boxA, boxZ, cellA, cellsA, fillA, okParts, buildSliceA, buildMutA, makeSliceA, partIdx, elemsA, lensA, ifaceA, convA, mmA, pickA, okAll, stAll, opsA, partsA, partsOk, opA, allocA, boxMutA, newCells, okCells, storeObj, appendA, guardV, taA, nM, mapUpA, lookA, sliceA, sliceS, boundsA, opO, okO, copyA, dstOk, nilA, quietOk, nilSliceOp, deferV, panA, resA, argFr, retA.eq_1, retA.eq_2, Nat.reduceAdd, Nat.reduceSub, Nat.reduceMul, Nat.reduceLT, Nat.reduceLeDiff, Nat.reduceEqDiff, Nat.reduceBEq, Int.reduceAdd, Int.reduceSub, Int.reduceMul, Int.reduceNeg, Int.reduceLE, Int.reduceLT, Int.reduceEq, Int.reduceNe, Int.reduceToNat, ↓reduceIte, reduceCtorEq, implies_true, forall_const, eq_self, ne_eq, wtAll, Tryd.ntmps75, Tryd.results75, hh_i4]) ?_)))
/-- The slip S of the document's examples; third: N. -/
def smS (third : Bool) : Sl := ⟨[(5, 6), (4, 5), (6, 6), (3, 4), (5, 5), (5, 6), (2, 3), (6, 6)], if third = true then [⟨0, 5, 2⟩, ⟨0, 4, 2⟩, ⟨0, 6, 5⟩] else [⟨0, 5, 2⟩, ⟨0, 4, 2⟩]⟩
theorem ret_le {P : Program} {fv : AV} {args : List AV} {H : Hp} {v v' : AV} (h : PTri P fv args H v) (hle : AV.Le v v') : PTri P fv args H v' := by
  intro S vf vs hH hvf ha
  obtain ⟨nx, h1, h2⟩ := h S vf vs hH hvf ha
  have ho : ∀ e w, Out S (fun r H' => r = .ret v ∧ H' = H) e w → Out S (fun r H' => r = .ret v' ∧ H' = H) e w := by
    rintro e w ⟨S', r, H', hw, hl, hH', hrr, rfl, rfl⟩
    refine ⟨S', .ret v', H', hw, hl, hH', ?_, rfl, rfl⟩
    cases e with
    | returned cv => exact hle S' cv hrr
    | panicked ch => exact hrr.elim
    | outgrown => exact hrr.elim
  refine ⟨nx, h1, ?_⟩
  cases nx <;> simp only [NextOk] at h2 ⊢
  · exact Calls.mono h2 ho
  · exact h2.mono ho
abbrev smR : AV := .rsl 8 2 fun i => [[i64 5, i64 6], [i64 4, i64 5], [i64 6, i64 6], [i64 3, i64 4], [i64 5, i64 5], [i64 5, i64 6], [i64 2, i64 3], [i64 6, i64 6]].getD i []
theorem sample_tri (third : Bool) (H : Hp) : PTri Tryd.prog (fnA 30) [boo third] H (smS third).av := by
  refine ret_le (v := .agg [smR, shAV (smS third).sh]) (Tri.thawD (R1 := fun r H' => ∃ id g, H id = none ∧ (∀ i, i < (smS third).sh.length → g i = shF (smS third).sh i) ∧ r = .ret (.agg [smR, .sl id 3 (smS third).sh.length]) ∧ H' = H.set id (.row 3 (smS third).sh.length g)) ?_ ?_) ?_
  · refine Tri.drop ?_
    refine tri_v0 (mset [15]) Tryd.func30 (by kernel_rfl) rfl (by simp only [List.length_append, List.length_cons, List.length_nil, Tryd.ntmps30]; decide) ?_
    simp only [vsAll, okAll, stAll, opsA, opA, allocA, dstOk, Nat.reduceAdd, Nat.reduceLT, eq_self, wtAll, Tryd.ntmps30]
    intro i2 hh_i2; (try simp only [Hp.set_none, ite_none] at hh_i2)
    refine callK_pure (span_tri 5 6 _) ?_
    simp only [vsAll, okAll, stAll, opsA, opA, dstOk, Nat.reduceLT]
    refine callK_pure (span_tri 4 5 _) ?_
    simp only [vsAll, okAll, stAll, opsA, opA, dstOk, Nat.reduceLT]
    refine callK_pure (span_tri 6 6 _) ?_
    simp only [vsAll, okAll, stAll, opsA, opA, dstOk, Nat.reduceLT]
    refine callK_pure (span_tri 3 4 _) ?_
    simp only [vsAll, okAll, stAll, opsA, opA, dstOk, Nat.reduceLT]
    refine callK_pure (span_tri 5 5 _) ?_
    simp only [vsAll, okAll, stAll, opsA, opA, dstOk, Nat.reduceLT]
    refine callK_pure (span_tri 5 6 _) ?_
    simp only [vsAll, okAll, stAll, opsA, opA, dstOk, Nat.reduceLT]
    refine callK_pure (span_tri 2 3 _) ?_
    simp only [vsAll, okAll, stAll, opsA, opA, dstOk, Nat.reduceLT]
    refine callK_pure (span_tri 6 6 _) ?_
    simp only [vsAll, cellsA, okParts, buildSliceA, partIdx, elemsA, lensA, okAll, stAll, opsA, partsA, partsOk, opA, dstOk, Nat.reduceAdd, Nat.reduceMul, Nat.reduceLT, Nat.reduceLeDiff, Nat.reduceEqDiff, Nat.reduceBEq, ↓reduceIte, eq_self, wtAll]
    refine callK_pure (ship_tri 0 5 2 _) ?_
    simp only [vsAll, okAll, stAll, opsA, opA, dstOk, Nat.reduceLT]
    refine callK_pure (ship_tri 0 4 2 _) ?_
    simp only [vsAll, cellA, cellsA, fillA, okParts, buildMutA, partIdx, elemsA, lensA, partsA, partsOk, opA, allocA, newCells, okCells, storeObj, dstOk, argFr, Nat.reduceAdd, Nat.reduceMul, Nat.reduceLT, Nat.reduceLeDiff, Nat.reduceEqDiff, Nat.reduceBEq, ↓reduceIte, reduceCtorEq, eq_self, wtAll]
    intro ir hh_ir; (try simp only [ite_none] at hh_ir); intro i3 hh_i3; (try simp only [ite_none] at hh_i3)
    cases third with
    | false =>
      refine condV (fun hc => by cases hc) (fun _ => ?_)
      simp only [vsAll, loadA, loadRow, partA, partOk, cellA, cellsA, opA, newCells, okCells, storeObj, dstOk, resA, retA.eq_1, Nat.reduceAdd, Nat.reduceLT, Nat.reduceEqDiff, ↓reduceIte, eq_self, wtAll, Tryd.results30, hh_ir, hh_i3]
      refine ⟨H.set ir (.row 3 2 fun i => [[i64 0, i64 5, i64 2], [i64 0, i64 4, i64 2]].getD i []), ?_, ir, _, by simp only [hh_ir], fun i hi => ?_, rfl, rfl⟩
      · (repeat (first | exact HSub_rfl | refine HSub_put_eq (by simp only [vsAll, ↓reduceIte, eq_self, hh_ir, hh_i3]) ?_ | refine HSub_drop2 (by simp only [eq_self, hh_i2, hh_ir, hh_i3]) ?_ | refine HSub_keep_eq (by simp only [vsAll, binA, binLitA, intA, aggA, aggV, boolA, nilA2, isConst, unA, loadA, loadRow, partA, partOk, fieldAddrA, indexAddrA, indexA, fieldA, extractA, lenA, nilCheckA, boxA, boxZ, cellA, cellsA, fillA, okParts, buildSliceA, buildMutA, makeSliceA, partIdx, elemsA, lensA, ifaceA, convA, mmA, pickA, okAll, stAll, opsA, partsA, partsOk, opA, allocA, boxMutA, newCells, okCells, storeObj, appendA, guardV, taA, nM, mapUpA, lookA, sliceA, sliceS, boundsA, opO, okO, copyA, dstOk, nilA, quietOk, nilSliceOp, deferV, panA, resA, argFr, retA.eq_1, retA.eq_2, Nat.reduceAdd, Nat.reduceSub, Nat.reduceMul, Nat.reduceLT, Nat.reduceLeDiff, Nat.reduceEqDiff, Nat.reduceBEq, Int.reduceAdd, Int.reduceSub, Int.reduceMul, Int.reduceNeg, Int.reduceLE, Int.reduceLT, Int.reduceEq, Int.reduceNe, Int.reduceToNat, ↓reduceIte, reduceCtorEq, implies_true, forall_const, eq_self, ne_eq, wtAll, Tryd.ntmps30, Tryd.results30, hh_i2, hh_ir, hh_i3]) ?_))
      · match i, hi with
        | 0, _ => rfl
        | 1, _ => rfl
    | true =>
      refine condV (fun _ => ?_) (fun hc => by cases hc)
      refine vs_draw2 [0, 0, 0, 0, 1, 2, 3] [([0, 1, 2, 3], [], 4), ([5], [], 6)] [] (by decide +kernel) ?_
      simp only [vsAll, loadA, loadRow, partA, partOk, fieldAddrA, opA, dstOk, Nat.reduceLT, Nat.reduceEqDiff, ↓reduceIte, eq_self, wtAll]
      refine qcall _ ⟨trivial, by simp only [vsAll, okAll, opsA, opA], ship_tri 0 6 5 _⟩ ?_
      simp only [vsAll, loadA, loadRow, partA, partOk, fieldAddrA, cellA, cellsA, okParts, buildSliceA, partIdx, elemsA, lensA, partsA, partsOk, opA, newCells, okCells, storeObj, appendA, dstOk, resA, retA.eq_1, Nat.reduceAdd, Nat.reduceMul, Nat.reduceLT, Nat.reduceLeDiff, Nat.reduceEqDiff, ↓reduceIte, eq_self, wtAll, Tryd.results30, hh_ir, hh_i3]
      refine ⟨fun i hi => ?_, H.set ir (.row 3 3 (appF 2 1 (fun i => [[i64 0, i64 5, i64 2], [i64 0, i64 4, i64 2]].getD i []) fun i => [[i64 0, i64 6, i64 5]].getD i [])), ?_, ir, _, by simp only [hh_ir], fun i hi => ?_, rfl, rfl⟩
      · have : i = 0 := by ((try clear hh_i2); (try clear hh_ir); (try clear hh_i3); omega)
        subst this
        simp only [vsAll, cellA, okCells, eq_self]
      · (repeat (first | exact HSub_rfl | refine HSub_put_eq (by simp only [vsAll, ↓reduceIte, eq_self, hh_ir, hh_i3]) ?_ | refine HSub_drop2 (by simp only [eq_self, hh_i2, hh_ir, hh_i3]) ?_ | refine HSub_keep_eq (by simp only [vsAll, binA, binLitA, intA, aggA, aggV, boolA, nilA2, isConst, unA, loadA, loadRow, partA, partOk, fieldAddrA, indexAddrA, indexA, fieldA, extractA, lenA, nilCheckA, boxA, boxZ, cellA, cellsA, fillA, okParts, buildSliceA, buildMutA, makeSliceA, partIdx, elemsA, lensA, ifaceA, convA, mmA, pickA, okAll, stAll, opsA, partsA, partsOk, opA, allocA, boxMutA, newCells, okCells, storeObj, appendA, guardV, taA, nM, mapUpA, lookA, sliceA, sliceS, boundsA, opO, okO, copyA, dstOk, nilA, quietOk, nilSliceOp, deferV, panA, resA, argFr, retA.eq_1, retA.eq_2, Nat.reduceAdd, Nat.reduceSub, Nat.reduceMul, Nat.reduceLT, Nat.reduceLeDiff, Nat.reduceEqDiff, Nat.reduceBEq, Int.reduceAdd, Int.reduceSub, Int.reduceMul, Int.reduceNeg, Int.reduceLE, Int.reduceLT, Int.reduceEq, Int.reduceNe, Int.reduceToNat, ↓reduceIte, reduceCtorEq, implies_true, forall_const, eq_self, ne_eq, wtAll, Tryd.ntmps30, Tryd.results30, hh_i2, hh_ir, hh_i3]) ?_))
      · match i, hi with
        | 0, _ => rfl
        | 1, _ => rfl
        | 2, _ => rfl
  · rintro r H' ⟨id, g, hid, hg, rfl, rfl⟩
    right
    refine ⟨_, .agg [smR, shAV (smS third).sh], id, 3, _, g, rfl, Hp.set_same _ _ _, ?_, rfl, set_del hid⟩
    refine .agg rfl fun k hk => ?_
    match k, hk with
    | 0, _ => exact .same _
    | 1, _ => exact .hit hg
  · refine AV.Le.aggD rfl fun j hj => ?_
    match j, hj with
    | 0, _ =>
      refine AV.Le.rsl fun i hi => ?_
      match i, hi with
      | 0, _ => rfl
      | 1, _ => rfl
      | 2, _ => rfl
      | 3, _ => rfl
      | 4, _ => rfl
      | 5, _ => rfl
      | 6, _ => rfl
      | 7, _ => rfl
    | 1, _ => exact AV.Le.refl _
end Go.Proofs.YtnmgegodkmgdeaaDoor
end
section
set_option linter.unusedVariables false
set_option linter.unusedSimpArgs false
set_option maxHeartbeats 4000000
set_option maxRecDepth 100000
namespace Go.Proofs.YtnmgegodkmgdeaaDoor
open Go.V
theorem sm_ok : Ok (smS false) ∧ Ok (smS true) := by decide +kernel
theorem sm1 : ((tideV (smS false) false 1 : Nat) : Int) = 47 ∧ tideE (smS false) 1 = 0 := by decide +kernel
theorem sm2 : ((checkW (smS false) false [0, 1] : Nat) : Int) = 1 ∧ checkR (smS false) false [0, 1] = 3 ∧ checkE (smS false) false [0, 1] = 0 := by decide +kernel
theorem sm3 : ((cntV (smS false) false : Nat) : Int) = 9 ∧ cntE (smS false) = 0 := by decide +kernel
theorem sm4 : bestV (wm (smS false)) (smS false) true = 2 ∧ bestP (wm (smS false)) (smS false) true = [0, 2] ∧ rgtE (smS false) true = 0 := by decide +kernel
theorem sm5 : bestV (ws (smS false)) (smS false) true = 2 ∧ bestP (ws (smS false)) (smS false) true = [0, 2] := by decide +kernel
theorem sm6 : favV (smS false) true 1 = 2 ∧ favE (smS false) true 1 = 0 := by decide +kernel
theorem sm7 : ((dropV (smS true) true : Nat) : Int) = 1 ∧ cntE (smS true) = 0 := by decide +kernel
theorem bestA_ok {f : List Int → Int} {s : Sl} {u : Bool} (h : rgtE s u = 0) : bestA f s u = intsAV (bestP f s u) := if_pos h
theorem two_le (a b : Int) : AV.Le (.rsl 2 1 fun i => [[i64 a], [i64 b]].getD i []) (intsAV [a, b]) := AV.Le.rsl fun i hi => by
  match i, hi with
  | 0, _ => rfl
  | 1, _ => rfl
theorem check2 (s : Sl) (a b : Int) (u : Bool) (H : Hp) (kn : Near s) : PTri Tryd.prog (fnA 17) [s.av, .rsl 2 1 fun i => [[i64 a], [i64 b]].getD i [], boo u] H (.tuple [i64 (checkW s u [a, b] : Nat), i64 (checkR s u [a, b]), i64 (checkE s u [a, b])]) :=
  Tri.args (wcheck_tri s [a, b] u H kn (by simp)) rfl fun k hk => by
    match k, hk with
    | 0, _ => exact AV.Le.refl _
    | 1, _ => exact two_le a b
    | 2, _ => exact AV.Le.refl _
theorem lints_tri (a b : List Int) (H : Hp) (ha : a.length < 2 ^ 60) (hb : b.length < 2 ^ 60) : PTri Tryd.prog (fnA 29) [intsAV a, intsAV b] H (boo (decide (a = b))) := by
  refine tri_v0 (fun _ => false) Tryd.func29 (by kernel_rfl) rfl (by simp only [List.length_append, List.length_cons, List.length_nil, Tryd.ntmps29]; decide) ?_
  simp only [vsAll, okAll, stAll, opsA, opA, dstOk, nilSliceOp, argFr, Nat.reduceLT, Nat.reduceEqDiff, ↓reduceIte, reduceCtorEq, eq_self, Tryd.ntmps29]
  refine callK_pure (ints_tri a b _ ha hb) ?_
  simp only [vsAll, opA, dstOk, nilSliceOp, resA, retA.eq_1, Nat.reduceLT, ↓reduceIte, eq_self, Tryd.results29]
theorem lints2 (l : List Int) (a b : Int) (H : Hp) (ha : l.length < 2 ^ 60) : PTri Tryd.prog (fnA 29) [intsAV l, .rsl 2 1 fun i => [[i64 a], [i64 b]].getD i []] H (boo (decide (l = [a, b]))) :=
  Tri.args (lints_tri l [a, b] H ha (by simp)) rfl fun k hk => by
    match k, hk with
    | 0, _ => exact AV.Le.refl _
    | 1, _ => exact two_le a b
theorem alive_tri (H : Hp) : PTri Tryd.prog (fnA 14) [] H (boo true) := by
  have k := sm_ok.1.near
  have k1 := sm_ok.2.near
  refine tri_v0 (fun _ => false) Tryd.func14 (by kernel_rfl) rfl (by simp only [List.length_append, List.length_nil, Tryd.ntmps14]; decide) ?_
  simp only [vsAll, okAll, stAll, opsA, opA, dstOk, nilSliceOp, Nat.reduceLT, eq_self, Tryd.ntmps14]
  refine callK_pure (sample_tri false _) ?_
  simp only [vsAll, okAll, stAll, opsA, opA, dstOk, Nat.reduceLT, ↓reduceIte, eq_self]
  refine callK_pure (wtides_tri (smS false) 1 false _ k) ?_
  simp only [vsAll, extractA, okAll, stAll, opsA, opA, dstOk, nilSliceOp, Nat.reduceAdd, Nat.reduceLT, Nat.reduceEqDiff, ↓reduceIte, eq_self, sm1]
  refine callK_pure (sample_tri false _) ?_
  simp only [vsAll, cellA, cellsA, okParts, buildSliceA, partIdx, elemsA, lensA, okAll, stAll, opsA, partsA, partsOk, opA, dstOk, Nat.reduceAdd, Nat.reduceMul, Nat.reduceLT, Nat.reduceLeDiff, Nat.reduceEqDiff, ↓reduceIte, eq_self, wtAll]
  refine callK_pure (check2 (smS false) 0 1 false _ k) ?_
  simp only [vsAll, extractA, okAll, stAll, opsA, opA, dstOk, nilSliceOp, Nat.reduceAdd, Nat.reduceLT, Nat.reduceEqDiff, ↓reduceIte, eq_self, sm2]
  refine callK_pure (sample_tri false _) ?_
  simp only [vsAll, okAll, stAll, opsA, opA, dstOk, Nat.reduceLT, ↓reduceIte, eq_self]
  refine callK_pure (pcount_tri (smS false) false _ k) ?_
  simp only [vsAll, extractA, okAll, stAll, opsA, opA, dstOk, nilSliceOp, Nat.reduceAdd, Nat.reduceLT, Nat.reduceEqDiff, ↓reduceIte, eq_self, sm3]
  refine callK_pure (sample_tri false _) ?_
  simp only [vsAll, okAll, stAll, opsA, opA, dstOk, Nat.reduceLT, ↓reduceIte, eq_self]
  refine callK_pure (pbest_tri (smS false) true _ k) ?_
  rw [bestA_ok sm4.2.2]
  simp only [vsAll, extractA, okAll, stAll, opsA, opA, dstOk, nilSliceOp, Nat.reduceAdd, Nat.reduceLT, Nat.reduceEqDiff, ↓reduceIte, eq_self, sm4]
  refine callK_pure (sample_tri false _) ?_
  simp only [vsAll, okAll, stAll, opsA, opA, dstOk, Nat.reduceLT, ↓reduceIte, eq_self]
  refine callK_pure (ptotal_tri (smS false) true _ k) ?_
  rw [bestA_ok sm4.2.2]
  simp only [vsAll, extractA, okAll, stAll, opsA, opA, dstOk, nilSliceOp, Nat.reduceAdd, Nat.reduceLT, Nat.reduceEqDiff, ↓reduceIte, eq_self, sm4, sm5]
  refine callK_pure (sample_tri false _) ?_
  simp only [vsAll, okAll, stAll, opsA, opA, dstOk, Nat.reduceLT, ↓reduceIte, eq_self]
  refine callK_pure (pfavour_tri (smS false) 1 true _ k) ?_
  simp only [vsAll, extractA, okAll, stAll, opsA, opA, dstOk, nilSliceOp, Nat.reduceAdd, Nat.reduceLT, Nat.reduceEqDiff, ↓reduceIte, eq_self, sm6]
  refine callK_pure (sample_tri true _) ?_
  simp only [vsAll, okAll, stAll, opsA, opA, dstOk, Nat.reduceLT, ↓reduceIte, eq_self]
  refine callK_pure (pdrop_tri (smS true) true _ k1) ?_
  simp only [vsAll, binA, binLitA, intA, extractA, cellA, cellsA, okParts, buildSliceA, partIdx, elemsA, lensA, pickA, partsA, partsOk, opA, guardV, dstOk, nilSliceOp, Nat.reduceAdd, Nat.reduceMul, Nat.reduceLT, Nat.reduceLeDiff, Nat.reduceEqDiff, ↓reduceIte, implies_true, eq_self, wtAll, sm7, List.append_eq]
  refine gcall (boo true) (fun hg => ⟨trivial, by simp only [vsAll, okAll, opsA, opA, Nat.reduceEqDiff, ↓reduceIte, eq_self], lints2 [0, 2] 0 2 _ (by decide)⟩) ?_
  simp only [vsAll, binA, binLitA, intA, cellA, cellsA, okParts, buildSliceA, partIdx, elemsA, lensA, pickA, partsA, partsOk, opA, guardV, dstOk, Nat.reduceAdd, Nat.reduceMul, Nat.reduceLT, Nat.reduceLeDiff, Nat.reduceEqDiff, ↓reduceIte, implies_true, eq_self, wtAll]
  refine gcall (boo true) (fun hg => ⟨trivial, by simp only [vsAll, okAll, opsA, opA, Nat.reduceEqDiff, ↓reduceIte, eq_self], lints2 [0, 2] 0 2 _ (by decide)⟩) ?_
  simp only [vsAll, binA, binLitA, intA, pickA, opA, guardV, dstOk, nilSliceOp, resA, retA.eq_1, Nat.reduceLT, Nat.reduceEqDiff, ↓reduceIte, implies_true, eq_self, Tryd.results14]
end Go.Proofs.YtnmgegodkmgdeaaDoor
end
section
set_option linter.unusedVariables false
set_option linter.unusedSimpArgs false
set_option maxHeartbeats 4000000
set_option maxRecDepth 100000
namespace Go.Proofs.YtnmgegodkmgdeaaDoor
open Go.V
def byF (b : Nat → Int) : Nat → List AV := fun i => [u8 (b i)]
theorem byF_at (b : Nat → Int) (i : Nat) : byF b i = [u8 (b i)] := rfl
/-- A list of as many tides as there are ships. -/
structure PlanM (s : Sl) (l : List Int) : Prop where
  len : l.length = s.sh.length
  b : ∀ z ∈ l, 0 ≤ z ∧ z ≤ 15
theorem PlanM.at {s : Sl} {l : List Int} (h : PlanM s l) (i : Nat) : 0 ≤ l.getD i 0 ∧ l.getD i 0 ≤ 15 := by
  by_cases hi : i < l.length
  · exact h.b _ (mem_getD l i 0 hi)
  · rw [List.getD_eq_getElem?_getD, List.getElem?_eq_none (by omega)]; decide
theorem PlanM.set {s : Sl} {l : List Int} (h : PlanM s l) (i : Nat) {z : Int} (hz : 0 ≤ z ∧ z ≤ 15) : PlanM s (l.set i z) := by
  refine ⟨by rw [List.length_set, h.len], fun x hx => ?_⟩
  rcases List.mem_or_eq_of_mem_set hx with h1 | rfl
  · exact h.b x h1
  · exact hz
theorem PlanM.planB {s : Sl} {l : List Int} (h : PlanM s l) : planB s l = true := by
  unfold YtnmgegodkmgdeaaDoor.planB
  rw [Bool.and_eq_true, List.all_eq_true, decide_eq_true_eq]
  refine ⟨fun z hz => ?_, h.len⟩
  have := h.b z hz
  rw [Bool.and_eq_true, decide_eq_true_eq, decide_eq_true_eq]
  omega
def madeR (s : Sl) (H : Hp) : Res → Hp → Prop := fun r H' => H' = H ∧ ∃ l, PlanM s l ∧ r = .ret (intsAV l)
theorem upd_at {n i : Nat} {f : Nat → List AV} {c : List AV} (hi : i < n) : ∀ q, q < n → updF n i f c q = if q = i then c else f q := by
  intro q hq
  unfold updF
  split
  · rw [if_pos (by omega)]
  · rfl
theorem row_set (l : List Int) (i : Nat) (z : Int) (hi : i < l.length) : Obj.Le (.row 1 l.length (updF l.length i (intF l) [i64 z])) (.row 1 (l.set i z).length (intF (l.set i z))) := by
  rw [List.length_set]
  refine row_ext fun q hq => ?_
  rw [upd_at hi q hq]
  simp only [intF]
  by_cases e : q = i
  · subst e; simp [List.getD_eq_getElem?_getD, hi]
  · simp [List.getD_eq_getElem?_getD, e, Ne.symm e]
def knL (hs : List (Int × Int)) (B : Nat) : Nat → List (Int × Int)
  | 0 => []
  | i + 1 => knL hs B i ++ [(if B.testBit (i % 16) = true then (hs.getD i (0, 0)).2 else (hs.getD i (0, 0)).1, if B.testBit (i % 16) = true then (hs.getD i (0, 0)).2 else (hs.getD i (0, 0)).1)]
def knS (s : Sl) (B : Nat) : Sl := { s with hs := knL s.hs B s.hs.length }
end Go.Proofs.YtnmgegodkmgdeaaDoor
end
section
set_option linter.unusedVariables false
set_option linter.unusedSimpArgs false
set_option maxRecDepth 100000
namespace Go.Proofs.YtnmgegodkmgdeaaDoor
open Go.V Go.ChangeShapes Go.WideShapes Go.ChangeAt Go.RowKit
theorem slip_cells : cellsT Tryd.prog 9 25 = some [.sl [.int .i64, .int .i64], .sl [.int .i64, .int .i64, .int .i64]] := by kernel_rfl
theorem spans_of {av : AV} (h : CKA (.sl [.int .i64, .int .i64]) av) : ∃ l : List (Int × Int), l.length ≤ maxLen ∧ AV.Le av (spAV l) := by
  obtain ⟨l, h1, h2⟩ := told_slice (α := Int × Int) (fun z => [i64 z.1, i64 z.2]) (0, 0) (fun cs hcs => by
    obtain ⟨a, ha, _⟩ := told_int 0 hcs rfl
    obtain ⟨b, hb, _⟩ := told_int 1 hcs rfl
    exact ⟨(a, b), rfl, fun j hj => by
      match j, hj with
      | 0, _ => rw [ha]; exact AV.Le.refl _
      | 1, _ => rw [hb]; exact AV.Le.refl _⟩) h
  exact ⟨l, h1, h2⟩
theorem ships_of {av : AV} (h : CKA (.sl [.int .i64, .int .i64, .int .i64]) av) : ∃ l : List Sh, l.length ≤ maxLen ∧ AV.Le av (shAV l) := by
  obtain ⟨l, h1, h2⟩ := told_slice (α := Sh) Sh.cs sh0 (fun cs hcs => by
    obtain ⟨a, ha, _⟩ := told_int 0 hcs rfl
    obtain ⟨b, hb, _⟩ := told_int 1 hcs rfl
    obtain ⟨c, hc, _⟩ := told_int 2 hcs rfl
    exact ⟨⟨a, b, c⟩, rfl, fun j hj => by
      match j, hj with
      | 0, _ => rw [ha]; exact AV.Le.refl _
      | 1, _ => rw [hb]; exact AV.Le.refl _
      | 2, _ => rw [hc]; exact AV.Le.refl _⟩) h
  exact ⟨l, h1, h2⟩
theorem slip_rel {H : Type} {enc : TypeId × Value → H} {W : World} {sp : Nat → Bool} {held : Bool} {v : Value} {d : DataW H} {ps : List MemPlace}
    {base : Nat} (hv : Value.okWide Tryd.prog W .any base 25 v) (h : DataW.Trod enc Tryd.prog W 0 sp held 25 v d ps) : ∃ s : Sl, (s.hs.length < 2 ^ 63 ∧ s.sh.length < 2 ^ 63) ∧ VRel (st0 W) s.av v := by
  obtain ⟨cs, hcs, hv⟩ := trod_agg slip_cells (by decide) h
  obtain ⟨hs, l1, h1⟩ := spans_of (hcs.2 0 _ rfl)
  obtain ⟨sh, l2, h2⟩ := ships_of (hcs.2 1 _ rfl)
  have hm : maxLen < 2 ^ 63 := by decide
  refine ⟨⟨hs, sh⟩, ⟨by show hs.length < _; omega, by show sh.length < _; omega⟩, AV.Le.aggD (cs := cs) hcs.1.symm (fun j hj => ?_) _ _ hv⟩
  have hj2 : j < 2 := by have := hcs.1; simp at this; omega
  match j, hj2 with
  | 0, _ => exact h1
  | 1, _ => exact h2

abbrev lSlip : List (String × DataW Unit) := [("math/bits.deBruijn32tab", Rows.laid_math_bits_deBruijn32tab), ("math/bits.deBruijn64tab", Rows.laid_math_bits_deBruijn64tab)]
theorem Tryd.tab : Tryd.prog.globalNamed "math/bits.deBruijn64tab" = some 1 := by kernel_rfl
theorem Tryd.tabT : (Tryd.prog.globals[1]?).map (·.type) = some 131 := by kernel_rfl
theorem u131 : Tryd.prog.underlying 131 = some (.array 64 5) := by kernel_rfl
theorem u5 : Tryd.prog.underlying 5 = some (.int .u8) := by kernel_rfl
theorem c5 : Tryd.prog.cellsOf 5 = 1 := by kernel_rfl
theorem c131 : Tryd.prog.cellsOf 131 = 64 := by kernel_rfl
theorem lit_of_trod {H : Type} {enc : TypeId × Value → H} {P : Program} {w : World} {base : Nat} {sp : Nat → Bool} {held : Bool} {fuel : Nat} {t : TypeId} {k : IntKind} {c : Value} {y : DataW H × List MemPlace}
    (ht : P.underlying t = some (.int k)) (h : DataW.trod enc P w base sp held fuel t [c] = some y) : ∃ n, c = .int k n ∧ y = (.lit (.int k n), []) := by
  cases fuel with
  | zero => simp [DataW.trod] at h
  | succ fuel =>
    cases c <;> simp [DataW.trod, ht] at h
    rename_i k' n
    obtain ⟨⟨rfl, _⟩, rfl⟩ := h
    exact ⟨n, rfl, rfl⟩
theorem laid_tab : (Rows.laid_math_bits_deBruijn64tab : DataW Unit) = .agg (Lib.deBruijn64tab.map fun n : Nat => .lit (.int .u8 (n : Int))) := by kernel_rfl
theorem tab_len : Lib.deBruijn64tab.length = 64 := by kernel_rfl
/-- What the condition gives: the table's cells. -/
theorem tab_of_laid {W : World} (h : laidMetH Tryd.prog lSlip W) : ∃ (c : Array Value) (t : TypeId) (fz : Nat × Nat), W.heap[1]? = some (.cells c t fz) ∧ c.size = 64 ∧ ∀ i, i < 64 → c.getD i undef = .int .u8 ((Lib.deBruijn64tab.getD i 0 : Nat) : Int) := by
  have h' : laidMet Tryd.prog lSlip W := h
  obtain ⟨ps, ⟨g0, t0, cs0, fuel0, p0, q0, _, _, _, _, hrest, _⟩, _⟩ := h'
  obtain ⟨g, t, cs, fuel, p, q, hg, ht, hvar, hd, _, _⟩ := hrest
  obtain rfl := Option.some.inj (Tryd.tab.symm.trans hg)
  obtain rfl := Option.some.inj (Tryd.tabT.symm.trans ht)
  have hb : ∃ t fz, W.heap[1]? = some (.cells cs t fz) := by
    simp only [World.var?, Tryd.tab, Option.bind_some] at hvar
    split at hvar
    · rename_i c t fr hb
      simp only [Option.some.injEq] at hvar
      subst hvar
      exact ⟨_, _, hb⟩
    · cases hvar
  obtain ⟨t, fz, hb⟩ := hb
  refine ⟨cs, t, fz, hb, ?_⟩
  cases fuel with
  | zero => simp [DataW.trod] at hd
  | succ fuel =>
    simp only [DataW.trod, u131, c131, c5] at hd
    split at hd
    · rename_i hl
      have hsz : cs.size = 64 := by simpa using hl
      refine ⟨hsz, fun i hi => ?_⟩
      simp only [Option.map_eq_some_iff] at hd
      obtain ⟨xs, hxs, he⟩ := hd
      obtain ⟨h1, h2⟩ := mapM_get _ _ hxs
      obtain ⟨y, hy, hf⟩ := h2 i i (by simp [hi])
      have hone : (List.drop (i * 1) cs.toList).take 1 = [cs.getD i undef] := by
        rw [Nat.mul_one]
        have : i < cs.toList.length := by rw [hl]; exact hi
        rw [List.drop_eq_getElem_cons this]
        simp [Array.getD_eq_getD_getElem?, show i < cs.size by omega]
      rw [hone] at hf
      obtain ⟨n, hn, rfl⟩ := lit_of_trod u5 hf
      rw [hn]
      rw [laid_tab] at he
      simp only [Prod.mk.injEq, DataW.agg.injEq] at he
      have h3 := congrArg (fun l => l[i]?) he.1
      have hti : i < Lib.deBruijn64tab.length := by rw [tab_len]; exact hi
      simp only [List.getElem?_map, hy, Option.map_some, List.getElem?_eq_getElem hti, Option.some.injEq, DataW.lit.injEq, Lit.int.injEq, true_and] at h3
      rw [h3]
      congr 2
      rw [List.getD_eq_getElem?_getD, List.getElem?_eq_getElem hti]; rfl
    · cases hd
theorem giv_of_laid {W : World} (h : laidMetH Tryd.prog lSlip W) : ∀ p ∈ (default : GivT).l, VRel (st0 W) p.1 p.2 := by
  intro p hp
  have hp' : p ∈ [((.rptr 64 1 tabF 0 0 : AV), Value.pointer (some ⟨1, 0, none⟩))] := hp
  rw [List.mem_singleton] at hp'
  subst hp'
  obtain ⟨c, t, fz, hb, hsz, hc⟩ := tab_of_laid h
  have := VRel.rptr (S := st0 W) (n := 64) (st := 1) (f := tabF) (i := 0) (j := 0) (b := 1) (off := 0) (c := c) (e := t) (fz := fz) (lt_of_heap hb) hb (by omega) (fun i hi => rfl) (fun i j hi hj => by
    have : j = 0 := by omega
    subst this
    rw [Nat.mul_one, Nat.zero_add, Nat.add_zero, hc i hi]
    exact .lit _)
  exact this
def cells32 : Array Value := #[0, 1, 28, 2, 29, 14, 24, 3, 30, 22, 20, 15, 25, 17, 4, 8, 31, 27, 13, 23, 21, 19, 16, 7, 26, 12, 18, 6, 11, 5, 10, 9].map fun n : Nat => Value.int .u8 (n : Int)
def cells64 : Array Value := (Lib.deBruijn64tab.map fun n : Nat => Value.int .u8 (n : Int)).toArray
noncomputable def laidWorld (os : Os) : World :=
  let w0 := World.holding Tryd.prog os ⟨#[], #[], []⟩
  let h0 := w0.heap.modify 0 fun
      | .cells _ t frozen => .cells cells32 t frozen
      | o => o
  let h1 := h0.modify 1 fun
      | .cells _ t frozen => .cells cells64 t frozen
      | o => o
  { w0 with heap := h1 }
theorem laidWorld_met (os : Os) (args : Array Value) : laidMetH Tryd.prog lSlip ((laidWorld os).forCall (fun _ _ => 0) ⟨#[], args, []⟩).memory := by
  show laidMet Tryd.prog lSlip _
  exact laidMet_of_run' 8 (by kernel_rfl) (by kernel_rfl)
theorem Tryd.own : ownKnob Tryd.prog.godebug = none := by kernel_rfl
theorem u4 : Tryd.prog.underlying 4 = some .bool := by kernel_rfl
theorem u42 : Tryd.prog.underlying 42 = some (.slice 5) := by kernel_rfl
def iz : Value → Int
  | .int _ n => n
  | _ => 0
theorem by_rel {H : Type} {enc : TypeId × Value → H} {W : World} {sp : Nat → Bool} {held : Bool} {v : Value} {d : DataW H} {ps : List MemPlace} {base : Nat}
    (hv : Value.okWide Tryd.prog W .any base 42 v) (h : DataW.Trod enc Tryd.prog W 0 sp held 42 v d ps) : ∃ (N : Nat) (b : Nat → Int), (N < 2 ^ 63 ∧ ∀ i, i < N → 0 ≤ b i ∧ b i ≤ 255) ∧ VRel (st0 W) (.rsl N 1 (byF b)) v := by
  obtain ⟨a, len, cap, rfl⟩ := okWide_slice u42 hv
  obtain ⟨fuel, h⟩ := h
  obtain ⟨n, g, hn, hl, hr⟩ := trod_slice_rel (d := 4) (e := 5) (ks := [.int .u8]) u42 (by decide +kernel) (by decide +kernel) (by decide) (show DataW.trod enc Tryd.prog W 0 sp held fuel 42 [.slice a len cap] = some (d, ps) from h)
  have key : ∀ i, i < n → ∃ z : Int, g i = [.int .u8 z] ∧ 0 ≤ z ∧ z ≤ 255 := fun i hi => by
    obtain ⟨h1, h2⟩ := hl i hi
    match hg : g i, h1 with
    | [x], _ =>
      obtain ⟨z, rfl, hz⟩ := h2 0 (.int .u8) x rfl (by rw [hg]; rfl)
      refine ⟨z, rfl, ?_⟩
      simp [Lit.wf, IntKind.min, IntKind.max, IntKind.signed, IntKind.bits] at hz
      omega
  have hm : maxLen < 2 ^ 63 := by decide
  refine ⟨n, fun i => iz ((g i).getD 0 undef), ⟨by omega, fun i hi => ?_⟩, AV.Le.rsl (fun i hi => ?_) _ _ hr⟩
  · obtain ⟨z, e, hz⟩ := key i hi
    simp only [e]; exact hz
  · obtain ⟨z, e, hz⟩ := key i hi
    simp only [e]; simp only [byF, e]; rfl
end Go.Proofs.YtnmgegodkmgdeaaDoor
end
section
set_option linter.unusedVariables false
set_option linter.unusedSimpArgs false
namespace Go.Proofs.YtnmgegodkmgdeaaDoor
open Go.V
/-- By other heights, or otherwise, a ship can come on whenever she could. -/
structure More (s s' : Sl) (u u' : Bool) : Prop where
  n : s'.sh.length = s.sh.length
  td : ∀ i, i < s.sh.length → (s'.sh.getD i sh0).td = (s.sh.getD i sh0).td
  al : ∀ i t, i < s.sh.length → alR s u i t = 0 → alR s' u' i t = 0
theorem More.pr {s s' : Sl} {u u' : Bool} (m : More s s' u u') {S : Nat} {l : List Int} (h : PR s u S l) : PR s' u' S l := by
  refine ⟨fun i hi hb => m.al i _ (by rw [← m.n]; exact hi) (h.on i (by rw [← m.n]; exact hi) hb), fun i j hi hj hb hb' => ?_⟩
  rw [m.n] at hi
  have := h.two i j hi hj hb hb'
  rw [ovB_no] at this ⊢
  rw [m.td i hi, m.td j (by omega)]
  exact this
theorem More.rt {s s' : Sl} {u u' : Bool} (m : More s s' u u') {l : List Int} (h : rtB s u l = true) : rtB s' u' l = true := by
  rw [rtB_PR] at h ⊢
  exact m.pr h
theorem More.mem {s s' : Sl} {u u' : Bool} (m : More s s' u u') (k : Ok s) (k' : Ok s') {l : List Int} (h : l ∈ rpl s u) : l ∈ rpl s' u' := by
  rw [mem_rpl k] at h
  rw [mem_rpl k', m.n]
  exact ⟨h.1, m.rt h.2⟩
theorem More.cnt {s s' : Sl} {u u' : Bool} (m : More s s' u u') (k : Ok s) (k' : Ok s') : (rpl s u).length ≤ (rpl s' u').length := by
  rw [rpl_box k, rpl_box k', m.n, ← List.countP_eq_length_filter, ← List.countP_eq_length_filter]
  exact List.countP_mono_left fun l _ h => m.rt h
theorem tideE_ok {s : Sl} (k : Ok s) {i : Nat} (hi : i < s.sh.length) : tideE s (i : Int) = 0 := by
  unfold tideE
  rw [show shipB s (i : Int) = true from (shipB_iff s _).2 ⟨by omega, by omega⟩]
  exact errE_ok k
theorem tideV_ok {s : Sl} (k : Ok s) (u : Bool) {i : Nat} (hi : i < s.sh.length) : tideV s u (i : Int) = tdN s u i s.hs.length := by
  rw [tideV, if_pos (tideE_ok k hi), Int.toNat_natCast]
theorem tideV_bit {s : Sl} (k : Ok s) (u : Bool) {i : Nat} (hi : i < s.sh.length) (j : Nat) : (tideV s u (i : Int)).testBit j = true ↔ alR s u i j = 0 := by
  rw [tideV_ok k u hi, tdN_bit, Bool.and_eq_true, decide_eq_true_eq, decide_eq_true_eq]
  exact ⟨fun h => h.2, fun h => ⟨alR_high h, h⟩⟩
theorem More.tide {s s' : Sl} {u u' : Bool} (m : More s s' u u') (k : Ok s) (k' : Ok s') {i : Nat} (hi : i < s.sh.length) {j : Nat} (h : (tideV s u (i : Int)).testBit j = true) : (tideV s' u' (i : Int)).testBit j = true := by
  rw [tideV_bit k u hi] at h
  rw [tideV_bit k' u' (by rw [m.n]; exact hi)]
  exact m.al i j hi h
end Go.Proofs.YtnmgegodkmgdeaaDoor
end
section
set_option linter.unusedVariables false
set_option linter.unusedSimpArgs false
namespace Go.Proofs.YtnmgegodkmgdeaaDoor
open Go.V
/-- Does one list come before another one? -/
def befB (o l : List Int) : Bool := match (List.range l.length).find? fun i => !decide (o.getD i 0 = l.getD i 0) with
  | some i => decide (o.getD i 0 < l.getD i 0)
  | none => false
end Go.Proofs.YtnmgegodkmgdeaaDoor
end
section
set_option linter.unusedVariables false
set_option linter.unusedSimpArgs false
namespace Go.Proofs.YtnmgegodkmgdeaaDoor
open Go.V
/-- All other ships, from some tide on. -/
def fvL (s : Sl) (i : Nat) (T : Int) : Nat → List Sh
  | 0 => []
  | k + 1 => if k = i then fvL s i T k else fvL s i T k ++ [⟨max (s.sh.getD k sh0).fr T, (s.sh.getD k sh0).nd, (s.sh.getD k sh0).td⟩]
def fvS (s : Sl) (i : Nat) (T : Int) : Sl := { s with sh := fvL s i T s.sh.length }
section
variable {s : Sl} {u : Bool} {i : Nat} {T : Int}
/-- A plan of all others, with the ship before them. -/
def fvUp (s : Sl) (i : Nat) (t : Int) (l : List Int) : List Int := (List.range s.sh.length).map fun k => if k = i then t else l.getD ((idxL s.sh.length (2 ^ i)).idxOf k) 0
def fvDn (s : Sl) (i : Nat) (l : List Int) : List Int := (idxL s.sh.length (2 ^ i)).map fun k => l.getD k 0
end
end Go.Proofs.YtnmgegodkmgdeaaDoor
end
section
set_option linter.unusedVariables false
set_option linter.unusedSimpArgs false
namespace Go.Proofs.YtnmgegodkmgdeaaDoor
open Go.V
/-- How much later than their Froms. -/
def fvLt (s : Sl) (i : Nat) (T : Int) : Nat → Int
  | 0 => 0
  | k + 1 => if k = i then fvLt s i T k else max (fvLt s i T k) (T - (s.sh.getD k sh0).fr)
section
variable {s : Sl} {u : Bool} {i : Nat}
/-- Can all others have the slip behind her? -/
def fvG (s : Sl) (u : Bool) (i t : Nat) : Bool := decide (alR s u i t = 0) && decide (rgtE (fvS s i (t + (s.sh.getD i sh0).td)) u = 0)
def fvK (s : Sl) (u : Bool) (i t : Nat) : Int := max (bestV (wm (fvS s i (t + (s.sh.getD i sh0).td))) (fvS s i (t + (s.sh.getD i sh0).td)) u) (t - (s.sh.getD i sh0).fr)
def fvM (s : Sl) (u : Bool) (i : Nat) : Nat → Int × Bool
  | 0 => (0, false)
  | t + 1 => if (fvG s u i t && (!(fvM s u i t).2 || decide (fvK s u i t < (fvM s u i t).1))) = true then (fvK s u i t, true) else fvM s u i t
end
end Go.Proofs.YtnmgegodkmgdeaaDoor
end
section
set_option linter.unusedVariables false
set_option linter.unusedSimpArgs false
set_option maxHeartbeats 4000000
set_option maxRecDepth 100000
namespace Go.Proofs.YtnmgegodkmgdeaaDoor
open Go.V
/-- Is the longest wait as long as by the best plan, for some ship? -/
def fvP (s : Sl) (u : Bool) : Nat → Bool
  | 0 => decide (s.sh.length = 0)
  | i + 1 => fvP s u i || (decide (favE s u (i : Int) = 0) && decide (favV s u (i : Int) = bestV (wm s) s u))
end Go.Proofs.YtnmgegodkmgdeaaDoor
end
section
set_option linter.unusedVariables false
set_option linter.unusedSimpArgs false
namespace Go.Proofs.YtnmgegodkmgdeaaDoor
open Go.V
/-- A higher tide. -/
def mvH (s : Sl) (j : Nat) (n : Int) : Sl := { s with hs := s.hs.set j ((s.hs.getD j (0, 0)).1 + n, (s.hs.getD j (0, 0)).2 + n) }
/-- Another ship in her place. -/
def mvS (s : Sl) (i : Nat) (x : Sh) : Sl := { s with sh := s.sh.set i x }
theorem More.can {s s' : Sl} {u : Bool} (m : More s s' u u) (k : Ok s) (k' : Ok s') {S : Nat} (h : canB s u S = true) : canB s' u S = true := by
  rw [canB_iff k] at h
  rw [canB_iff k', m.n]
  obtain ⟨l, hl, hp⟩ := h
  exact ⟨l, hl, m.pr hp⟩
theorem More.drop {s s' : Sl} {u : Bool} (m : More s s' u u) (k : Ok s) (k' : Ok s') : pop (dropV s' u) ≤ pop (dropV s u) := by
  have h := drop_least k u
  have h' := drop_least k' u
  have := h'.le _ (by rw [m.n]; exact h.lt) (m.can k k' h.is)
  omega
end Go.Proofs.YtnmgegodkmgdeaaDoor
end
section
set_option linter.unusedVariables false
namespace Go.V
set_option linter.unusedSectionVars false
variable [Inhabited GivT]
section
variable {r : Option Nat} {P : Program} {m : Option Tmp → Bool} {n : Nat} {s : Fr} {ds : List AD} {H : Hp} {Q : Post} {σ : Type} (inv : σ → Prop) (fr : σ → List (Nat × AV)) (hp : σ → Hp) (dsf : σ → List AD)
theorem wps_cutG4 {a0 a1 a2 a3 b : Code} (h1 : VS r P m n [.code a0, .code a1, .code a2, .code a3] s ds H (CutG inv fr hp dsf Q)) (h2 : ∀ x, inv x → WPS r P n b (Fr.of (fr x)) (dsf x) (hp x) Q) : WPS r P n (.seq a0 (.seq a1 (.seq a2 (.seq a3 b)))) s ds H Q := by
  refine wps_seq ((vcC_sound a0 h1).mono fun x s' ds' H' hq => ?_)
  cases x with
  | normal => exact wps_cutG3 inv fr hp dsf hq h2
  | ret => exact hq
  | pan v => exact hq
  | exit i => exact hq
end
/-- A cut, where more is to be said first. -/
theorem cutG_ent {σ : Type} {inv : σ → Prop} {fr : σ → List (Nat × AV)} {hp : σ → Hp} {dsf : σ → List AD} {Q : Post} {s : Fr} {ds : List AD} {H : Hp} (h : Ent s ds H fun s ds H => CutG inv fr hp dsf Q .normal s ds H) : CutG inv fr hp dsf Q .normal s ds H := Ent.bind h fun _ _ _ h => h
end Go.V
end
section
set_option linter.unusedVariables false
set_option linter.unusedSimpArgs false
set_option maxHeartbeats 4000000
set_option maxRecDepth 100000
namespace Go.Proofs.YtnmgegodkmgdeaaDoor
open Go.V
/-- What is known behind the copying. -/
structure MoreA (s : Sl) (H : Hp) (y : Nat × Nat × Nat) : Prop where
  h1 : H y.1 = none
  h2 : H y.2.1 = none
  h3 : H y.2.2 = none
  n12 : ¬ y.1 = y.2.1
  n13 : ¬ y.1 = y.2.2
  n23 : ¬ y.2.1 = y.2.2
end Go.Proofs.YtnmgegodkmgdeaaDoor
end
section
set_option linter.unusedVariables false
set_option linter.unusedSimpArgs false
namespace Go.Proofs.YtnmgegodkmgdeaaDoor
open Go.V
/-- The first ones of a list, from behind. -/
def bkL {α : Type} (l : List α) (d : α) : Nat → List α
  | 0 => []
  | i + 1 => bkL l d i ++ [l.getD (l.length - 1 - i) d]
def bk {α : Type} (l : List α) (d : α) : List α := bkL l d l.length
def turnS (s : Sl) : Sl := { s with sh := bk s.sh sh0 }
section
variable {s : Sl} {u : Bool}
def smN (f : Nat → Int) : Nat → Int
  | 0 => 0
  | n + 1 => smN f n + f n
def zrL (s : Sl) : Nat → List Sh
  | 0 => []
  | i + 1 => zrL s i ++ [⟨0, (s.sh.getD i sh0).nd, (s.sh.getD i sh0).td⟩]
def zrS (s : Sl) : Sl := { s with sh := zrL s s.sh.length }
def rvS (s : Sl) : Sl := { s with hs := bk s.hs (0, 0) }
/-- When she comes on if all is turned round. -/
def rvP (s : Sl) (l : List Int) : List Int := (List.range s.sh.length).map fun i => (s.hs.length : Int) - 1 - (l.getD i 0 + (s.sh.getD i sh0).td)
end
end Go.Proofs.YtnmgegodkmgdeaaDoor
end
section
set_option linter.unusedVariables false
set_option linter.unusedSimpArgs false
set_option maxHeartbeats 4000000
set_option maxRecDepth 100000
namespace Go.Proofs.YtnmgegodkmgdeaaDoor
open Go.V
def bestMR (s : Sl) (u : Bool) (H : Hp) : Res → Hp → Prop := fun r H' => (¬ rgtE s u = 0 ∧ H' = H ∧ r = .ret (.tuple [i64 0, nilA, i64 (rgtE s u)])) ∨
  ∃ id, rgtE s u = 0 ∧ H id = none ∧ r = .ret (.tuple [i64 (bestV (wm s) s u), .sl id 1 (bestP (wm s) s u).length, i64 0]) ∧ H' = H.set id (.row 1 (bestP (wm s) s u).length (intF (bestP (wm s) s u)))
end Go.Proofs.YtnmgegodkmgdeaaDoor
end
section
set_option linter.unusedVariables false
set_option linter.unusedSimpArgs false
set_option maxHeartbeats 4000000
set_option maxRecDepth 100000
namespace Go.Proofs.YtnmgegodkmgdeaaDoor
open Go.V
/-- A row frozen in what the slots hold. -/
inductive FzL (id st n : Nat) (f : Nat → List AV) : List (Nat × AV) → List (Nat × AV) → Prop
  | nil : FzL id st n f [] []
  | same {t : Nat} {v : AV} {l l' : List (Nat × AV)} : FzL id st n f l l' → FzL id st n f ((t, v) :: l) ((t, v) :: l')
  | hit {t : Nat} {l l' : List (Nat × AV)} : FzL id st n f l l' → FzL id st n f ((t, .sl id st n) :: l) ((t, .rsl n st f) :: l')
theorem FzL.frz {id st n : Nat} {f : Nat → List AV} {l l' : List (Nat × AV)} (h : FzL id st n f l l') : ∀ t, Fr.of l' t = Fr.of l t ∨ (Fr.of l t = .sl id st n ∧ Fr.of l' t = .rsl n st f) := by
  intro t
  induction h with
  | nil => exact .inl rfl
  | same _ ih =>
    simp only [Fr.of]
    split
    · exact .inl rfl
    · exact ih
  | hit _ ih =>
    simp only [Fr.of]
    split
    · exact .inr ⟨rfl, rfl⟩
    · exact ih
theorem HSub_eqn {A B : Hp} (h : ∀ q, B q = none ∨ A q = B q) : Go.V.HSub A B := fun q o hq => by
  rcases h q with e | e
  · rw [e] at hq; cases hq
  · exact ⟨o, by rw [e]; exact hq, .refl _⟩
theorem FzL.refl {id st n : Nat} {f : Nat → List AV} : ∀ l : List (Nat × AV), FzL id st n f l l
  | [] => .nil
  | (t, v) :: l => .same (FzL.refl l)
def planE (s : Sl) (u : Bool) : List Int := if rgtE s u = 0 then bestP (wm s) s u else []
end Go.Proofs.YtnmgegodkmgdeaaDoor
end
section
set_option linter.unusedVariables false
set_option linter.unusedSimpArgs false
set_option maxHeartbeats 4000000
set_option maxRecDepth 100000
namespace Go.Proofs.YtnmgegodkmgdeaaDoor
open Go.V
def madeMR (s : Sl) (H : Hp) : Res → Hp → Prop := fun r H' => ∃ l id, PlanM s l ∧ H id = none ∧ r = .ret (.sl id 1 s.sh.length) ∧ H' = H.set id (.row 1 s.sh.length (intF l))
theorem madeM_tri (s : Sl) (u : Bool) (N : Nat) (b : Nat → Int) (H : Hp) (k : Ok s) (hN : N < 2 ^ 63) (hb : ∀ i, i < N → 0 ≤ b i ∧ b i ≤ 255) : Tri Tryd.prog (fnA 34) [s.av, boo u, .rsl N 1 (byF b)] H (madeMR s H) := by
  have nS := k.nS
  refine Tri.drop ?_
  refine tri_v0 (mset [16]) Tryd.func34 (by kernel_rfl) rfl (by simp only [List.length_append, List.length_cons, List.length_nil, Tryd.ntmps34]; decide) ?_
  simp only [vsAll, loadA, loadRow, partA, partOk, fieldAddrA, lenA, boxA, boxZ, makeSliceA, opA, dstOk, nilSliceOp, argFr, Nat.reduceAdd, Nat.reduceLT, Nat.reduceEqDiff, Nat.reduceBEq, ↓reduceIte, eq_self, wtAll, Tryd.ntmps34]
  refine ⟨by omega, by omega, by omega, ?_⟩
  intro il hh_il; (try simp only [Hp.set_none, ite_none] at hh_il)
  refine vs_loop (σ := Nat × List Int) (fun y => y.1 ≤ s.sh.length ∧ PlanM s y.2) (fun y => [(1, boo u), (2, .rsl N 1 (byF b)), (3, .rptr 1 2 (fun _ => s.cs) 0 0), (7, .sl il 1 s.sh.length), (18, i64 s.sh.length), (19, i64 y.1)])
    (fun y => H.set il (.row 1 s.sh.length (intF y.2))) (fun y => s.sh.length - y.1) (0, List.replicate s.sh.length 0) ⟨Nat.zero_le _, by simp, fun z hz => by rw [(List.mem_replicate.1 hz).2]; decide⟩ ?_ ?_ fun y hy => ?_
  · simp only [vsAll, argFr, Nat.reduceEqDiff, ↓reduceIte, eq_self, Int.natCast_zero]
  · refine HSub.set (HSub.refl _) (row_ext fun q hq => ?_)
    simp [intF, List.getD_eq_getElem?_getD, hq]
  · obtain ⟨i, l⟩ := y
    obtain ⟨hi, hl⟩ := hy
    simp only [] at hi hl
    have hll := hl.len
    simp only [vsAll, binA, binLitA, intA, opA, dstOk, Nat.reduceLT, Nat.reduceEqDiff, ↓reduceIte, eq_self]
    refine condD (fun hd => ?_) (fun hd => ?_)
    · have his : i < s.sh.length := by ((try clear hh_il); omega)
      simp only [vsAll, loadA, loadRow, partA, partOk, okAll, stAll, opsA, opA, dstOk, nilSliceOp, Nat.reduceLT, Nat.reduceEqDiff, Nat.reduceBEq, ↓reduceIte, eq_self, wtAll]
      refine callK_pure (wtides_tri s i u _ k.near) ?_
      have ht16 := tideV_lt k u (i : Int)
      generalize tideV s u (i : Int) = t at ht16 ⊢
      generalize tideE s (i : Int) = e
      simp only [vsAll, binA, binLitA, intA, extractA, lenA, pickA, opA, guardV, dstOk, nilSliceOp, Nat.reduceAdd, Nat.reduceLT, Nat.reduceEqDiff, Nat.reduceBEq, ↓reduceIte, implies_true, eq_self, wtAll]
      refine condV (fun hc => ?_) (fun hc => ?_)
      · simp only [vsAll, binA, binLitA, intA, opA, dstOk, Nat.reduceLT, Nat.reduceEqDiff, ↓reduceIte, eq_self]
        refine ⟨by simp only [InR_i64]; ((try clear hh_il); omega), loop_next (i + 1, l) ⟨by simp only []; ((try clear hh_il); omega), hl⟩ (by simp only []; ((try clear hh_il); omega)) ?_ HSub_rfl⟩
        simp only [vsAll, Nat.reduceEqDiff, ↓reduceIte, eq_self, Int.natCast_add, Int.natCast_one]
      · simp only [Bool.or_eq_false_iff, decide_eq_false_iff_not, Bool.not_eq_false'] at hc
        have hN0 : 0 < N := by ((try clear hh_il); omega)
        have ht0 : 0 < t := by ((try clear hh_il); omega)
        simp only [vsAll, binA, binLitA, intA, loadA, loadRow, partA, partOk, indexAddrA, lenA, convA, opA, dstOk, nilSliceOp, Nat.reduceLT, Nat.reduceEqDiff, Nat.reduceBEq, Int.reduceEq, ↓reduceIte, eq_self, ne_eq, wtAll, byF_at]
        have hr0 : 0 ≤ (i : Int).tmod N := Int.tmod_nonneg _ (by ((try clear hh_il); omega))
        have hr1 : (i : Int).tmod N < N := Int.tmod_lt_of_pos _ (by ((try clear hh_il); omega))
        generalize (i : Int).tmod N = r at hr0 hr1 ⊢
        have hbr := hb r.toNat (by ((try clear hh_il); omega))
        generalize b r.toNat = br at hbr ⊢
        refine ⟨by ((try clear hh_il); omega), ⟨hr0, hr1⟩, by ((try clear hh_il); omega), by simp only [InR_i64]; ((try clear hh_il); omega), ?_⟩
        have hq0 : 0 ≤ br.tmod 16 := Int.tmod_nonneg _ (by ((try clear hh_il); omega))
        have hq1 : br.tmod 16 < 16 := Int.tmod_lt_of_pos _ (by ((try clear hh_il); omega))
        generalize br.tmod 16 = q0 at hq0 hq1 ⊢
        refine vs_loop (σ := Int × List Int) (fun y => 0 ≤ y.1 ∧ y.1 ≤ 15 ∧ PlanM s y.2) (fun y => [(1, boo u), (2, .rsl N 1 (byF b)), (3, .rptr 1 2 (fun _ => s.cs) 0 0), (7, .sl il 1 s.sh.length), (18, i64 s.sh.length), (19, i64 i), (8, i64 i), (9, i64 (t : Nat)), (11, i64 y.1)])
          (fun y => H.set il (.row 1 s.sh.length (intF y.2))) (fun y => y.1.toNat) (q0, l) ⟨hq0, by simp only []; ((try clear hh_il); omega), hl⟩ ?_ HSub_rfl fun y hy => ?_
        · simp only [vsAll, Nat.reduceEqDiff, ↓reduceIte, eq_self]
        · obtain ⟨q, l2⟩ := y
          obtain ⟨hqa, hqb, hl2⟩ := hy
          simp only [] at hqa hqb hl2
          clear hq0 hq1
          simp only [vsAll, opA, dstOk, Nat.reduceLT, eq_self]
          refine vs_loop (σ := Nat × Int × List Int) (fun y => y.1 ≤ 16 ∧ 0 ≤ y.2.1 ∧ y.2.1 ≤ q ∧ PlanM s y.2.2) (fun y => [(1, boo u), (2, .rsl N 1 (byF b)), (3, .rptr 1 2 (fun _ => s.cs) 0 0), (7, .sl il 1 s.sh.length), (18, i64 s.sh.length), (19, i64 i), (8, i64 i), (9, i64 (t : Nat)), (11, i64 y.2.1), (49, i64 y.1)])
            (fun y => H.set il (.row 1 s.sh.length (intF y.2.2))) (fun y => 16 - y.1) (0, q, l2) ⟨by simp only []; ((try clear hh_il); omega), hqa, by simp only []; ((try clear hh_il); omega), hl2⟩ ?_ HSub_rfl fun y hy => ?_
          · simp only [vsAll, Nat.reduceEqDiff, ↓reduceIte, eq_self, Int.natCast_zero]
          · obtain ⟨n, q2, l3⟩ := y
            obtain ⟨hn, hq2a, hq2b, hl3⟩ := hy
            simp only [] at hn hq2a hq2b hl3
            have hll3 := hl3.len
            simp only [vsAll, binA, binLitA, intA, opA, dstOk, Nat.reduceLT, Nat.reduceEqDiff, ↓reduceIte, eq_self]
            refine condD (fun hd2 => ?_) (fun hd2 => ?_)
            · have hsh := shr_ok t n (2 ^ 16) ht16 (by ((try clear hh_il); omega))
              simp only [vsAll, binA, binLitA, intA, opA, dstOk, nilSliceOp, Nat.reduceLT, Nat.reduceEqDiff, Nat.reduceBEq, Int.reduceLE, Int.reduceToNat, ↓reduceIte, eq_self]
              refine ⟨⟨by ((try clear hh_il); omega), by ((try clear hh_il); omega), rfl⟩, ⟨hsh.1, by simp only [InR_i64]; ((try clear hh_il); omega), by simp only [InR_i64]; ((try clear hh_il); omega)⟩, condV (fun _ => ?_) (fun _ => ?_)⟩
              · have hset := row_set l3 i n (by ((try clear hh_il); omega))
                have hl4 := hl3.set i (z := (n : Int)) ⟨by ((try clear hh_il); omega), by ((try clear hh_il); omega)⟩
                have hll4 := hl4.len
                rw [hll4, hll3] at hset
                simp only [vsAll, binA, binLitA, intA, indexAddrA, cellA, cellsA, opA, newCells, okCells, storeObj, dstOk, Nat.reduceLT, Nat.reduceEqDiff, ↓reduceIte, eq_self, wtAll]
                refine ⟨⟨by ((try clear hh_il); omega), by ((try clear hh_il); omega)⟩, by ((try clear hh_il); omega), condD (fun hd3 => ?_) (fun hd3 => ?_)⟩
                · -- the tide is found: the inner round ends
                  simp only [vsAll, binA, binLitA, intA, opA, dstOk, Nat.reduceLT, Nat.reduceEqDiff, ↓reduceIte, eq_self]
                  refine condD (fun hd4 => ?_) (fun hd4 => absurd hd3 hd4)
                  simp only [vsAll, binA, binLitA, intA, opA, dstOk, Nat.reduceLT, Nat.reduceEqDiff, ↓reduceIte, eq_self]
                  refine ⟨by simp only [InR_i64]; ((try clear hh_il); omega), loop_next (i + 1, l3.set i n) ⟨by simp only []; ((try clear hh_il); omega), hl4⟩ (by simp only []; ((try clear hh_il); omega)) ?_ ?_⟩
                  · simp only [vsAll, Nat.reduceEqDiff, ↓reduceIte, eq_self, Int.natCast_add, Int.natCast_one]
                  · refine HSub.trans ?_ (HSub.set (HSub.refl H) hset)
                    rw [Hp.set_set]
                    exact HSub_rfl
                · simp only [vsAll, binA, binLitA, intA, opA, dstOk, nilSliceOp, Nat.reduceLT, Nat.reduceEqDiff, Nat.reduceBEq, ↓reduceIte, eq_self]
                  refine ⟨by simp only [InR_i64]; ((try clear hh_il); omega), by simp only [InR_i64]; ((try clear hh_il); omega), loop_next (n + 1, q2 - 1, l3.set i n) ⟨by simp only []; ((try clear hh_il); omega), by simp only []; ((try clear hh_il); omega), by simp only []; ((try clear hh_il); omega), hl4⟩ (by simp only []; ((try clear hh_il); omega)) ?_ ?_⟩
                  · simp only [vsAll, Nat.reduceEqDiff, ↓reduceIte, eq_self, Int.natCast_add, Int.natCast_one]
                  · refine HSub.trans ?_ (HSub.set (HSub.refl H) hset)
                    rw [Hp.set_set]
                    exact HSub_rfl
              · simp only [vsAll, binA, binLitA, intA, opA, dstOk, Nat.reduceLT, Nat.reduceEqDiff, ↓reduceIte, eq_self]
                refine ⟨by simp only [InR_i64]; ((try clear hh_il); omega), loop_next (n + 1, q2, l3) ⟨by simp only []; ((try clear hh_il); omega), by simp only []; ((try clear hh_il); omega), by simp only []; ((try clear hh_il); omega), hl3⟩ (by simp only []; ((try clear hh_il); omega)) ?_ HSub_rfl⟩
                simp only [vsAll, Nat.reduceEqDiff, ↓reduceIte, eq_self, Int.natCast_add, Int.natCast_one]
            · have en : n = 16 := by ((try clear hh_il); omega)
              simp only [vsAll, binA, binLitA, intA, opA, dstOk, Nat.reduceLT, Nat.reduceEqDiff, ↓reduceIte, eq_self]
              refine condD (fun hd3 => ?_) (fun hd3 => ?_)
              · simp only [vsAll, binA, binLitA, intA, opA, dstOk, Nat.reduceLT, Nat.reduceEqDiff, ↓reduceIte, eq_self]
                refine ⟨by simp only [InR_i64]; ((try clear hh_il); omega), loop_next (i + 1, l3) ⟨by simp only []; ((try clear hh_il); omega), hl3⟩ (by simp only []; ((try clear hh_il); omega)) ?_ HSub_rfl⟩
                simp only [vsAll, Nat.reduceEqDiff, ↓reduceIte, eq_self, Int.natCast_add, Int.natCast_one]
              · simp only [vsAll, binA, binLitA, intA, opA, dstOk, nilSliceOp, Nat.reduceLT, Nat.reduceEqDiff, Nat.reduceBEq, ↓reduceIte, eq_self]
                refine ⟨by simp only [InR_i64]; ((try clear hh_il); omega), loop_next (q2 - 1, l3) ⟨by simp only []; ((try clear hh_il); omega), by simp only []; ((try clear hh_il); omega), hl3⟩ (by simp only []; ((try clear hh_il); omega)) ?_ HSub_rfl⟩
                simp only [vsAll, Nat.reduceEqDiff, ↓reduceIte, eq_self]
    · have ei : i = s.sh.length := by ((try clear hh_il); omega)
      subst ei
      simp only [vsAll, opA, dstOk, nilSliceOp, resA, retA.eq_1, Nat.reduceLT, Nat.reduceEqDiff, Nat.reduceBEq, ↓reduceIte, eq_self, Tryd.results34]
      exact ⟨H.set il (.row 1 s.sh.length (intF l)), HSub_rfl, l, il, hl, hh_il, rfl, rfl⟩
end Go.Proofs.YtnmgegodkmgdeaaDoor
end
section
set_option linter.unusedVariables false
set_option linter.unusedSimpArgs false
namespace Go.V
set_option linter.unusedSectionVars false
variable [Inhabited GivT]
/-- The same value, with some leaves told otherwise, in rows too. -/
inductive FrzS (L : AV → AV → Prop) : AV → AV → Prop
  | same (x : AV) : FrzS L x x
  | leaf {x y : AV} (h : L x y) : FrzS L x y
  | agg {cs cs' : List AV} (hl : cs'.length = cs.length) (h : ∀ k, k < cs.length → FrzS L (cs.getD k .any) (cs'.getD k .any)) : FrzS L (.agg cs) (.agg cs')
  | rsl {n st : Nat} {f g : Nat → List AV} (hl : ∀ k, k < n → (f k).length = st → (g k).length = st) (h : ∀ k l, k < n → l < st → FrzS L ((f k).getD l .any) ((g k).getD l .any)) : FrzS L (.rsl n st f) (.rsl n st g)
theorem FrzS.conv {L : AV → AV → Prop} {S S2 : St} (hle : Le S S2) (hc : ∀ x y, L x y → ∀ v, VRel S x v → VRel S2 y v) {x y : AV} (hxy : FrzS L x y) : ∀ v, VRel S x v → VRel S2 y v := by
  induction hxy with
  | same x => intro v hv; exact hv.mono hle
  | leaf h => intro v hv; exact hc _ _ h v hv
  | agg hl h ih =>
    intro v hv
    cases hv with
    | agg hn hv => exact .agg (hn.trans hl.symm) fun k hk => ih k (by omega) _ (hv k (by omega))
  | @rsl n st f g hl h ih =>
    intro v hv
    cases hv with
    | rsl0 => exact .rsl0
    | rsl hi hb hsz hf hh hcap =>
      exact .rsl (hle.imm _ hi) ((hle.keep _ hi).trans hb) hsz (fun k hk => hl k hk (hf k hk)) (fun k l hk hl2 => ih k l hk hl2 _ (hh k l hk hl2)) hcap
theorem Ent.freezeS {s s' : Fr} {ds : List AD} {H : Hp} {K : Fr → List AD → Hp → Prop} {id st n : Nat} {f : Nat → List AV} (ho : H id = some (.row st n f))
    (hs : ∀ t, FrzS (Lr id st n f) (s t) (s' t)) (h : K s' ds (H.del id)) : Ent s ds H K := by
  intro S a hH hF hD
  obtain ⟨S2, hw, hle, h2, hc⟩ := frz_step hH ho
  exact ⟨S2, s', ds, _, hw, hle, h2, fun t => (hs t).conv hle (fun x y hxy v hv => by obtain ⟨rfl, g, hg, rfl⟩ := hxy; exact AV.Le.rsl hg _ _ (hc v hv)) _ (hF t), hD.mono hle, h⟩
/-- What slots hold, slot by slot. -/
inductive FrzL (L : AV → AV → Prop) : List (Nat × AV) → List (Nat × AV) → Prop
  | nil : FrzL L [] []
  | cons {t : Nat} {v v' : AV} {l l' : List (Nat × AV)} (h : FrzS L v v') (k : FrzL L l l') : FrzL L ((t, v) :: l) ((t, v') :: l')
theorem FrzL.refl {L : AV → AV → Prop} : ∀ l : List (Nat × AV), FrzL L l l
  | [] => .nil
  | (_, v) :: l => .cons (.same v) (FrzL.refl l)
theorem FrzL.fr {L : AV → AV → Prop} {l l' : List (Nat × AV)} (h : FrzL L l l') : ∀ t, FrzS L (Fr.of l t) (Fr.of l' t) := by
  intro t
  induction h with
  | nil => exact .same _
  | cons hv _ ih =>
    simp only [Fr.of]
    split
    · exact hv
    · exact ih
end Go.V
end
