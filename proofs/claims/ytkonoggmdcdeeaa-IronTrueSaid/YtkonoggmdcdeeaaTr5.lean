/- WHAT IS PROVED: the given statement of this claim. Conditions: none beyond the given row. -/
import Derived.Test.YtkonoggmdcdeeaaRows
import Derived.Test.YtkonoggmdcdeeaaTr4
section
set_option linter.unusedVariables false
set_option linter.unusedSimpArgs false
set_option maxHeartbeats 4000000
set_option maxRecDepth 100000
namespace Go.Proofs.Ytkonoggmdcdeeaa
open Go.V
theorem sm_ok : Ok (smI 1) ∧ Ok (smI 0) := by decide +kernel
theorem sm1 : ((fitsV (smI 1) 1 : Nat) : Int) = 5 := by decide +kernel
theorem sm2 : fitsE (smI 1) 1 = 0 := by decide +kernel
theorem sm3 : ((countV (smI 1) : Nat) : Int) = 5 := by decide +kernel
theorem sm4 : countE (smI 1) = 0 := by decide +kernel
theorem sm5 : ((canV (smI 1) 2 : Nat) : Int) = 7 := by decide +kernel
theorem sm6 : canE (smI 1) 2 = 0 := by decide +kernel
theorem sm7 : claimV (smI 1) 1 = 1 := by decide +kernel
theorem sm8 : claimE (smI 1) 1 = 0 := by decide +kernel
theorem sm9 : (((falseP (smI 1)).1 : Nat) : Int) = 1 := by decide +kernel
theorem sm10 : (((falseP (smI 1)).2 : Nat) : Int) = 2 := by decide +kernel
theorem sm11 : falseE (smI 1) = 0 := by decide +kernel
theorem sm12 : ((likV (smI 1) 2 : Nat) : Int) = 2 := by decide +kernel
theorem sm13 : likE (smI 1) 2 = 0 := by decide +kernel
theorem sm14 : ((setV (errE (smI 1) true true) (clashR (smI 1)) : Nat) : Int) = 3 := by decide +kernel
theorem sm15 : setE (errE (smI 1) true true) (clashR (smI 1)) = 0 := by decide +kernel
theorem sm16 : ((setV (errE (smI 0) true false) (shortR (smI 0)) : Nat) : Int) = 2 := by decide +kernel
theorem sm17 : setE (errE (smI 0) true false) (shortR (smI 0)) = 0 := by decide +kernel
theorem awake_tri (H : Hp) : PTri Try.prog (fnA 14) [] H (boo true) := by
  have k1 := sm_ok.1.near
  have k0 := sm_ok.2.near
  refine Tri.drop ?_
  refine tri_v0 (fun _ => false) Try.func14 (by kernel_rfl) rfl (by simp only [List.length_append, List.length_nil, Try.ntmps14]; decide) ?_
  simp only [vsAll, okAll, stAll, opsA, opA, dstOk, nilSliceOp, Nat.reduceLT, eq_self, Try.ntmps14]
  refine callK_pure (sample_tri 1 _) ?_
  simp only [vsAll, loadA, loadRow, partA, partOk, cellA, cellsA, okAll, stAll, opsA, opA, allocA, newCells, okCells, storeObj, dstOk, Nat.reduceAdd, Nat.reduceLT, Nat.reduceEqDiff, ↓reduceIte, eq_self, wtAll]
  intro i1 hh_i1; (try simp only [Hp.set_none, ite_none] at hh_i1)
  refine callK_pure (wfits_tri (smI 1) 1 _ k1) ?_
  simp only [vsAll, loadA, loadRow, partA, partOk, extractA, okAll, stAll, opsA, opA, dstOk, nilSliceOp, Nat.reduceAdd, Nat.reduceLT, Nat.reduceEqDiff, ↓reduceIte, eq_self, wtAll, sm1, sm2]
  refine callK_pure (wcount_tri (smI 1) _ k1) ?_
  simp only [vsAll, loadA, loadRow, partA, partOk, extractA, okAll, stAll, opsA, opA, dstOk, nilSliceOp, Nat.reduceAdd, Nat.reduceLT, Nat.reduceEqDiff, ↓reduceIte, eq_self, wtAll, sm3, sm4]
  refine callK_pure (wcan_tri (smI 1) 2 _ k1) ?_
  simp only [vsAll, loadA, loadRow, partA, partOk, extractA, okAll, stAll, opsA, opA, dstOk, nilSliceOp, Nat.reduceAdd, Nat.reduceLT, Nat.reduceEqDiff, ↓reduceIte, eq_self, wtAll, sm5, sm6]
  refine callK_pure (wclaim_tri (smI 1) 1 _ k1) ?_
  simp only [vsAll, loadA, loadRow, partA, partOk, extractA, okAll, stAll, opsA, opA, dstOk, nilSliceOp, Nat.reduceAdd, Nat.reduceLT, Nat.reduceEqDiff, ↓reduceIte, eq_self, wtAll, sm7, sm8]
  refine callK_pure (wfalse_tri (smI 1) _ k1) ?_
  simp only [vsAll, loadA, loadRow, partA, partOk, extractA, okAll, stAll, opsA, opA, dstOk, nilSliceOp, Nat.reduceAdd, Nat.reduceLT, Nat.reduceEqDiff, ↓reduceIte, eq_self, wtAll, sm9, sm10, sm11]
  refine callK_pure (wlikely_tri (smI 1) 2 _ k1) ?_
  simp only [vsAll, loadA, loadRow, partA, partOk, extractA, okAll, stAll, opsA, opA, dstOk, nilSliceOp, Nat.reduceAdd, Nat.reduceLT, Nat.reduceEqDiff, ↓reduceIte, eq_self, wtAll, sm12, sm13]
  refine callK_pure (wclash_tri (smI 1) _ k1) ?_
  simp only [vsAll, extractA, okAll, stAll, opsA, opA, dstOk, nilSliceOp, Nat.reduceAdd, Nat.reduceLT, Nat.reduceEqDiff, ↓reduceIte, eq_self, sm14, sm15]
  refine callK_pure (sample_tri 0 _) ?_
  simp only [vsAll, okAll, stAll, opsA, opA, dstOk, Nat.reduceLT, ↓reduceIte, eq_self]
  refine callK_pure (wshort_tri (smI 0) _ k0) ?_
  simp only [vsAll, binA, binLitA, intA, extractA, pickA, opA, guardV, dstOk, nilSliceOp, resA, retA.eq_1, Nat.reduceAdd, Nat.reduceLT, Nat.reduceEqDiff, ↓reduceIte, implies_true, eq_self, Try.results14, sm16, sm17]
  exact dropR_pure rfl (by (repeat (first | exact HSub_rfl | refine HSub_put_eq (by simp only [vsAll, binA, binLitA, intA, aggA, boolA, nilA2, isConst, unA, loadA, loadRow, partA, partOk, fieldAddrA, indexAddrA, indexA, fieldA, extractA, lenA, nilCheckA, boxA, cellA, cellsA, fillA, okParts, buildSliceA, buildMutA, makeSliceA, partIdx, elemsA, lensA, ifaceA, convA, mmA, pickA, okAll, stAll, opsA, partsA, partsOk, opA, allocA, boxMutA, newCells, okCells, storeObj, appendA, guardV, taA, nM, mapUpA, lookA, sliceA, boundsA, opO, okO, copyA, dstOk, nilA, quietOk, nilSliceOp, panA, resA, argFr, retA.eq_1, retA.eq_2, Nat.reduceAdd, Nat.reduceSub, Nat.reduceMul, Nat.reduceLT, Nat.reduceLeDiff, Nat.reduceEqDiff, Nat.reduceBEq, Int.reduceAdd, Int.reduceSub, Int.reduceMul, Int.reduceNeg, Int.reduceLE, Int.reduceLT, Int.reduceEq, Int.reduceNe, Int.reduceToNat, ↓reduceIte, reduceCtorEq, implies_true, forall_const, eq_self, ne_eq, wtAll, Try.ntmps14, Try.results14, hh_i1]) ?_ | refine HSub_drop2 (by simp only [eq_self, hh_i1]) ?_ | refine HSub_keep_eq (by simp only [vsAll, binA, binLitA, intA, aggA, boolA, nilA2, isConst, unA, loadA, loadRow, partA, partOk, fieldAddrA, indexAddrA, indexA, fieldA, extractA, lenA, nilCheckA, boxA, cellA, cellsA, fillA, okParts, buildSliceA, buildMutA, makeSliceA, partIdx, elemsA, lensA, ifaceA, convA, mmA, pickA, okAll, stAll, opsA, partsA, partsOk, opA, allocA, boxMutA, newCells, okCells, storeObj, appendA, guardV, taA, nM, mapUpA, lookA, sliceA, boundsA, opO, okO, copyA, dstOk, nilA, quietOk, nilSliceOp, panA, resA, argFr, retA.eq_1, retA.eq_2, Nat.reduceAdd, Nat.reduceSub, Nat.reduceMul, Nat.reduceLT, Nat.reduceLeDiff, Nat.reduceEqDiff, Nat.reduceBEq, Int.reduceAdd, Int.reduceSub, Int.reduceMul, Int.reduceNeg, Int.reduceLE, Int.reduceLT, Int.reduceEq, Int.reduceNe, Int.reduceToNat, ↓reduceIte, reduceCtorEq, implies_true, forall_const, eq_self, ne_eq, wtAll, Try.ntmps14, Try.results14, hh_i1]) ?_)))
end Go.Proofs.Ytkonoggmdcdeeaa
end
section
set_option linter.unusedVariables false
set_option linter.unusedSimpArgs false
set_option maxHeartbeats 4000000
set_option maxRecDepth 100000
namespace Go.Proofs.Ytkonoggmdcdeeaa
open Go.V
/-- How many claims are false in a truth. -/
def popW (x : Ir) (t : List Int) : Nat := pop (wrongT x t)
def clrB (x : Ir) (o : List (List Int)) (t : List Int) : Bool := decide (0 < o.length) && decide (popW x t < popW x (o.getD 0 []))
def addB (x : Ir) (o : List (List Int)) (t : List Int) : Bool := decide (o.length = 0) || decide (popW x t = popW x (o.getD 0 []))
def bst1 (x : Ir) (o : List (List Int)) (t : List Int) : List (List Int) := if addB x o t = true then o ++ [t] else o
def bstN (x : Ir) : Nat → List (List Int)
  | 0 => []
  | i + 1 => bst1 x (if clrB x (bstN x i) ((truA x).getD i []) = true then [] else bstN x i) ((truA x).getD i [])
def bestL (x : Ir) : List (List Int) := bstN x (truA x).length
theorem bstN_mem {x : Ir} {i : Nat} (hi : i ≤ (truA x).length) : (bstN x i).length ≤ i ∧ ∀ t ∈ bstN x i, t ∈ truA x := by
  induction i with
  | zero => exact ⟨Nat.le_refl _, fun t h => by simp [bstN] at h⟩
  | succ i ih =>
    obtain ⟨h1, h2⟩ := ih (by omega)
    have hm : (truA x).getD i [] ∈ truA x := mem_getD _ i [] (by omega)
    have key : ∀ o : List (List Int), o.length ≤ i → (∀ t ∈ o, t ∈ truA x) → (bst1 x o ((truA x).getD i [])).length ≤ i + 1 ∧ ∀ t ∈ bst1 x o ((truA x).getD i []), t ∈ truA x := by
      intro o ho1 ho2
      unfold bst1
      split
      · refine ⟨by rw [List.length_append]; simp only [List.length_cons, List.length_nil]; omega, fun t ht => ?_⟩
        rcases List.mem_append.1 ht with ht | ht
        · exact ho2 t ht
        · rw [List.mem_singleton] at ht; subst ht; exact hm
      · exact ⟨by omega, ho2⟩
    simp only [bstN]
    split
    · exact key [] (by simp) (fun t h => by simp at h)
    · exact key _ h1 h2
end Go.Proofs.Ytkonoggmdcdeeaa
end
section
set_option linter.unusedVariables false
set_option linter.unusedSimpArgs false
set_option maxHeartbeats 4000000
set_option maxRecDepth 100000
namespace Go.Proofs.Ytkonoggmdcdeeaa
open Go.V
theorem bst1_pos (x : Ir) (o : List (List Int)) (t : List Int) : 0 < (bst1 x o t).length := by
  unfold bst1
  split
  · rw [List.length_append]; simp
  · rename_i h
    apply Nat.lt_of_not_le
    intro h0
    apply h
    simp only [addB, show o.length = 0 by omega, decide_true, Bool.true_or]
/-- The least set of false claims of the first ones. -/
def mnN (x : Ir) (L : List (List Int)) : Nat → Nat
  | 0 => wrongT x (L.getD 0 [])
  | i + 1 => min (mnN x L i) (wrongT x (L.getD i []))
def rfalP (x : Ir) : Nat × Nat := if falseE x = 0 then (pop (mnN x (bestL x) (bestL x).length), mnN x (bestL x) (bestL x).length) else (0, 0)
def rlikV (x : Ir) (s : Int) : Nat := if likE x s = 0 then who (bestL x) s.toNat else 0
end Go.Proofs.Ytkonoggmdcdeeaa
end
section
set_option linter.unusedVariables false
set_option linter.unusedSimpArgs false
namespace Go.Proofs.Ytkonoggmdcdeeaa
open Go.V
def moreK (x : Ir) (C k : Nat) (s : Nat) (o : Int) (r : Nat × Nat) : Nat × Nat := (r.1 + (wrO x C s o k).1, r.2 + (wrO x C s o k).2)
/-- A claim is false, and of one of these strakes. -/
def flB (x : Ir) (C k s : Nat) (t : List Int) : Bool := decide (s ≤ (x.cl.getD k cl0).s.toNat ∧ (x.cl.getD k cl0).s.toNat < s + t.length) && C.testBit k && !rightO (x.cl.getD k cl0) (t.getD ((x.cl.getD k cl0).s.toNat - s) 0)
theorem valK_succ (x : Ir) (C k : Nat) (hc : 0 ≤ (x.cl.getD k cl0).s) (t : List Int) : ∀ s, valT (0, 0) (moreK x C (k + 1)) s t = if flB x C k s t = true then ((valT (0, 0) (moreK x C k) s t).1 + 1, (valT (0, 0) (moreK x C k) s t).2 + 2 ^ k) else valT (0, 0) (moreK x C k) s t := by
  induction t with
  | nil =>
    intro s
    have : flB x C k s [] = false := by simp only [flB, List.length_nil, Nat.add_zero]; rw [decide_eq_false (by omega)]; rfl
    rw [this]; rfl
  | cons o t ih =>
    intro s
    simp only [valT, ih (s + 1)]
    have hwr : wrO x C s o (k + 1) = if wrB x C s o k = true then ((wrO x C s o k).1 + 1, (wrO x C s o k).2 + 2 ^ k) else wrO x C s o k := rfl
    by_cases e : (x.cl.getD k cl0).s.toNat = s
    · have h1 : flB x C k (s + 1) t = false := by
        simp only [flB]; rw [decide_eq_false (by omega)]; rfl
      have h2 : flB x C k s (o :: t) = wrB x C s o k := by
        simp only [flB, wrB, List.length_cons]
        rw [decide_eq_true (by omega), e, Nat.sub_self, List.getD_cons_zero, decide_eq_true (by omega : (x.cl.getD k cl0).s = (s : Int))]
      rw [h1, h2, if_neg (by decide)]
      simp only [moreK, hwr]
      split <;> simp only [Nat.add_assoc]
    · have h1 : flB x C k s (o :: t) = flB x C k (s + 1) t := by
        simp only [flB, List.length_cons]
        by_cases q : s + 1 ≤ (x.cl.getD k cl0).s.toNat
        · obtain ⟨d, hd⟩ : ∃ d, (x.cl.getD k cl0).s.toNat - s = d + 1 := ⟨(x.cl.getD k cl0).s.toNat - s - 1, by omega⟩
          rw [hd, List.getD_cons_succ, show (x.cl.getD k cl0).s.toNat - (s + 1) = d by omega]
          rw [show decide (s ≤ (x.cl.getD k cl0).s.toNat ∧ (x.cl.getD k cl0).s.toNat < s + (t.length + 1)) = decide (s + 1 ≤ (x.cl.getD k cl0).s.toNat ∧ (x.cl.getD k cl0).s.toNat < s + 1 + t.length) from decide_eq_decide.2 (by omega)]
        · rw [decide_eq_false (by omega), decide_eq_false (by omega)]; rfl
      have h2 : wrB x C s o k = false := by
        simp only [wrB]; rw [decide_eq_false (by omega)]; rfl
      rw [h1]
      simp only [moreK, hwr, h2, Bool.false_eq_true, if_false]
      split <;> simp only [Nat.add_right_comm]
theorem pop_add : ∀ k, k < 8 → ∀ a, a < 256 → a < 2 ^ k → pop (a + 2 ^ k) = pop a + 1 := by decide +kernel
theorem valK_wrong {x : Ir} (k : Ok x) {t : List Int} (ht : t.length = x.st.length) : ∀ n, n ≤ x.cl.length → valT (0, 0) (moreK x (fullC x) n) 0 t = (pop (wrongN x t n), wrongN x t n) := by
  intro n
  induction n with
  | zero =>
    intro _
    have : ∀ (t : List Int) s, valT (0, 0) (moreK x (fullC x) 0) s t = (0, 0) := by
      intro t
      induction t with
      | nil => intro s; rfl
      | cons o t ih => intro s; simp only [valT, ih]; rfl
    have p0 : pop 0 = 0 := popN_zero 64
    rw [this]
    simp only [wrongN, p0]
  | succ n ih =>
    intro hn
    have hc := k.cs n (by omega)
    have nC := k.nC
    have hw := wrongN_lt x t n
    have hp : 2 ^ n ≤ 2 ^ 7 := Nat.pow_le_pow_right (by decide) (by omega)
    rw [valK_succ x (fullC x) n hc.1, ih (by omega)]
    have hf : flB x (fullC x) n 0 t = !rightT x t n := by
      simp only [flB, rightT, Nat.sub_zero]
      rw [decide_eq_true (by omega), full_bit _ _ (by omega)]
      rfl
    rw [hf]
    simp only [wrongN]
    cases rightT x t n with
    | true => simp
    | false =>
      simp only [Bool.not_false, if_true, Bool.false_eq_true, if_false]
      rw [pop_add n (by omega) _ (by omega) hw]
theorem val_wrong {x : Ir} (k : Ok x) {t : List Int} (ht : t.length = x.st.length) : valT (0, 0) (moreL x (fullC x)) 0 t = (popW x t, wrongT x t) := valK_wrong k ht _ (Nat.le_refl _)

theorem foldJ_min (l : List (Nat × Nat)) : ∀ m, foldJ joinL l = some m → m ∈ l ∧ ∀ y ∈ l, lessB y m = false := by
  induction l with
  | nil => intro m h; cases h
  | cons a l ih =>
    intro m h
    simp only [foldJ] at h
    have irr : lessB a a = false := by rw [← Bool.not_eq_true, lessB_iff]; omega
    cases hl : foldJ joinL l with
    | none =>
      rw [hl] at h
      simp only [comb, Option.some.injEq] at h
      subst h
      have := (foldJ_none l).1 hl
      subst this
      exact ⟨by simp, fun y hy => by simp at hy; subst hy; exact irr⟩
    | some b =>
      rw [hl] at h
      simp only [comb, Option.some.injEq] at h
      obtain ⟨h1, h2⟩ := ih b hl
      unfold joinL at h
      by_cases q : lessB b a = true
      · rw [if_pos q] at h
        subst h
        refine ⟨by simp [h1], fun y hy => ?_⟩
        rcases List.mem_cons.1 hy with rfl | hy
        · rw [← Bool.not_eq_true, lessB_iff]
          have := (lessB_iff _ _).1 q
          omega
        · exact h2 y hy
      · rw [if_neg q] at h
        subst h
        refine ⟨by simp, fun y hy => ?_⟩
        rcases List.mem_cons.1 hy with rfl | hy
        · exact irr
        · have h3 := h2 y hy
          rw [← Bool.not_eq_true, lessB_iff] at h3 ⊢
          have q2 : ¬ (b.1 < a.1 ∨ b.1 = a.1 ∧ b.2 < a.2) := fun p => q ((lessB_iff _ _).2 p)
          omega
end Go.Proofs.Ytkonoggmdcdeeaa
end
section
set_option linter.unusedVariables false
set_option linter.unusedSimpArgs false
namespace Go.Proofs.Ytkonoggmdcdeeaa
open Go.V
theorem bst1_mem {x : Ir} {o : List (List Int)} {t y : List Int} : y ∈ bst1 x o t ↔ y ∈ o ∨ (addB x o t = true ∧ y = t) := by
  unfold bst1
  split
  · rename_i h; simp [h]
  · rename_i h; simp [h]
theorem bstN_spec (x : Ir) : ∀ i, i ≤ (truA x).length → (0 < i → 0 < (bstN x i).length) ∧ (∀ t ∈ bstN x i, ∀ t' ∈ (truA x).take i, popW x t ≤ popW x t') ∧ ∀ t ∈ (truA x).take i, (∀ t' ∈ (truA x).take i, popW x t ≤ popW x t') → t ∈ bstN x i := by
  intro i
  induction i with
  | zero => intro _; exact ⟨fun h => absurd h (by omega), fun t h => by simp [bstN] at h, fun t h => by simp at h⟩
  | succ i ih =>
    intro hi
    obtain ⟨h0, h1, h2⟩ := ih (by omega)
    have hm := (bstN_mem (x := x) (i := i) (by omega)).2
    have ht : (truA x).take (i + 1) = (truA x).take i ++ [(truA x).getD i []] := take_snoc _ i [] (by omega)
    have eb : bstN x (i + 1) = bst1 x (if clrB x (bstN x i) ((truA x).getD i []) = true then [] else bstN x i) ((truA x).getD i []) := rfl
    rw [ht]
    generalize (truA x).getD i [] = w at *
    generalize (truA x).take i = L at *
    refine ⟨fun _ => by rw [eb]; exact bst1_pos _ _ _, ?_⟩
    by_cases hz : i = 0
    · subst hz
      have hL : ∀ y, y ∈ bstN x 0 ↔ False := fun y => by simp [bstN]
      have hl0 : L = [] := by
        cases L with
        | nil => rfl
        | cons a L =>
          exfalso
          have := congrArg List.length ht
          simp at this
          omega
      subst hl0
      have e2 : bstN x 1 = [w] := by
        rw [eb]
        have : (if clrB x (bstN x 0) w = true then ([] : List (List Int)) else bstN x 0) = [] := by split <;> rfl
        rw [this]; rfl
      rw [e2]
      refine ⟨fun t h t' h' => ?_, fun t h _ => h⟩
      simp at h h'
      subst h h'
      exact Nat.le_refl _
    · have hpos := h0 (by omega)
      have hd : (bstN x i).getD 0 [] ∈ bstN x i := mem_getD _ 0 [] hpos
      have hmin := h1 _ hd
      have hall : ∀ y ∈ bstN x i, popW x y = popW x ((bstN x i).getD 0 []) ∨ True := fun _ _ => .inr trivial
      by_cases hc : clrB x (bstN x i) w = true
      · rw [if_pos hc] at eb
        simp only [clrB, Bool.and_eq_true, decide_eq_true_eq] at hc
        have e2 : bstN x (i + 1) = [w] := by rw [eb]; rfl
        rw [e2]
        refine ⟨fun t h t' h' => ?_, fun t h hle => ?_⟩
        · rw [List.mem_singleton] at h; subst h
          rcases List.mem_append.1 h' with h' | h'
          · have := hmin t' h'; omega
          · rw [List.mem_singleton] at h'; subst h'; exact Nat.le_refl _
        · rcases List.mem_append.1 h with h | h
          · have q1 := hmin t h
            have q2 := hle w (by simp)
            omega
          · exact h
      · rw [if_neg hc] at eb
        simp only [clrB, Bool.and_eq_true, decide_eq_true_eq] at hc
        have hge : popW x ((bstN x i).getD 0 []) ≤ popW x w := by
          apply Nat.le_of_not_lt
          intro q
          exact hc ⟨hpos, q⟩
        have hadd : addB x (bstN x i) w = true ↔ popW x w = popW x ((bstN x i).getD 0 []) := by
          simp only [addB, Bool.or_eq_true, decide_eq_true_eq]
          constructor
          · rintro (q | q)
            · omega
            · exact q
          · exact .inr
        rw [eb]
        refine ⟨fun t h t' h' => ?_, fun t h hle => ?_⟩
        · have hb : popW x t ≤ popW x ((bstN x i).getD 0 []) ∧ ∀ q ∈ L, popW x t ≤ popW x q := by
            rcases bst1_mem.1 h with h | ⟨q, rfl⟩
            · refine ⟨?_, h1 t h⟩
              by_cases e : (bstN x i).getD 0 [] ∈ L
              · exact h1 t h _ e
              · exfalso
                -- every likely one is among the first
                have : ∀ j, j ≤ (truA x).length → ∀ y ∈ bstN x j, y ∈ (truA x).take j := by
                  intro j
                  induction j with
                  | zero => intro _ y hy; simp [bstN] at hy
                  | succ j ihj =>
                    intro hj y hy
                    rw [take_snoc _ j [] (by omega)]
                    simp only [bstN] at hy
                    rcases bst1_mem.1 hy with hy | ⟨_, rfl⟩
                    · split at hy
                      · simp at hy
                      · exact List.mem_append_left _ (ihj (by omega) y hy)
                    · simp
                have hL : L = (truA x).take i := by
                  have h3 := congrArg (fun l => l.take i) ht
                  simp only [List.take_take, Nat.min_eq_left (Nat.le_succ i)] at h3
                  have hlen : L.length = i := by
                    have := congrArg List.length ht
                    simp at this
                    omega
                  rw [h3, List.take_append_of_le_length (by omega), List.take_of_length_le (by omega)]
                exact e (hL ▸ this i (by omega) _ hd)
            · exact ⟨Nat.le_of_eq (hadd.1 q), fun y hy => by rw [hadd.1 q]; exact hmin y hy⟩
          rcases List.mem_append.1 h' with h' | h'
          · exact hb.2 t' h'
          · rw [List.mem_singleton] at h'; subst h'; omega
        · rcases List.mem_append.1 h with h | h
          · exact bst1_mem.2 (.inl (h2 t h fun t' h' => hle t' (List.mem_append_left _ h')))
          · rw [List.mem_singleton] at h
            subst h
            have hmem : (bstN x i).getD 0 [] ∈ L ++ [t] := by
              have := hm _ hd
              by_cases e : (bstN x i).getD 0 [] ∈ L
              · exact List.mem_append_left _ e
              · exfalso
                have key : ∀ j, j ≤ (truA x).length → ∀ y ∈ bstN x j, y ∈ (truA x).take j := by
                  intro j
                  induction j with
                  | zero => intro _ y hy; simp [bstN] at hy
                  | succ j ihj =>
                    intro hj y hy
                    rw [take_snoc _ j [] (by omega)]
                    simp only [bstN] at hy
                    rcases bst1_mem.1 hy with hy | ⟨_, rfl⟩
                    · split at hy
                      · simp at hy
                      · exact List.mem_append_left _ (ihj (by omega) y hy)
                    · simp
                have hL : L = (truA x).take i := by
                  have h3 := congrArg (fun l => l.take i) ht
                  simp only [List.take_take, Nat.min_eq_left (Nat.le_succ i)] at h3
                  have hlen : L.length = i := by
                    have := congrArg List.length ht
                    simp at this
                    omega
                  rw [h3, List.take_append_of_le_length (by omega), List.take_of_length_le (by omega)]
                exact e (hL ▸ key i (by omega) _ hd)
            exact bst1_mem.2 (.inr ⟨hadd.2 (Nat.le_antisymm (hle _ hmem) hge), rfl⟩)
theorem bestL_iff {x : Ir} {t : List Int} : t ∈ bestL x ↔ t ∈ truA x ∧ ∀ t' ∈ truA x, popW x t ≤ popW x t' := by
  have h := bstN_spec x (truA x).length (Nat.le_refl _)
  rw [List.take_length] at h
  exact ⟨fun h' => ⟨(bstN_mem (x := x) (Nat.le_refl _)).2 t h', h.2.1 t h'⟩, fun h' => h.2.2 t h'.1 h'.2⟩
end Go.Proofs.Ytkonoggmdcdeeaa
end
section
set_option linter.unusedVariables false
set_option linter.unusedSimpArgs false
namespace Go.Proofs.Ytkonoggmdcdeeaa
open Go.V
theorem tlW_truth {x : Ir} (k : Ok x) : tlW x (fullS x) (fullC x) false = foldJ joinL ((truA x).map fun t => (popW x t, wrongT x t)) := by
  have h : truA x = cont x (fullS x) (fullC x) false x.st.length 0 u0 := truS_cont x (fullS x) (fullC x) k.gd
  have e : (truA x).map (valT (0, 0) (moreL x (fullC x)) 0) = (truA x).map fun t => (popW x t, wrongT x t) := List.map_congr_left fun t ht => val_wrong k (truA_mem ht).1
  rw [tlW_eq, ← h, e]
theorem fitB_with {x : Ir} (k : Ok x) {s o o' s' : Nat} (ho : o' < x.ow.length) (hs : s' < x.st.length) : fitB (withI x s o) o' s' = (fitB x o' s' && (decide (s' ≠ s) || decide (o' = o))) := by
  have hfl := k.ow o' ho
  unfold fitB
  rw [withI_ow ho, withI_st hs]
  have hold : (x.st.getD s' []).all (fitM (owW x o o')) = (x.st.getD s' []).all (fitM (x.ow.getD o' [])) := by
    rw [Bool.eq_iff_iff, List.all_eq_true, List.all_eq_true]
    have hm : ∀ m ∈ x.st.getD s' [], fitM (owW x o o') m = fitM (x.ow.getD o' []) m := fun m hm => by
      obtain ⟨i, hi, rfl⟩ := List.getElem_of_mem hm
      have hsf := k.sf s' hs i hi
      have e1 : (x.st.getD s' []).getD i mk0 = (x.st.getD s' [])[i] := by rw [List.getD_eq_getElem?_getD, List.getElem?_eq_getElem hi]; rfl
      rw [e1] at hsf
      unfold fitM
      rw [owW, getD_snoc, if_neg (by omega)]
    exact ⟨fun h m hm' => by rw [← hm m hm']; exact h m hm', fun h m hm' => by rw [hm m hm']; exact h m hm'⟩
  unfold stW
  by_cases e : s' = s
  · rw [if_pos e, List.all_append, hold]
    congr 1
    rw [show decide (s' ≠ s) = false from decide_eq_false (by simp [e]), Bool.false_or]
    simp only [List.all_cons, List.all_nil, Bool.and_true, fitM]
    have eg : (owW x o o').getD x.F.toNat 0 = if o' = o then 1 else 0 := by
      rw [owW, getD_snoc, if_pos (by omega)]
    rw [eg]
    by_cases e2 : o' = o
    · rw [if_pos e2, decide_eq_true e2]; rfl
    · rw [if_neg e2, decide_eq_false e2]; rfl
  · rw [if_neg e, hold, show decide (s' ≠ s) = true from decide_eq_true e, Bool.true_or, Bool.and_true]
theorem filter_flat {α β : Type} (p : β → Bool) (f : α → List β) (l : List α) : (l.flatMap f).filter p = l.flatMap fun a => (f a).filter p := by
  induction l with
  | nil => rfl
  | cons a l ih => simp only [List.flatMap_cons, List.filter_append, ih]
theorem flat_congr {α β : Type} {f g : α → List β} : ∀ {l : List α}, (∀ a ∈ l, f a = g a) → l.flatMap f = l.flatMap g
  | [], _ => rfl
  | a :: l, h => by
    simp only [List.flatMap_cons, h a (by simp), flat_congr (l := l) fun b hb => h b (by simp [hb])]
theorem tru_with {x : Ir} (k : Ok x) {s o : Nat} (hs : s < x.st.length) (ho : o < x.ow.length) (S : Nat) (hS : ∀ j, j < x.st.length → S.testBit j = true) :
    ∀ n b, b.length + n = x.st.length → tru (withI x s o) S n b = (tru x S n b).filter fun t => decide (s < b.length) || decide (t.getD s 0 = (o : Int)) := by
  have lo : (withI x s o).ow.length = x.ow.length := by simp [withI]
  intro n
  induction n with
  | zero =>
    intro b hb
    simp only [tru]
    rw [List.filter_cons_of_pos (by rw [decide_eq_true (by omega)]; rfl)]
    rfl
  | succ n ih =>
    intro b hb
    have hbit := hS b.length (by omega)
    simp only [tru, hbit, if_true, lo]
    rw [filter_flat]
    refine flat_congr fun o' ho' => ?_
    rw [List.mem_range] at ho'
    have hcan : canO (withI x s o) b o' = (canO x b o' && (decide (b.length ≠ s) || decide (o' = o))) := by
      simp only [canO, fitB_with k ho' (show b.length < x.st.length by omega)]
      rw [show (withI x s o).mo = x.mo from rfl, Bool.and_assoc, Bool.and_assoc, Bool.and_comm (decide _ || decide _)]
    rw [hcan]
    have hlen : (b ++ [(o' : Int)]).length = b.length + 1 := by simp
    by_cases hc : canO x b o' = true
    · rw [hc, Bool.true_and, if_pos rfl]
      have hm : ∀ t ∈ tru x S n (b ++ [(o' : Int)]), t.getD b.length 0 = (o' : Int) := fun t ht => by
        rw [(tru_mem ht).2.1 b.length (by omega), getD_snoc, if_pos rfl]
      by_cases e : b.length = s
      · have e1 : decide (b.length ≠ s) = false := decide_eq_false (by simp [e])
        rw [e1, Bool.false_or]
        by_cases e2 : o' = o
        · rw [if_pos (by rw [decide_eq_true e2]), ih _ (by omega)]
          subst e2
          rw [List.filter_eq_self.2 fun t ht => by rw [decide_eq_true (by omega)]; rfl]
          rw [List.filter_eq_self.2 fun t ht => by rw [← e, decide_eq_true (hm t ht)]; simp]
        · rw [if_neg (by rw [decide_eq_false e2]; decide)]
          rw [List.filter_eq_nil_iff.2]
          intro t ht
          have := hm t ht
          rw [e] at this
          rw [decide_eq_false (by omega), decide_eq_false (by omega)]
          decide
      · rw [if_pos (by rw [decide_eq_true e]; rfl), ih _ (by omega)]
        congr 1
        funext t
        rw [hlen]
        by_cases q : s < b.length
        · rw [decide_eq_true q, decide_eq_true (by omega : s < b.length + 1)]
        · rw [decide_eq_false q, decide_eq_false (by omega : ¬ s < b.length + 1)]
    · rw [Bool.not_eq_true] at hc
      rw [hc, Bool.false_and]
      rfl
theorem truA_with {x : Ir} (k : Ok x) {s o : Nat} (hs : s < x.st.length) (ho : o < x.ow.length) : truS (withI x s o) (fullS x) = (truA x).filter fun t => decide (t.getD s 0 = (o : Int)) := by
  have ls : (withI x s o).st.length = x.st.length := by simp [withI]
  have h := tru_with k hs ho (fullS x) (fun j hj => full_bit _ _ hj) x.st.length [] (by simp)
  rw [truS, ls, h]
  congr 1
end Go.Proofs.Ytkonoggmdcdeeaa
end
section
set_option linter.unusedVariables false
set_option linter.unusedSimpArgs false
namespace Go.Proofs.Ytkonoggmdcdeeaa
open Go.V
theorem tru_fit {x : Ir} {S : Nat} : ∀ {n : Nat} {b t : List Int}, t ∈ tru x S n b → ∀ j, b.length ≤ j → j < b.length + n → S.testBit j = true → fitB x (t.getD j 0).toNat j = true := by
  intro n
  induction n with
  | zero => intro b t _ j h1 h2; omega
  | succ n ih =>
    intro b t h j h1 h2 hj
    cases hb : S.testBit b.length with
    | true =>
      rw [tru_yes hb, truP_mem] at h
      obtain ⟨o, ho, hc, h⟩ := h
      by_cases e : j = b.length
      · subst e
        have := (tru_mem h).2.1 b.length (by simp)
        rw [this, getD_snoc, if_pos rfl, Int.toNat_natCast]
        simp only [canO, Bool.and_eq_true] at hc
        exact hc.1
      · exact ih h j (by simp; omega) (by simp; omega) hj
    | false =>
      rw [tru_no hb] at h
      by_cases e : j = b.length
      · subst e; rw [hb] at hj; cases hj
      · exact ih h j (by simp; omega) (by simp; omega) hj
theorem likN_bit (x : Ir) (s n o : Nat) : (likN x s n).testBit o = (decide (o < n) && likB x s o) := by
  induction n with
  | zero => simp [likN]
  | succ n ih =>
    have hlt := likN_lt x s n
    simp only [likN]
    by_cases h : likB x s n = true
    · rw [if_pos h, ← or_bit _ _ hlt, Nat.testBit_or, ih, Nat.testBit_two_pow]
      by_cases e : n = o
      · subst e; simp [h]
      · rw [decide_eq_false e, Bool.or_false]
        congr 1
        exact decide_eq_decide.2 (by omega)
    · rw [if_neg h, Nat.add_zero, ih]
      by_cases e : n = o
      · subst e
        rw [Bool.not_eq_true] at h
        simp [h]
      · congr 1
        exact decide_eq_decide.2 (by omega)
theorem wrO_with (x : Ir) (s o C s' : Nat) (o' : Int) (n : Nat) : wrO (withI x s o) C s' o' n = wrO x C s' o' n := by
  induction n with
  | zero => rfl
  | succ n ih =>
    simp only [wrO, ih]
    rfl
theorem tlW_with {x : Ir} (k : Ok x) {s o : Nat} (hs : s < x.st.length) (ho : o < x.ow.length) : tlW (withI x s o) (fullS x) (fullC x) false = foldJ joinL (((truA x).filter fun t => decide (t.getD s 0 = (o : Int))).map fun t => (popW x t, wrongT x t)) := by
  have h : truS (withI x s o) (fullS x) = cont (withI x s o) (fullS x) (fullC x) false (withI x s o).st.length 0 u0 := truS_cont (withI x s o) (fullS x) (fullC x) (withI_gd k s o)
  have em : moreL (withI x s o) (fullC x) = moreL x (fullC x) := by
    funext s' o' r
    simp only [moreL]
    rw [show (withI x s o).cl = x.cl from rfl, wrO_with]
  rw [tlW_eq, ← h, em, truA_with k hs ho]
  have e : ((truA x).filter fun t => decide (t.getD s 0 = (o : Int))).map (valT (0, 0) (moreL x (fullC x)) 0) = ((truA x).filter fun t => decide (t.getD s 0 = (o : Int))).map fun t => (popW x t, wrongT x t) :=
    List.map_congr_left fun t ht => val_wrong k (truA_mem (List.mem_filter.1 ht).1).1
  rw [e]
theorem foldJ_some {l : List (Nat × Nat)} (h : l ≠ []) : ∃ m, foldJ joinL l = some m := by
  cases hf : foldJ joinL l with
  | none => exact absurd ((foldJ_none l).1 hf) h
  | some m => exact ⟨m, rfl⟩
theorem likB_iff {x : Ir} (k : Ok x) {s o : Nat} (hs : s < x.st.length) (ho : o < x.ow.length) : likB x s o = true ↔ ∃ t ∈ bestL x, t.getD s 0 = (o : Int) := by
  have hp : ∀ t ∈ truA x, ∃ m, foldJ joinL ((truA x).map fun t => (popW x t, wrongT x t)) = some m ∧ (∃ t0 ∈ truA x, popW x t0 = m.1) ∧ ∀ t ∈ truA x, m.1 ≤ popW x t := fun t ht => by
    obtain ⟨m, hm⟩ := foldJ_some (l := (truA x).map fun t => (popW x t, wrongT x t)) (by intro q; rw [List.map_eq_nil_iff] at q; rw [q] at ht; simp at ht)
    obtain ⟨h1, h2⟩ := foldJ_min _ m hm
    obtain ⟨t0, ht0, rfl⟩ := List.mem_map.1 h1
    refine ⟨_, hm, ⟨t0, ht0, rfl⟩, fun t ht => ?_⟩
    have := h2 _ (List.mem_map.2 ⟨t, ht, rfl⟩)
    rw [← Bool.not_eq_true, lessB_iff] at this
    simp only [] at this ⊢
    omega
  unfold likB
  rw [tlW_with k hs ho, tlW_truth k]
  simp only [Bool.and_eq_true, decide_eq_true_eq]
  constructor
  · rintro ⟨hf, hso, he⟩
    cases hw : foldJ joinL (((truA x).filter fun t => decide (t.getD s 0 = (o : Int))).map fun t => (popW x t, wrongT x t)) with
    | none => rw [hw] at hso; cases hso
    | some m =>
      obtain ⟨h1, h2⟩ := foldJ_min _ m hw
      obtain ⟨t1, ht1, rfl⟩ := List.mem_map.1 h1
      obtain ⟨ht1, hq⟩ := List.mem_filter.1 ht1
      obtain ⟨m0, e0, _, hle⟩ := hp t1 ht1
      rw [hw, e0] at he
      simp only [Option.getD_some] at he
      exact ⟨t1, bestL_iff.2 ⟨ht1, fun t' h' => by rw [he]; exact hle t' h'⟩, of_decide_eq_true hq⟩
  · rintro ⟨t, ht, hq⟩
    obtain ⟨ht1, hle⟩ := bestL_iff.1 ht
    have hfit : fitB x o s = true := by
      have := tru_fit ht1 s (Nat.zero_le _) (by simp; exact hs) (full_bit _ _ hs)
      rwa [hq, Int.toNat_natCast] at this
    have hmem : t ∈ (truA x).filter fun t => decide (t.getD s 0 = (o : Int)) := List.mem_filter.2 ⟨ht1, decide_eq_true hq⟩
    obtain ⟨m, hm⟩ := foldJ_some (l := ((truA x).filter fun t => decide (t.getD s 0 = (o : Int))).map fun t => (popW x t, wrongT x t)) (by intro q; rw [List.map_eq_nil_iff] at q; rw [q] at hmem; simp at hmem)
    obtain ⟨m0, e0, ⟨t0, ht0, e1⟩, hle0⟩ := hp t ht1
    obtain ⟨h1, h2⟩ := foldJ_min _ m hm
    obtain ⟨t2, ht2, rfl⟩ := List.mem_map.1 h1
    have h3 := h2 _ (List.mem_map.2 ⟨t, hmem, rfl⟩)
    rw [← Bool.not_eq_true, lessB_iff] at h3
    simp only [] at h3
    have q1 := hle t0 ht0
    have q2 := hle0 t2 (List.mem_filter.1 ht2).1
    rw [hm, e0]
    refine ⟨hfit, rfl, ?_⟩
    simp only [Option.getD_some]
    omega
end Go.Proofs.Ytkonoggmdcdeeaa
end
section
set_option linter.unusedVariables false
set_option linter.unusedSimpArgs false
set_option maxHeartbeats 4000000
set_option maxRecDepth 100000
namespace Go.Proofs.Ytkonoggmdcdeeaa
open Go.V
/-- All claims of a set, of the first ones, are right in a truth. -/
def okR (x : Ir) (set : Nat) (t : List Int) : Nat → Bool
  | 0 => true
  | n + 1 => okR x set t n && (!set.testBit n || rightT x t n)
/-- In no truth all are. -/
def clsB (x : Ir) (L : List (List Int)) (set : Nat) : Bool := L.all fun t => !okR x set t x.cl.length
/-- The smallest set, as the document looks for it: from all, each that is smaller. -/
def bsN (f : Nat → Bool) (b : Nat) : Nat → Nat
  | 0 => b
  | j + 1 => if (decide (pop j < pop (bsN f b j)) && f j) = true then j else bsN f b j
theorem bsN_lt (f : Nat → Bool) (b B : Nat) (hb : b < B) : ∀ j, j ≤ B → bsN f b j < B := by
  intro j
  induction j with
  | zero => intro _; exact hb
  | succ j ih => intro hj; simp only [bsN]; split; (· omega); (· exact ih (by omega))
def rset (f : Nat → Bool) (m : Nat) : Option Nat := if f (2 ^ m - 1) = true then some (bsN f (2 ^ m - 1) (2 ^ m)) else none
end Go.Proofs.Ytkonoggmdcdeeaa
end
section
set_option linter.unusedVariables false
set_option linter.unusedSimpArgs false
set_option maxHeartbeats 4000000
set_option maxRecDepth 100000
namespace Go.Proofs.Ytkonoggmdcdeeaa
open Go.V
/-- There is no truth with the strakes of a set alone. -/
def shD (x : Ir) (set : Nat) : Bool := decide ((truS x set).length = 0)
end Go.Proofs.Ytkonoggmdcdeeaa
end
section
set_option linter.unusedVariables false
set_option linter.unusedSimpArgs false
namespace Go.Proofs.Ytkonoggmdcdeeaa
open Go.V
theorem inn_none (f : Nat → Bool) (z n : Nat) : ∀ j, inn f z n j = none → ∀ i, j ≤ i → i < j + n → f i = true → pop i ≠ z := by
  induction n with
  | zero => intro j _ i h1 h2; omega
  | succ n ih =>
    intro j h i h1 h2 hf he
    simp only [inn] at h
    split at h
    · cases h
    · rename_i hc
      by_cases e : i = j
      · subst e; apply hc; rw [hf, decide_eq_true he]; rfl
      · exact ih (j + 1) h i (by omega) (by omega) hf he
theorem inn_first (f : Nat → Bool) (z n : Nat) : ∀ j r, inn f z n j = some r → ∀ i, j ≤ i → i < j + n → f i = true → pop i = z → r ≤ i := by
  induction n with
  | zero => intro j r h; cases h
  | succ n ih =>
    intro j r h i h1 h2 hf he
    simp only [inn] at h
    split at h
    · cases h; exact h1
    · rename_i hc
      by_cases e : i = j
      · subst e; exfalso; apply hc; rw [hf, decide_eq_true he]; rfl
      · exact ih (j + 1) r h i (by omega) (by omega) hf he
/-- The least set that suits. -/
structure LeastSet (f : Nat → Bool) (m r : Nat) : Prop where
  lt : r < 2 ^ m
  is : f r = true
  le : ∀ i, i < 2 ^ m → f i = true → pop r < pop i ∨ pop r = pop i ∧ r ≤ i
theorem LeastSet.uniq {f : Nat → Bool} {m r r' : Nat} (h : LeastSet f m r) (h' : LeastSet f m r') : r = r' := by
  have h1 := h.le r' h'.lt h'.is
  have h2 := h'.le r h.lt h.is
  omega
theorem outF_some (f : Nat → Bool) (m n : Nat) : ∀ z r, outF f m n z = some r → z ≤ pop r ∧ (∀ i, i < 2 ^ m → f i = true → z ≤ pop i → pop r < pop i ∨ pop r = pop i ∧ r ≤ i) := by
  induction n with
  | zero => intro z r h; cases h
  | succ n ih =>
    intro z r h
    simp only [outF] at h
    split at h
    · rename_i j hj
      cases h
      obtain ⟨_, _, h3, _⟩ := inn_lt _ _ _ _ _ hj
      refine ⟨by omega, fun i hi hf hz => ?_⟩
      by_cases e : pop i = z
      · exact .inr ⟨by omega, inn_first f z _ 0 _ hj i (Nat.zero_le _) (by omega) hf e⟩
      · exact .inl (by omega)
    · rename_i hj
      obtain ⟨h1, h2⟩ := ih (z + 1) r h
      refine ⟨by omega, fun i hi hf hz => ?_⟩
      have := inn_none f z _ 0 hj i (Nat.zero_le _) (by omega) hf
      exact h2 i hi hf (by omega)
theorem outF_none (f : Nat → Bool) (m n : Nat) : ∀ z, outF f m n z = none → ∀ i, i < 2 ^ m → f i = true → z ≤ pop i → z + n ≤ pop i := by
  induction n with
  | zero => intro z _ i _ _ h; exact h
  | succ n ih =>
    intro z h i hi hf hz
    simp only [outF] at h
    split at h
    · cases h
    · rename_i hj
      have := inn_none f z _ 0 hj i (Nat.zero_le _) (by omega) hf
      have := ih (z + 1) h i hi hf (by omega)
      omega
theorem pop_all : ∀ m, m < 9 → ∀ i, i < 256 → i < 2 ^ m → pop i ≤ m ∧ (pop i = m → i = 2 ^ m - 1) := by decide +kernel
theorem pop_full : ∀ m, m < 9 → pop (2 ^ m - 1) = m := by decide +kernel
theorem fewV_some {f : Nat → Bool} {m r : Nat} (h : fewV f m = some r) : LeastSet f m r := by
  obtain ⟨h1, h2⟩ := outF_lt f m (m + 1) 0 r h
  exact ⟨h1, h2, fun i hi hf => (outF_some f m (m + 1) 0 r h).2 i hi hf (Nat.zero_le _)⟩
theorem fewV_none {f : Nat → Bool} {m : Nat} (hm : m ≤ 8) (h : fewV f m = none) : ∀ i, i < 2 ^ m → f i = false := by
  intro i hi
  rw [← Bool.not_eq_true]
  intro hf
  have h1 := outF_none f m (m + 1) 0 h i hi hf (Nat.zero_le _)
  have hp : 2 ^ m ≤ 2 ^ 8 := Nat.pow_le_pow_right (by decide) hm
  have h2 := (pop_all m (by omega) i (by omega) hi).1
  omega
theorem bsN_spec (f : Nat → Bool) (b : Nat) : ∀ j, (bsN f b j = b ∨ (bsN f b j < j ∧ f (bsN f b j) = true)) ∧ pop (bsN f b j) ≤ pop b ∧ ∀ i, i < j → f i = true → pop (bsN f b j) < pop i ∨ pop (bsN f b j) = pop i ∧ (bsN f b j ≤ i ∨ bsN f b j = b) := by
  intro j
  induction j with
  | zero => exact ⟨.inl rfl, Nat.le_refl _, fun i hi => by omega⟩
  | succ j ih =>
    obtain ⟨h1, h2, h3⟩ := ih
    simp only [bsN]
    by_cases hc : (decide (pop j < pop (bsN f b j)) && f j) = true
    · rw [if_pos hc]
      simp only [Bool.and_eq_true, decide_eq_true_eq] at hc
      refine ⟨.inr ⟨by omega, hc.2⟩, by omega, fun i hi hf => ?_⟩
      by_cases e : i = j
      · subst e; exact .inr ⟨rfl, .inl (Nat.le_refl _)⟩
      · have := h3 i (by omega) hf
        exact .inl (by omega)
    · rw [if_neg hc]
      simp only [Bool.and_eq_true, decide_eq_true_eq] at hc
      refine ⟨h1.imp id fun h => ⟨by omega, h.2⟩, h2, fun i hi hf => ?_⟩
      by_cases e : i = j
      · subst e
        have : ¬ pop i < pop (bsN f b i) := fun q => hc ⟨q, hf⟩
        rcases h1 with h | h
        · by_cases q : pop (bsN f b i) = pop i
          · exact .inr ⟨q, .inr h⟩
          · exact .inl (by omega)
        · by_cases q : pop (bsN f b i) = pop i
          · exact .inr ⟨q, .inl (by omega)⟩
          · exact .inl (by omega)
      · exact h3 i (by omega) hf
theorem rset_least {f : Nat → Bool} {m r : Nat} (hm : m ≤ 8) (h : rset f m = some r) : LeastSet f m r := by
  unfold rset at h
  split at h
  · rename_i hf
    cases h
    have hp0 : 0 < 2 ^ m := Nat.pow_pos (by decide)
    have hp : 2 ^ m ≤ 2 ^ 8 := Nat.pow_le_pow_right (by decide) hm
    have hlt := bsN_lt f (2 ^ m - 1) (2 ^ m) (by omega) (2 ^ m) (Nat.le_refl _)
    obtain ⟨h1, h2, h3⟩ := bsN_spec f (2 ^ m - 1) (2 ^ m)
    refine ⟨hlt, ?_, fun i hi hfi => ?_⟩
    · rcases h1 with h | h
      · rw [h]; exact hf
      · exact h.2
    · rcases h3 i hi hfi with q | ⟨q, q2 | q2⟩
      · exact .inl q
      · exact .inr ⟨q, q2⟩
      · refine .inr ⟨q, ?_⟩
        rw [q2] at q
        rw [pop_full m (by omega)] at q
        have := (pop_all m (by omega) i (by omega) hi).2 q.symm
        rw [q2, this]
        exact Nat.le_refl _
  · cases h
/-- The two ways agree, if a set suits whenever a part of it does. -/
theorem few_rset {f : Nat → Bool} {m : Nat} (hm : m ≤ 8) (hmon : ∀ i, i < 2 ^ m → f i = true → f (2 ^ m - 1) = true) : fewV f m = rset f m := by
  cases hr : rset f m with
  | some r =>
    have hl := rset_least hm hr
    cases hw : fewV f m with
    | some w => rw [(fewV_some hw).uniq hl]
    | none => have := fewV_none hm hw r hl.lt; rw [hl.is] at this; cases this
  | none =>
    cases hw : fewV f m with
    | none => rfl
    | some w =>
      have hl := fewV_some hw
      unfold rset at hr
      rw [if_pos (hmon w hl.lt hl.is)] at hr
      cases hr

theorem wrO_zero (x : Ir) (C s : Nat) (o : Int) (n : Nat) : (wrO x C s o n).1 = 0 ↔ ∀ k, k < n → wrB x C s o k = false := by
  induction n with
  | zero => exact ⟨fun _ k hk => by omega, fun _ => rfl⟩
  | succ n ih =>
    simp only [wrO]
    constructor
    · intro h k hk
      by_cases hc : wrB x C s o n = true
      · rw [if_pos hc] at h; simp at h
      · rw [if_neg hc] at h
        by_cases e : k = n
        · subst e; simpa using hc
        · exact ih.1 h k (by omega)
    · intro h
      rw [h n (by omega), if_neg (by decide)]
      exact ih.2 fun k hk => h k (by omega)
theorem flB_cons {x : Ir} {C k s : Nat} {o : Int} {t : List Int} (hc : 0 ≤ (x.cl.getD k cl0).s) : flB x C k s (o :: t) = (wrB x C s o k || flB x C k (s + 1) t) := by
  by_cases e : (x.cl.getD k cl0).s.toNat = s
  · have h1 : flB x C k (s + 1) t = false := by
      simp only [flB]; rw [decide_eq_false (by omega)]; rfl
    rw [h1, Bool.or_false]
    simp only [flB, wrB, List.length_cons]
    rw [decide_eq_true (by omega), e, Nat.sub_self, List.getD_cons_zero, decide_eq_true (by omega : (x.cl.getD k cl0).s = (s : Int))]
  · have h2 : wrB x C s o k = false := by
      simp only [wrB]; rw [decide_eq_false (by omega)]; rfl
    rw [h2, Bool.false_or]
    simp only [flB, List.length_cons]
    by_cases q : s + 1 ≤ (x.cl.getD k cl0).s.toNat
    · obtain ⟨d, hd⟩ : ∃ d, (x.cl.getD k cl0).s.toNat - s = d + 1 := ⟨(x.cl.getD k cl0).s.toNat - s - 1, by omega⟩
      rw [hd, List.getD_cons_succ, show (x.cl.getD k cl0).s.toNat - (s + 1) = d by omega]
      rw [show decide (s ≤ (x.cl.getD k cl0).s.toNat ∧ (x.cl.getD k cl0).s.toNat < s + (t.length + 1)) = decide (s + 1 ≤ (x.cl.getD k cl0).s.toNat ∧ (x.cl.getD k cl0).s.toNat < s + 1 + t.length) from decide_eq_decide.2 (by omega)]
    · rw [decide_eq_false (by omega), decide_eq_false (by omega)]; rfl
/-- No claim of a set is false from this strake on. -/
def noF (x : Ir) (C s : Nat) (t : List Int) : Bool := (List.range x.cl.length).all fun k => !flB x C k s t
theorem noF_cons {x : Ir} (kx : Ok x) (C s : Nat) (o : Int) (t : List Int) : noF x C s (o :: t) = ((!decide (0 < (wrO x C s o x.cl.length).1)) && noF x C (s + 1) t) := by
  rw [Bool.eq_iff_iff]
  simp only [noF, List.all_eq_true, List.mem_range, Bool.and_eq_true, Bool.not_eq_true', decide_eq_false_iff_not]
  constructor
  · intro h
    refine ⟨?_, fun k hk => ?_⟩
    · have : (wrO x C s o x.cl.length).1 = 0 := (wrO_zero x C s o _).2 fun k hk => by
        have := h k hk
        rw [flB_cons (kx.cs k hk).1] at this
        exact (Bool.or_eq_false_iff.1 this).1
      omega
    · have := h k hk
      rw [flB_cons (kx.cs k hk).1] at this
      exact (Bool.or_eq_false_iff.1 this).2
  · rintro ⟨h1, h2⟩ k hk
    rw [flB_cons (kx.cs k hk).1, (wrO_zero x C s o x.cl.length).1 (by omega) k hk, h2 k hk]
    rfl
theorem cont_must {x : Ir} (kx : Ok x) (S C C' : Nat) : ∀ n s u, (∀ j, s ≤ j → j < s + n → S.testBit j = true) → cont x S C true n s u = (cont x S C' false n s u).filter (noF x C s) := by
  intro n
  induction n with
  | zero =>
    intro s u _
    simp only [cont]
    rw [List.filter_cons_of_pos]
    · rfl
    · simp only [noF, List.all_eq_true, List.mem_range, Bool.not_eq_true']
      intro k _
      simp only [flB, List.length_nil, Nat.add_zero]
      rw [decide_eq_false (by omega)]; rfl
  | succ n ih =>
    intro s u hS
    have hb := hS s (Nat.le_refl _) (by omega)
    simp only [cont, nxt, hb, if_true]
    rw [List.flatMap_map, List.flatMap_map, filter_flat]
    have hg : ∀ o, goB x C true s u o = (goB x C' false s u o && !decide (0 < (wrO x C s (o : Int) x.cl.length).1)) := fun o => by
      simp only [goB, Bool.true_and, Bool.false_and, Bool.not_false, Bool.and_true]
    have key : ∀ l : List Nat, (l.filter (goB x C true s u)).flatMap (fun o : Nat => (cont x S C true n (s + 1) (u.set o (u.getD o 0 + 1))).map ((o : Int) :: ·)) =
        (l.filter (goB x C' false s u)).flatMap fun o : Nat => ((cont x S C' false n (s + 1) (u.set o (u.getD o 0 + 1))).map ((o : Int) :: ·)).filter (noF x C s) := by
      intro l
      induction l with
      | nil => rfl
      | cons o l ihl =>
        have e1 : ((cont x S C' false n (s + 1) (u.set o (u.getD o 0 + 1))).map ((o : Int) :: ·)).filter (noF x C s) = if 0 < (wrO x C s (o : Int) x.cl.length).1 then [] else (cont x S C true n (s + 1) (u.set o (u.getD o 0 + 1))).map ((o : Int) :: ·) := by
          rw [List.filter_map]
          have e2 : (noF x C s ∘ ((o : Int) :: ·)) = fun t => (!decide (0 < (wrO x C s (o : Int) x.cl.length).1)) && noF x C (s + 1) t := by
            funext t
            exact noF_cons kx C s o t
          rw [e2]
          by_cases q : 0 < (wrO x C s (o : Int) x.cl.length).1
          · rw [if_pos q, decide_eq_true q]
            simp
          · rw [if_neg q, decide_eq_false q]
            simp only [Bool.not_false, Bool.true_and]
            rw [ih (s + 1) _ fun j h1 h2 => hS j (by omega) (by omega)]
        simp only [List.filter_cons, hg o]
        by_cases h1 : goB x C' false s u o = true
        · rw [h1, Bool.true_and, if_pos rfl, List.flatMap_cons, e1]
          by_cases q : 0 < (wrO x C s (o : Int) x.cl.length).1
          · rw [decide_eq_true q, if_pos q, if_neg (by decide), ihl]; rfl
          · rw [decide_eq_false q, if_neg q, if_pos (by rfl), List.flatMap_cons, ihl]
        · rw [Bool.not_eq_true] at h1
          rw [h1, Bool.false_and, if_neg (by decide), if_neg (by decide), ihl]
    exact key _
theorem okR_iff (x : Ir) (set : Nat) (t : List Int) (n : Nat) : okR x set t n = true ↔ ∀ k, k < n → set.testBit k = true → rightT x t k = true := by
  induction n with
  | zero => exact ⟨fun _ k hk => by omega, fun _ => rfl⟩
  | succ n ih =>
    simp only [okR, Bool.and_eq_true, ih, Bool.or_eq_true, Bool.not_eq_true']
    constructor
    · rintro ⟨h1, h2⟩ k hk hb
      by_cases e : k = n
      · subst e
        rcases h2 with h2 | h2
        · rw [hb] at h2; cases h2
        · exact h2
      · exact h1 k (by omega) hb
    · intro h
      refine ⟨fun k hk => h k (by omega), ?_⟩
      cases hb : set.testBit n with
      | false => exact .inl rfl
      | true => exact .inr (h n (by omega) hb)
theorem noF_okR {x : Ir} (kx : Ok x) {set : Nat} {t : List Int} (ht : t.length = x.st.length) : noF x set 0 t = okR x set t x.cl.length := by
  rw [Bool.eq_iff_iff, okR_iff]
  simp only [noF, List.all_eq_true, List.mem_range, Bool.not_eq_true']
  have hf : ∀ k, k < x.cl.length → flB x set k 0 t = (set.testBit k && !rightT x t k) := fun k hk => by
    have hc := kx.cs k hk
    simp only [flB, rightT, Nat.sub_zero]
    rw [decide_eq_true (by omega), Bool.true_and]
  constructor
  · intro h k hk hb
    have := h k hk
    rw [hf k hk, hb] at this
    simpa using this
  · intro h k hk
    rw [hf k hk]
    cases hb : set.testBit k with
    | false => rfl
    | true => rw [h k hk hb]; rfl
theorem clash_pred {x : Ir} (k : Ok x) (set : Nat) : clP x set = clsB x (truA x) set := by
  have h : truA x = cont x (fullS x) 0 false x.st.length 0 u0 := truS_cont x (fullS x) 0 k.gd
  have e : (tlN x (fullS x) set true).getD 0 = ((truA x).filter (noF x set 0)).length := by
    rw [tlN, tl_eq x (fullS x) set true 1 moreN joinN (fun a b c => Nat.add_assoc a b c) (fun s o a b => rfl), foldN, List.length_map, cont_must k (fullS x) set 0 x.st.length 0 u0 (fun j _ hj => full_bit _ _ (by omega)), ← h]
    intro a ha
    obtain ⟨t, _, rfl⟩ := List.mem_map.1 ha
    exact valN 0 t
  rw [clP, e, Bool.eq_iff_iff, decide_eq_true_eq, List.length_eq_zero_iff, List.filter_eq_nil_iff, clsB, List.all_eq_true]
  constructor
  · intro h t ht
    have := h t ht
    rw [noF_okR k (truA_mem ht).1] at this
    simpa using this
  · intro h t ht
    have := h t ht
    rw [noF_okR k (truA_mem ht).1]
    simpa using this
theorem clash_eq {x : Ir} (k : Ok x) : clashR x = rset (clsB x (truA x)) x.cl.length := by
  have e : clP x = clsB x (truA x) := by funext set; exact clash_pred k set
  rw [clashR, e]
  refine few_rset k.nC fun i hi hf => ?_
  rw [clsB, List.all_eq_true] at hf ⊢
  intro t ht
  have h1 := hf t ht
  rw [Bool.not_eq_true'] at h1 ⊢
  rw [← Bool.not_eq_true, okR_iff] at h1 ⊢
  intro h2
  exact h1 fun k hk _ => h2 k hk (full_bit _ _ hk)
end Go.Proofs.Ytkonoggmdcdeeaa
end
section
set_option linter.unusedVariables false
set_option linter.unusedSimpArgs false
namespace Go.Proofs.Ytkonoggmdcdeeaa
open Go.V
theorem tru_less {x : Ir} {S S' : Nat} : ∀ (n : Nat) (b b' : List Int), b'.length = b.length → (∀ j, b.length ≤ j → j < b.length + n → S'.testBit j = true → S.testBit j = true) → (∀ o : Nat, cntB b' o ≤ cntB b o) → tru x S n b ≠ [] → tru x S' n b' ≠ [] := by
  intro n
  induction n with
  | zero => intro b b' _ _ _ _; simp [tru]
  | succ n ih =>
    intro b b' hl hS hc h
    obtain ⟨t, ht⟩ := List.exists_mem_of_ne_nil _ h
    have hne : ∀ (c c' : List Int), t ∈ tru x S n c → c'.length = c.length → c.length = b.length + 1 → (∀ o : Nat, cntB c' o ≤ cntB c o) → tru x S' n c' ≠ [] := fun c c' hm h1 h2 h3 =>
      ih c c' h1 (fun j q1 q2 => hS j (by omega) (by omega)) h3 (List.ne_nil_of_mem hm)
    cases hb' : S'.testBit b'.length with
    | true =>
      have hb : S.testBit b.length = true := hS b.length (Nat.le_refl _) (by omega) (by rw [← hl]; exact hb')
      rw [tru_yes hb, truP_mem] at ht
      obtain ⟨o, ho, hcan, ht⟩ := ht
      have hcan' : canO x b' o = true := by
        simp only [canO, Bool.and_eq_true, decide_eq_true_eq] at hcan ⊢
        rw [hl]
        exact ⟨hcan.1, by have := hc o; omega⟩
      have := hne (b ++ [(o : Int)]) (b' ++ [(o : Int)]) ht (by simp [hl]) (by simp) (fun q => by rw [cntB_snoc, cntB_snoc]; have := hc q; omega)
      obtain ⟨t', ht'⟩ := List.exists_mem_of_ne_nil _ this
      rw [tru_yes hb']
      exact List.ne_nil_of_mem (truP_mem.2 ⟨o, ho, hcan', ht'⟩)
    | false =>
      rw [tru_no hb']
      cases hb : S.testBit b.length with
      | true =>
        rw [tru_yes hb, truP_mem] at ht
        obtain ⟨o, ho, hcan, ht⟩ := ht
        exact hne (b ++ [(o : Int)]) (b' ++ [-1]) ht (by simp [hl]) (by simp) (fun q => by rw [cntB_snoc, cntB_snoc, if_neg (by omega)]; have := hc q; omega)
      | false =>
        rw [tru_no hb] at ht
        exact hne (b ++ [-1]) (b' ++ [-1]) ht (by simp [hl]) (by simp) (fun q => by rw [cntB_snoc, cntB_snoc, if_neg (by omega)]; have := hc q; omega)
theorem short_eq {x : Ir} (k : Ok x) : shortR x = rset (shD x) x.st.length := by
  have e : shP x = shD x := by
    funext set
    rw [shP, shD, tlN_len k.gd]
  rw [shortR, e]
  refine few_rset (Nat.le_trans k.nS (by decide)) fun i hi hf => ?_
  rw [shD, decide_eq_true_eq, List.length_eq_zero_iff] at hf ⊢
  apply Classical.byContradiction
  intro h
  exact tru_less x.st.length [] [] rfl (fun j _ hj _ => full_bit _ _ (by simp at hj; exact hj)) (fun o => Nat.le_refl _) h hf
end Go.Proofs.Ytkonoggmdcdeeaa
end
section
set_option linter.unusedVariables false
set_option linter.unusedSimpArgs false
set_option maxHeartbeats 4000000
set_option maxRecDepth 100000
namespace Go.Proofs.Ytkonoggmdcdeeaa
open Go.V
/-- Irons of which a strake is known to be an owner's are not too large. -/
def fxB (x : Ir) (s : Nat) : Bool := decide (x.F + 1 ≤ 4) && decide ((x.st.getD s []).length + 1 ≤ 6)
def rowF (x : Ir) (o : Nat) : Nat → List AV := fun j => [intsAV (owW x o j)]
end Go.Proofs.Ytkonoggmdcdeeaa
end
section
set_option linter.unusedVariables false
set_option linter.unusedSimpArgs false
namespace Go.Proofs.Ytkonoggmdcdeeaa
open Go.V
/-- How many truths there are with one of the first owners. -/
def sumO (x : Ir) (s : Nat) : Nat → Nat
  | 0 => 0
  | o + 1 => sumO x s o + ((truA x).filter fun t => decide (t.getD s 0 = (o : Int))).length
theorem fitsN_bit (x : Ir) (s n o : Nat) : (fitsN x s n).testBit o = (decide (o < n) && fitB x o s) := by
  induction n with
  | zero => simp [fitsN]
  | succ n ih =>
    have hlt := fitsN_lt x s n
    simp only [fitsN]
    by_cases h : fitB x n s = true
    · rw [if_pos h, ← or_bit _ _ hlt, Nat.testBit_or, ih, Nat.testBit_two_pow]
      by_cases e : n = o
      · subst e; simp [h]
      · rw [decide_eq_false e, Bool.or_false]
        congr 1
        exact decide_eq_decide.2 (by omega)
    · rw [if_neg h, Nat.add_zero, ih]
      by_cases e : n = o
      · subst e
        rw [Bool.not_eq_true] at h
        simp [h]
      · congr 1
        exact decide_eq_decide.2 (by omega)
theorem who_fits {x : Ir} (k : Ok x) {s : Nat} (hs : s < x.st.length) : who (truA x) s ^^^ (who (truA x) s &&& fitsN x s x.ow.length) = 0 := by
  apply Nat.eq_of_testBit_eq
  intro o
  rw [Nat.testBit_xor, Nat.testBit_and, Nat.zero_testBit]
  cases hb : (who (truA x) s).testBit o with
  | false => rfl
  | true =>
    obtain ⟨t, ht, h2⟩ := (who_bit (truA_own k hs) o).1 hb
    obtain ⟨o', h3, h4⟩ := (truA_mem ht).2 s hs
    have hoo : o = o' := by omega
    subst hoo
    have hfit : fitB x o s = true := by
      have := tru_fit ht s (Nat.zero_le _) (by simp; exact hs) (full_bit _ _ hs)
      rwa [h2, Int.toNat_natCast] at this
    rw [fitsN_bit, decide_eq_true h3, hfit]
    rfl

def wantW (own o : Nat) (nt : Bool) : Int :=
  if nt = true then 2 - (if own.testBit o = false then 0 else if own = 2 ^ o then 2 else 1) else if own.testBit o = false then 0 else if own = 2 ^ o then 2 else 1
end Go.Proofs.Ytkonoggmdcdeeaa
end
section
set_option linter.unusedVariables false
set_option linter.unusedSimpArgs false
set_option maxHeartbeats 4000000
set_option maxRecDepth 100000
namespace Go.Proofs.Ytkonoggmdcdeeaa
open Go.V
/-- The claims of a set, of the first ones. -/
def partL (x : Ir) (set : Nat) : Nat → List Cl
  | 0 => []
  | i + 1 => if set.testBit i = true then partL x set i ++ [x.cl.getD i cl0] else partL x set i
def partI (x : Ir) (set : Nat) : Ir := { x with cl := partL x set x.cl.length }
theorem partL_len (x : Ir) (set i : Nat) : (partL x set i).length ≤ i := by
  induction i with
  | zero => exact Nat.le_refl _
  | succ i ih =>
    simp only [partL]
    split
    · rw [List.length_append]; simp only [List.length_cons, List.length_nil]; omega
    · omega
theorem app_cl (l : List Cl) (c : Cl) (g : Nat → List AV) (hg : g 0 = c.cs) : appF l.length 1 (clF l) g = clF (l ++ [c]) := app_lF Cl.cs cl0 l c g hg
theorem partL_mem {x : Ir} {set : Nat} {c : Cl} : ∀ {i : Nat}, c ∈ partL x set i ↔ ∃ k, k < i ∧ set.testBit k = true ∧ c = x.cl.getD k cl0 := by
  intro i
  induction i with
  | zero => simp [partL]
  | succ i ih =>
    simp only [partL]
    constructor
    · intro h
      split at h
      · rename_i hb
        rcases List.mem_append.1 h with h | h
        · obtain ⟨k, h1, h2⟩ := ih.1 h; exact ⟨k, by omega, h2⟩
        · rw [List.mem_singleton] at h; exact ⟨i, by omega, hb, h⟩
      · obtain ⟨k, h1, h2⟩ := ih.1 h; exact ⟨k, by omega, h2⟩
    · rintro ⟨k, h1, h2, h3⟩
      by_cases e : k = i
      · subst e
        rw [if_pos h2]
        exact List.mem_append_right _ (by rw [h3]; simp)
      · have := ih.2 ⟨k, by omega, h2, h3⟩
        split
        · exact List.mem_append_left _ this
        · exact this
theorem partI_ok {x : Ir} (k : Ok x) (set : Nat) : Ok (partI x set) := by
  have hl : (partI x set).cl.length ≤ 8 := Nat.le_trans (partL_len x set x.cl.length) k.nC
  have hm : ∀ i, i < (partI x set).cl.length → ∃ q, q < x.cl.length ∧ (partI x set).cl.getD i cl0 = x.cl.getD q cl0 := fun i hi => by
    obtain ⟨q, h1, _, h3⟩ := partL_mem.1 (mem_getD (partI x set).cl i cl0 hi)
    exact ⟨q, h1, h3⟩
  refine ⟨k.F, k.nO, k.nM, k.nS, hl, k.ow, k.mo, k.ov, k.st, k.sf, k.sl, fun i hi => ?_, fun i hi => ?_⟩
  · obtain ⟨q, h1, h2⟩ := hm i hi
    rw [h2]; exact k.cs q h1
  · obtain ⟨q, h1, h2⟩ := hm i hi
    rw [h2]; exact k.co q h1
/-- Not all claims of a set can be right: asked of irons with these alone. -/
def cfB (x : Ir) (set : Nat) : Bool := decide (falseE (partI x set) = 0) && decide (0 < (falseP (partI x set)).1)
end Go.Proofs.Ytkonoggmdcdeeaa
end
section
set_option linter.unusedVariables false
set_option linter.unusedSimpArgs false
namespace Go.Proofs.Ytkonoggmdcdeeaa
open Go.V
theorem tru_part (x : Ir) (set S : Nat) : ∀ n b, tru (partI x set) S n b = tru x S n b := by
  intro n
  induction n with
  | zero => intro b; rfl
  | succ n ih =>
    intro b
    simp only [tru, ih]
    rfl
theorem truA_part (x : Ir) (set : Nat) : truA (partI x set) = truA x := tru_part x set _ _ _
theorem wrongN_zero (x : Ir) (t : List Int) (n : Nat) : wrongN x t n = 0 ↔ ∀ k, k < n → rightT x t k = true := by
  induction n with
  | zero => exact ⟨fun _ k hk => by omega, fun _ => rfl⟩
  | succ n ih =>
    have hp : 0 < 2 ^ n := Nat.pow_pos (by decide)
    simp only [wrongN]
    constructor
    · intro h k hk
      by_cases e : k = n
      · subst e
        cases hr : rightT x t k with
        | true => rfl
        | false => rw [hr] at h; simp at h
      · refine ih.1 ?_ k (by omega)
        split at h <;> omega
    · intro h
      have h1 := ih.2 fun k hk => h k (by omega)
      rw [h n (by omega), h1]
      simp
theorem pop_zero_iff : ∀ w, w < 256 → (pop w = 0 ↔ w = 0) := by decide +kernel
theorem false_zero {x : Ir} (k : Ok x) (h : 0 < (truA x).length) : (falseP x).1 = 0 ↔ ∃ t ∈ truA x, wrongT x t = 0 := by
  have e : falseE x = 0 := errE_told k h
  have hw : ∀ t, wrongT x t < 256 := fun t => by
    have h1 := wrongN_lt x t x.cl.length
    have h2 : 2 ^ x.cl.length ≤ 2 ^ 8 := Nat.pow_le_pow_right (by decide) k.nC
    exact Nat.lt_of_lt_of_le h1 h2
  obtain ⟨m, hm⟩ := foldJ_some (l := (truA x).map fun t => (popW x t, wrongT x t)) (by intro q; rw [List.map_eq_nil_iff] at q; rw [q] at h; simp at h)
  have ev : falseP x = m := by rw [falseP, if_pos e, tlW_truth k, hm]; rfl
  obtain ⟨h1, h2⟩ := foldJ_min _ m hm
  obtain ⟨t0, ht0, rfl⟩ := List.mem_map.1 h1
  rw [ev]
  constructor
  · intro hp
    exact ⟨t0, ht0, (pop_zero_iff _ (hw t0)).1 hp⟩
  · rintro ⟨t, ht, hz⟩
    have h3 := h2 _ (List.mem_map.2 ⟨t, ht, rfl⟩)
    have h4 : popW x t = 0 := (pop_zero_iff _ (hw t)).2 hz
    rw [← Bool.not_eq_true, lessB_iff, h4] at h3
    simp only [] at h3
    omega
theorem wrong_part (x : Ir) (set : Nat) (t : List Int) : wrongT (partI x set) t = 0 ↔ okR x set t x.cl.length = true := by
  rw [wrongT, wrongN_zero, okR_iff]
  have hr : ∀ (y : Ir) k, rightT y t k = rightO (y.cl.getD k cl0) (t.getD (y.cl.getD k cl0).s.toNat 0) := fun _ _ => rfl
  constructor
  · intro h k hk hb
    have hm : x.cl.getD k cl0 ∈ (partI x set).cl := partL_mem.2 ⟨k, hk, hb, rfl⟩
    obtain ⟨i, hi, he⟩ := List.getElem_of_mem hm
    have := h i hi
    rw [hr, List.getD_eq_getElem?_getD, List.getElem?_eq_getElem hi, Option.getD_some, he] at this
    rw [hr]; exact this
  · intro h i hi
    obtain ⟨k, h1, h2, h3⟩ := partL_mem.1 (mem_getD (partI x set).cl i cl0 hi)
    have := h k h1 h2
    rw [hr] at this ⊢
    rw [h3]; exact this
theorem cfB_eq {x : Ir} (k : Ok x) (h : 0 < (truA x).length) (set : Nat) : cfB x set = clsB x (truA x) set := by
  have kp := partI_ok k set
  have hp : 0 < (truA (partI x set)).length := by rw [truA_part]; exact h
  have e : falseE (partI x set) = 0 := errE_told kp hp
  have hz := false_zero kp hp
  rw [truA_part] at hz
  rw [cfB, e, Bool.eq_iff_iff]
  simp only [decide_true, Bool.true_and, decide_eq_true_eq, clsB, List.all_eq_true, Bool.not_eq_true']
  constructor
  · intro hpos t ht
    rw [← Bool.not_eq_true, ← wrong_part]
    intro hw
    have := hz.2 ⟨t, ht, hw⟩
    omega
  · intro hall
    apply Nat.pos_of_ne_zero
    intro hzz
    obtain ⟨t, ht, hw⟩ := hz.1 hzz
    have := hall t ht
    rw [(wrong_part x set t).1 hw] at this
    cases this
theorem false_full {x : Ir} (k : Ok x) (h : 0 < (truA x).length) : decide ((falseP x).1 = 0) = !clsB x (truA x) (2 ^ x.cl.length - 1) := by
  have e : ∀ t, wrongT x t = 0 ↔ okR x (2 ^ x.cl.length - 1) t x.cl.length = true := fun t => by
    rw [wrongT, wrongN_zero, okR_iff]
    exact ⟨fun h k hk _ => h k hk, fun h k hk => h k hk (full_bit _ _ hk)⟩
  rw [Bool.eq_iff_iff, decide_eq_true_eq, false_zero k h]
  simp only [Bool.not_eq_true', clsB, List.all_eq_false, Bool.not_eq_true, Bool.not_eq_false', Bool.not_eq_false]
  exact ⟨fun ⟨t, h1, h2⟩ => ⟨t, h1, (e t).1 h2⟩, fun ⟨t, h1, h2⟩ => ⟨t, h1, (e t).2 h2⟩⟩
theorem cls_zero {x : Ir} (h : 0 < (truA x).length) : clsB x (truA x) 0 = false := by
  rw [clsB, List.all_eq_false]
  refine ⟨_, mem_getD (truA x) 0 [] h, ?_⟩
  rw [(okR_iff x 0 _ _).2 fun k _ hb => by rw [Nat.zero_testBit] at hb; cases hb]
  decide
theorem pop_less : ∀ i, i < 8 → ∀ r, r < 256 → r.testBit i = true → r ^^^ (r &&& 2 ^ i) < 256 ∧ pop (r ^^^ (r &&& 2 ^ i)) < pop r := by decide +kernel
theorem clash_cases {x : Ir} (k : Ok x) (h : 0 < (truA x).length) : (clashR x = none ∧ (falseP x).1 = 0) ∨ ∃ r, clashR x = some r ∧ (falseP x).1 ≠ 0 ∧ 1 ≤ r ∧ r < 2 ^ x.cl.length ∧ cfB x r = true ∧ (∀ i, i < x.cl.length → r.testBit i = true → cfB x (r ^^^ (r &&& 2 ^ i)) = false) ∧ ∀ o, o < 2 ^ x.cl.length → cfB x o = true → pop r < pop o ∨ pop r = pop o ∧ r ≤ o := by
  have hf := false_full k h
  have nC := k.nC
  have hp : 2 ^ x.cl.length ≤ 2 ^ 8 := Nat.pow_le_pow_right (by decide) nC
  have he : clP x = clsB x (truA x) := by funext set; exact clash_pred k set
  have hr := clash_eq k
  cases hc : clashR x with
  | none =>
    left
    rw [hc] at hr
    refine ⟨rfl, ?_⟩
    unfold rset at hr
    split at hr
    · cases hr
    · rename_i q
      rw [Bool.not_eq_true] at q
      rw [q] at hf
      exact of_decide_eq_true hf
  | some r =>
    right
    have hs := hc
    rw [clashR, he] at hs
    have L := fewV_some hs
    rw [hc] at hr
    have hff : clsB x (truA x) (2 ^ x.cl.length - 1) = true := by
      unfold rset at hr
      split at hr
      · assumption
      · cases hr
    rw [hff] at hf
    refine ⟨r, rfl, of_decide_eq_false hf, ?_, L.lt, by rw [cfB_eq k h]; exact L.is, fun i hi hb => ?_, fun o ho hco => L.le o ho (by rw [← cfB_eq k h]; exact hco)⟩
    · apply Nat.pos_of_ne_zero
      rintro rfl
      have := L.is
      rw [cls_zero h] at this
      cases this
    · have hl := L.lt
      obtain ⟨q1, q2⟩ := pop_less i (by omega) r (by omega) hb
      rw [cfB_eq k h, ← Bool.not_eq_true]
      intro hco
      have hlt : r ^^^ (r &&& 2 ^ i) < 2 ^ x.cl.length := Nat.xor_lt_two_pow hl (Nat.lt_of_le_of_lt Nat.and_le_left hl)
      have := L.le _ hlt hco
      omega
end Go.Proofs.Ytkonoggmdcdeeaa
end
section
set_option linter.unusedVariables false
set_option linter.unusedSimpArgs false
set_option maxHeartbeats 4000000
set_option maxRecDepth 100000
namespace Go.Proofs.Ytkonoggmdcdeeaa
open Go.V
/-- Without the claims of a set the others can be right. -/
def cnB (x : Ir) (e set : Nat) : Bool := decide (setE (errE (partI x (e ^^^ (e &&& set))) true true) (clashR (partI x (e ^^^ (e &&& set)))) = 4)
end Go.Proofs.Ytkonoggmdcdeeaa
end
section
set_option linter.unusedVariables false
set_option linter.unusedSimpArgs false
namespace Go.Proofs.Ytkonoggmdcdeeaa
open Go.V
/-- A set is a part of another. -/
def SubB (w s : Nat) : Prop := ∀ j, w.testBit j = true → s.testBit j = true
theorem SubB.half {w s : Nat} (h : SubB w s) : SubB (w / 2) (s / 2) := fun j hj => by
  rw [Nat.testBit_div_two] at hj ⊢
  exact h _ hj
theorem SubB.odd {w s : Nat} (h : SubB w s) : w % 2 ≤ s % 2 := by
  have := h 0
  rw [Nat.testBit_zero, Nat.testBit_zero, decide_eq_true_eq, decide_eq_true_eq] at this
  omega
theorem SubB.popN : ∀ (f : Nat) {w s : Nat}, SubB w s → popN f w ≤ popN f s
  | 0, _, _, _ => Nat.le_refl _
  | f + 1, w, s, h => Nat.add_le_add h.odd (SubB.popN f h.half)
theorem SubB.pop {w s : Nat} (h : SubB w s) : pop w ≤ pop s := SubB.popN 64 h
theorem SubB.le {w s : Nat} (h : SubB w s) : w ≤ s := by
  have e : w &&& s = w := by
    apply Nat.eq_of_testBit_eq
    intro j
    rw [Nat.testBit_and]
    cases hb : w.testBit j with
    | false => rfl
    | true => rw [h j hb]; rfl
  rw [← e]
  exact Nat.and_le_right
/-- The truth that False tells of. -/
structure FSpec (x : Ir) (t0 : List Int) : Prop where
  mem : t0 ∈ truA x
  val : falseP x = (popW x t0, wrongT x t0)
  le : ∀ t ∈ truA x, popW x t0 < popW x t ∨ popW x t0 = popW x t ∧ wrongT x t0 ≤ wrongT x t
theorem false_spec {x : Ir} (k : Ok x) (h : 0 < (truA x).length) : ∃ t0, FSpec x t0 := by
  have e : falseE x = 0 := errE_told k h
  obtain ⟨m, hm⟩ := foldJ_some (l := (truA x).map fun t => (popW x t, wrongT x t)) (by intro q; rw [List.map_eq_nil_iff] at q; rw [q] at h; simp at h)
  have ev : falseP x = m := by rw [falseP, if_pos e, tlW_truth k, hm]; rfl
  obtain ⟨h1, h2⟩ := foldJ_min _ m hm
  obtain ⟨t0, ht0, rfl⟩ := List.mem_map.1 h1
  refine ⟨t0, ht0, ev, fun t ht => ?_⟩
  have := h2 _ (List.mem_map.2 ⟨t, ht, rfl⟩)
  rw [← Bool.not_eq_true, lessB_iff] at this
  simp only [] at this
  omega
theorem wrongT_lt8 {x : Ir} (k : Ok x) (t : List Int) : wrongT x t < 2 ^ x.cl.length ∧ 2 ^ x.cl.length ≤ 2 ^ 8 := ⟨wrongN_lt x t _, Nat.pow_le_pow_right (by decide) k.nC⟩
theorem lik_pos {x : Ir} (k : Ok x) {t0 : List Int} (f : FSpec x t0) {s : Nat} (hs : s < x.st.length) : 1 ≤ likN x s x.ow.length := by
  have h : 0 < (truA x).length := List.length_pos_of_mem f.mem
  have hb : t0 ∈ bestL x := bestL_iff.2 ⟨f.mem, fun t ht => by have := f.le t ht; omega⟩
  obtain ⟨o, h1, h2⟩ := (truA_mem f.mem).2 s hs
  apply Nat.pos_of_ne_zero
  intro hz
  have : (likN x s x.ow.length).testBit o = true := by
    rw [likN_bit, decide_eq_true h1, Bool.true_and, likB_iff k hs h1]
    exact ⟨t0, hb, h2⟩
  rw [hz, Nat.zero_testBit] at this
  cases this
end Go.Proofs.Ytkonoggmdcdeeaa
end
section
set_option linter.unusedVariables false
set_option linter.unusedSimpArgs false
namespace Go.Proofs.Ytkonoggmdcdeeaa
open Go.V
def stR (x : Ir) (s : Nat) (m : Mk) (j : Nat) : List Mk := if j = s then x.st.getD s [] ++ [m] else x.st.getD j []
def readI (x : Ir) (s : Nat) (m : Mk) : Ir := { x with st := (List.range x.st.length).map (stR x s m) }
def saidI (x : Ir) (c : Cl) : Ir := { x with cl := x.cl ++ [c] }
def moR (x : Ir) (o j : Nat) : Int := if j = o then min 6 (x.mo.getD o 0 + 1) else x.mo.getD j 0
def moreI (x : Ir) (o : Nat) : Ir := { x with mo := (List.range x.mo.length).map (moR x o) }

theorem flat_sub {α β : Type} {f g : α → List β} : ∀ {l : List α}, (∀ a ∈ l, (f a).Sublist (g a)) → (l.flatMap f).Sublist (l.flatMap g)
  | [], _ => by simp
  | a :: l, h => by
    simp only [List.flatMap_cons]
    exact List.Sublist.append (h a (by simp)) (flat_sub fun b hb => h b (by simp [hb]))
theorem tru_sub {x y : Ir} {S : Nat} (hl : y.ow.length = x.ow.length) {L : Nat} (hc : ∀ b o, o < x.ow.length → b.length < L → canO y b o = true → canO x b o = true) :
    ∀ n b, b.length + n ≤ L → (tru y S n b).Sublist (tru x S n b) := by
  intro n
  induction n with
  | zero => intro b _; exact List.Sublist.refl _
  | succ n ih =>
    intro b hb
    cases hS : S.testBit b.length with
    | true =>
      simp only [tru, hS, if_true, hl]
      refine flat_sub fun o ho => ?_
      rw [List.mem_range] at ho
      by_cases h : canO y b o = true
      · rw [if_pos h, if_pos (hc b o ho (by omega) h)]
        exact ih _ (by simp; omega)
      · rw [if_neg h]
        exact List.nil_sublist _
    | false =>
      rw [tru_no hS, tru_no hS]
      exact ih _ (by simp; omega)

/-- The same irons, but for more marks. -/
structure LessI (x y : Ir) : Prop where
  ow : y.ow = x.ow
  mo : y.mo = x.mo
  cl : y.cl = x.cl
  len : y.st.length = x.st.length
  fit : ∀ o s, s < x.st.length → fitB y o s = true → fitB x o s = true
theorem LessI.refl (x : Ir) : LessI x x := ⟨rfl, rfl, rfl, rfl, fun _ _ _ h => h⟩
theorem LessI.tru {x y : Ir} (h : LessI x y) : (truA y).Sublist (truA x) := by
  have := tru_sub (x := x) (y := y) (S := 2 ^ x.st.length - 1) (by rw [h.ow]) (L := x.st.length) (fun b o ho hb hc => by
    simp only [canO, Bool.and_eq_true] at hc ⊢
    rw [h.mo] at hc
    exact ⟨h.fit _ _ hb hc.1, hc.2⟩) x.st.length [] (by simp)
  unfold truA truS
  rw [h.len]
  exact this
theorem LessI.wrong {x y : Ir} (h : LessI x y) (t : List Int) : wrongT y t = wrongT x t := by
  have : ∀ n, wrongN y t n = wrongN x t n := by
    intro n
    induction n with
    | zero => rfl
    | succ n ih =>
      have e : rightT y t n = rightT x t n := by unfold rightT; rw [h.cl]
      simp only [wrongN, ih, e]
  unfold wrongT
  rw [this, h.cl]
/-- What False says of irons with more marks. -/
theorem LessI.few {x y : Ir} (h : LessI x y) (kx : Ok x) (ky : Ok y) (e : falseE y = 0) : falseE x = 0 ∧ (falseP x).1 ≤ (falseP y).1 := by
  have hp : 0 < (truA y).length := by
    apply Nat.pos_of_ne_zero
    intro hz
    have : falseE y = 10 := errE_clash ky hz
    omega
  have hpx : 0 < (truA x).length := Nat.lt_of_lt_of_le hp h.tru.length_le
  obtain ⟨t1, g⟩ := false_spec ky hp
  obtain ⟨t0, f⟩ := false_spec kx hpx
  refine ⟨errE_told kx hpx, ?_⟩
  have := f.le t1 (h.tru.subset g.mem)
  rw [f.val, g.val]
  have e1 : popW y t1 = popW x t1 := by unfold popW; rw [h.wrong]
  simp only [e1]
  omega
end Go.Proofs.Ytkonoggmdcdeeaa
end
section
set_option linter.unusedVariables false
namespace Go.V
/-- l is an order of all operations that are not in 'done', each behind what B puts ahead of it. -/
structure TopoB (ops : Array Oper) (B : Nat → Nat → Bool) (done : Nat → Prop) (l : List Nat) : Prop where
  lt : ∀ i ∈ l, i < ops.size
  nodup : l.Nodup
  apart : ∀ i ∈ l, ¬ done i
  all : ∀ i, i < ops.size → done i ∨ i ∈ l
  edges : ∀ l1 i l2, l = l1 ++ i :: l2 → ∀ k, B i k = true → done k ∨ k ∈ l1
theorem TopoB.tail {ops : Array Oper} {B : Nat → Nat → Bool} {done : Nat → Prop} {i : Nat} {l : List Nat} (h : TopoB ops B done (i :: l)) : TopoB ops B (fun j => done j ∨ j = i) l where
  lt := fun j hj => h.lt j (by simp [hj])
  nodup := (List.nodup_cons.1 h.nodup).2
  apart := fun j hj hd => by
    rcases hd with hd | rfl
    · exact h.apart j (by simp [hj]) hd
    · exact (List.nodup_cons.1 h.nodup).1 hj
  all := fun j hj => by
    rcases h.all j hj with hd | hm
    · exact .inl (.inl hd)
    · rcases List.mem_cons.1 hm with rfl | hm
      · exact .inl (.inr rfl)
      · exact .inr hm
  edges := fun l1 j l2 hl k hb => by
    rcases h.edges (i :: l1) j l2 (by rw [hl]; rfl) k hb with hd | hm
    · exact .inl (.inl hd)
    · rcases List.mem_cons.1 hm with hm | hm
      · exact .inl (.inr hm)
      · exact .inr hm
theorem TopoB.head {ops : Array Oper} {B : Nat → Nat → Bool} {done : Nat → Prop} {i k : Nat} {l : List Nat} (h : TopoB ops B done (i :: l)) (hb : B i k = true) : done k := by
  rcases h.edges [] i l rfl k hb with hd | hm
  · exact hd
  · simp at hm

structure Plan3 (ops : Array Oper) (B : Nat → Nat → Bool) (sg : Nat → Nat) (stages : List Stg) (last : List Nat) : Prop where
  ssa : ∀ i k, i < ops.size → k < ops.size → ∀ d, (opAt ops.toList k).dst = some d → (d ∈ readsOf ops.toList (opAt ops.toList i) → B i k = true ∨ (B k i = true ∧ sg k % 2 = 1)) ∧ (k ≠ i → (opAt ops.toList i).dst ≠ some d)
  st : ∀ j st kp e, stages[j]? = some (st, kp, e) → st = (List.range ops.size).filter (fun i => sg i == 2 * j) ∧ e < ops.size ∧ (∀ i, i < ops.size → (sg i = 2 * j + 1 ↔ i = e)) ∧
    (∀ i, i < ops.size → 2 * j + 2 ≤ sg i → B i e = true) ∧
    (∀ i, i < ops.size → sg i % 2 = 0 → sg i ≤ 2 * j → B e i = true ∨ heapFree (opAt ops.toList i).op = true ∨ i ∈ kp)
  last : last = (List.range ops.size).filter (fun i => sg i == 2 * stages.length)
  le : ∀ i, i < ops.size → sg i ≤ 2 * stages.length
  ord : ∀ i k, i < ops.size → k < ops.size → B i k = true → sg k ≤ sg i
  lt : ∀ i k, i < ops.size → k < ops.size → B i k = true → sg i = sg k → sg i % 2 = 0 → k < i

def ordersOf (all : List Oper) : Nat → List Nat → List (List Nat)
  | 0, _ => [[]]
  | n + 1, rem => rem.flatMap fun e => if rem.any (fun k => bitM all e k) = true then [] else (ordersOf all n (rem.filter fun k => k != e)).map (e :: ·)
/-- What stands ahead of an operation, where the effects come in this order. -/
def bitE (all : List Oper) (E : List Nat) (i k : Nat) : Bool := bitM all i k || E.any fun eb => (i == eb || bitM all i eb) && (E.takeWhile fun x => x != eb).any fun ea => k == ea || bitM all ea k
theorem Topo.before {ops : Array Oper} {l : List Nat} (h : Topo ops (fun _ => False) l) {j i : Nat} (ha : Anc ops j i) : ∀ l1 l2, l = l1 ++ i :: l2 → j ∈ l1 := by
  induction ha with
  | edge ho he hb hj =>
    intro l1 l2 hl
    subst hj
    exact (h.edges l1 _ l2 hl _ ho _ he hb).resolve_left id
  | trans h1 h2 ih1 ih2 =>
    intro l1 l2 hl
    obtain ⟨a, b, rfl⟩ := List.append_of_mem (ih2 l1 l2 hl)
    have := ih1 a (b ++ _ :: l2) (by rw [hl, List.append_assoc]; rfl)
    exact List.mem_append_left _ this
abbrev Pln := List Nat × List Stg × List Nat
def plan3Ok (ops : Array Oper) (E : List Nat) (sg : List Nat) (stages : List Stg) (last : List Nat) : Bool :=
  decide (stages.map (fun x => x.2.2) = E) &&
  ((List.range ops.size).all fun i => (List.range ops.size).all fun k => match (opAt ops.toList k).dst with
    | some d => (!(readsOf ops.toList (opAt ops.toList i)).contains d || bitE ops.toList E i k || (bitE ops.toList E k i && sg.getD k 0 % 2 == 1)) && (decide (k = i) || decide ((opAt ops.toList i).dst ≠ some d))
    | none => true) &&
  ((List.range stages.length).all fun j => match stages[j]? with
    | some (st, kp, e) => decide (st = (List.range ops.size).filter fun i => sg.getD i 0 == 2 * j) && decide (e < ops.size) &&
        ((List.range ops.size).all fun i => decide (sg.getD i 0 = 2 * j + 1) == decide (i = e)) &&
        ((List.range ops.size).all fun i => decide (sg.getD i 0 < 2 * j + 2) || bitE ops.toList E i e) &&
        ((List.range ops.size).all fun i => sg.getD i 0 % 2 == 1 || decide (2 * j < sg.getD i 0) || bitE ops.toList E e i || heapFree (opAt ops.toList i).op || kp.contains i)
    | none => true) &&
  decide (last = (List.range ops.size).filter fun i => sg.getD i 0 == 2 * stages.length) &&
  ((List.range ops.size).all fun i => decide (sg.getD i 0 ≤ 2 * stages.length)) &&
  ((List.range ops.size).all fun i => (List.range ops.size).all fun k => !bitE ops.toList E i k || (decide (sg.getD k 0 ≤ sg.getD i 0) && (decide (sg.getD i 0 ≠ sg.getD k 0) || decide (sg.getD i 0 % 2 ≠ 0) || decide (k < i))))

/-- A region whose order is open: a plan for each order of its effects. -/
def draw3Ok (P : Program) (ops : Array Oper) (effs : List Nat) (plans : List Pln) : Bool :=
  (P.follows .mixedOrders || !Region.departs ops) &&
  ((List.range ops.size).all fun k => match ops[k]? with
    | some o => o.after.toList.all fun e => !Region.binds .any e || decide (e.on < k)
    | none => true) &&
  effs.all (fun e => decide (e < ops.size)) && decide effs.Nodup &&
  (ordersOf ops.toList effs.length effs).all fun E => plans.any fun p => plan3Ok ops E p.1 p.2.1 p.2.2

section
variable {r : Option Nat} {P : Program} {m : Option Tmp → Bool} {n : Nat} {k : List It} {s : Fr} {ds : List AD} {H : Hp} {Q : Post}
end
end Go.V
end
section
set_option linter.unusedVariables false
namespace Go.V
def CutS {σ : Type} (inv : σ → Prop) (fr : σ → List (Nat × AV)) (hp : σ → Hp) (ds0 : List AD) : Post := fun e s ds H => match e with
  | .normal => Ent s ds H fun s2 ds2 H2 => ∃ x, inv x ∧ s2 = Fr.of (fr x) ∧ ds2 = ds0 ∧ H2 = hp x
  | _ => False
section
variable {P : Program} {m : Option Tmp → Bool} {n : Nat} {k : List It} {s : Fr} {ds : List AD} {H : Hp} {Q : Post}
end
end Go.V
end
section
set_option linter.unusedVariables false
set_option linter.unusedSimpArgs false
namespace Go.Proofs.Ytkonoggmdcdeeaa
open Go.V
def cn (p : Nat → Bool) : Nat → Nat
  | 0 => 0
  | n + 1 => cn p n + if p n = true then 1 else 0
def sm (g : Nat → Nat) : Nat → Nat
  | 0 => 0
  | n + 1 => sm g n + g n
def anyN (p : Nat → Bool) : Nat → Bool
  | 0 => false
  | n + 1 => anyN p n || p n
theorem anyN_iff (p : Nat → Bool) (n : Nat) : anyN p n = true ↔ ∃ s, s < n ∧ p s = true := by
  induction n with
  | zero => exact ⟨fun h => (by cases h), fun ⟨_, h, _⟩ => (by omega)⟩
  | succ n ih =>
    simp only [anyN, Bool.or_eq_true, ih]
    constructor
    · rintro (⟨s, h1, h2⟩ | h)
      · exact ⟨s, by omega, h2⟩
      · exact ⟨n, by omega, h⟩
    · rintro ⟨s, h1, h2⟩
      by_cases e : s = n
      · subst e; exact .inr h2
      · exact .inl ⟨s, by omega, h2⟩
theorem cn_congr {p q : Nat → Bool} {n : Nat} (h : ∀ s, s < n → p s = q s) : cn p n = cn q n := by
  induction n with
  | zero => rfl
  | succ n ih => simp only [cn, ih fun s hs => h s (by omega), h n (by omega)]
theorem cn_mono {p q : Nat → Bool} {n : Nat} (h : ∀ s, s < n → p s = true → q s = true) : cn p n ≤ cn q n := by
  induction n with
  | zero => exact Nat.le_refl _
  | succ n ih =>
    have := ih fun s hs => h s (by omega)
    have h2 := h n (by omega)
    simp only [cn]
    split
    · rename_i hp; rw [if_pos (h2 hp)]; omega
    · omega
theorem cn_split (p q : Nat → Bool) (n : Nat) : cn p n = cn (fun s => p s && q s) n + cn (fun s => p s && !q s) n := by
  induction n with
  | zero => rfl
  | succ n ih =>
    have key : ∀ a b : Bool, (if a = true then 1 else 0) = (if (a && b) = true then 1 else 0) + if (a && !b) = true then 1 else 0 := by decide
    simp only [cn, ih]
    rw [key (p n) (q n)]
    omega
theorem cn_zero {p : Nat → Bool} {n : Nat} : cn p n = 0 ↔ ∀ s, s < n → p s = false := by
  induction n with
  | zero => exact ⟨fun _ s h => by omega, fun _ => rfl⟩
  | succ n ih =>
    simp only [cn]
    constructor
    · intro h s hs
      by_cases e : s = n
      · subst e
        cases hp : p s with
        | false => rfl
        | true => rw [hp] at h; simp at h
      · exact ih.1 (by omega) s (by omega)
    · intro h
      rw [h n (by omega), ih.2 fun s hs => h s (by omega)]
      rfl
theorem cn_one {s n : Nat} (h : s < n) : cn (fun j => decide (j = s)) n = 1 := by
  induction n with
  | zero => omega
  | succ n ih =>
    simp only [cn]
    by_cases e : n = s
    · subst e
      rw [cn_zero.2 fun j hj => decide_eq_false (by omega), if_pos (by simp)]
    · rw [ih (by omega), if_neg (by simp [e])]
theorem sm_mono {f g : Nat → Nat} {n : Nat} (h : ∀ o, o < n → f o ≤ g o) : sm f n ≤ sm g n := by
  induction n with
  | zero => exact Nat.le_refl _
  | succ n ih =>
    have := ih fun s hs => h s (by omega)
    have := h n (by omega)
    simp only [sm]
    omega
theorem sm_add (f g : Nat → Nat) (n : Nat) : sm (fun o => f o + g o) n = sm f n + sm g n := by
  induction n with
  | zero => rfl
  | succ n ih => simp only [sm, ih]; omega
theorem sm_congr {f g : Nat → Nat} {n : Nat} (h : ∀ o, o < n → f o = g o) : sm f n = sm g n := by
  induction n with
  | zero => rfl
  | succ n ih => simp only [sm, ih fun s hs => h s (by omega), h n (by omega)]
theorem sm_one (a n : Nat) : sm (fun o => if o = a then 1 else 0) n ≤ 1 := by
  induction n with
  | zero => exact Nat.zero_le _
  | succ n ih =>
    simp only [sm]
    by_cases e : n = a
    · subst e
      have : sm (fun o => if o = n then 1 else 0) n = 0 := by
        have : ∀ m, m ≤ n → sm (fun o => if o = n then 1 else 0) m = 0 := by
          intro m
          induction m with
          | zero => intro _; rfl
          | succ m ih => intro hm; simp only [sm, ih (by omega)]; rw [if_neg (by omega)]
        exact this n (Nat.le_refl _)
      rw [this, if_pos rfl]
      exact Nat.le_refl _
    · rw [if_neg e]; omega
theorem sm_pos {f : Nat → Nat} {n : Nat} (h : 0 < sm f n) : ∃ o, o < n ∧ 0 < f o := by
  induction n with
  | zero => exact absurd h (Nat.lt_irrefl 0)
  | succ n ih =>
    by_cases e : 0 < f n
    · exact ⟨n, by omega, e⟩
    · simp only [sm] at h
      obtain ⟨o, h1, h2⟩ := ih (by omega)
      exact ⟨o, by omega, h2⟩
/-- A set is told by where its members go. -/
theorem cn_sum {p : Nat → Bool} {f : Nat → Nat} {O n : Nat} (h : ∀ s, s < n → p s = true → f s < O) : cn p n = sm (fun o => cn (fun s => p s && decide (f s = o)) n) O := by
  induction n with
  | zero =>
    have : ∀ O, sm (fun o => cn (fun s => p s && decide (f s = o)) 0) O = 0 := fun O => by
      induction O with
      | zero => rfl
      | succ O ih => simp only [sm, ih]; rfl
    rw [this]; rfl
  | succ n ih =>
    have e : sm (fun o => cn (fun s => p s && decide (f s = o)) (n + 1)) O = sm (fun o => cn (fun s => p s && decide (f s = o)) n) O + sm (fun o => if (p n && decide (f n = o)) = true then 1 else 0) O := by
      rw [← sm_add]
      exact sm_congr fun o _ => rfl
    rw [e, ← ih fun s hs => h s (by omega)]
    simp only [cn]
    congr 1
    cases hp : p n with
    | false =>
      have : ∀ O, sm (fun o => if (false && decide (f n = o)) = true then 1 else 0) O = 0 := fun O => by
        induction O with
        | zero => rfl
        | succ O ih => simp only [sm, ih]; rfl
      rw [this]; rfl
    | true =>
      have hf := h n (by omega) hp
      simp only [Bool.true_and, decide_eq_true_eq]
      have : ∀ m, sm (fun o => if f n = o then 1 else 0) m = if f n < m then 1 else 0 := fun m => by
        induction m with
        | zero => rfl
        | succ m ih =>
          simp only [sm, ih]
          by_cases e1 : f n < m
          · rw [if_pos e1, if_neg (by omega), if_pos (by omega)]
          · by_cases e2 : f n = m
            · rw [if_neg e1, if_pos e2, if_pos (by omega)]
            · rw [if_neg e1, if_neg e2, if_neg (by omega)]
      rw [this, if_pos hf, if_pos trivial]

section
variable (fit : Nat → Nat → Bool) (O N : Nat)
/-- Some strake of the set may be this owner's. -/
def nb (q : Nat → Bool) (o : Nat) : Bool := anyN (fun s => q s && fit o s) N
def cpN (cap : Nat → Nat) (q : Nat → Bool) : Nat := sm (fun o => if nb fit N q o = true then cap o else 0) O
structure Asg (cap : Nat → Nat) (p : Nat → Bool) (f : Nat → Nat) : Prop where
  fit : ∀ s, s < N → p s = true → f s < O ∧ fit (f s) s = true
  cap : ∀ o, o < O → cn (fun s => p s && decide (f s = o)) N ≤ cap o
variable {fit O N}
theorem Asg.need {cap : Nat → Nat} {p q : Nat → Bool} {f : Nat → Nat} (a : Asg fit O N cap p f) (h : ∀ s, s < N → q s = true → p s = true) : cn q N ≤ cpN fit O N cap q := by
  rw [cn_sum (f := f) (O := O) fun s hs hq => (a.fit s hs (h s hs hq)).1]
  refine sm_mono fun o ho => ?_
  by_cases e : nb fit N q o = true
  · rw [if_pos e]
    refine Nat.le_trans (cn_mono fun s hs hh => ?_) (a.cap o ho)
    rw [Bool.and_eq_true] at hh ⊢
    exact ⟨h s hs hh.1, hh.2⟩
  · rw [if_neg e, cn_zero.2]
    · exact Nat.le_refl _
    · intro s hs
      rw [← Bool.not_eq_true]
      intro hh
      rw [Bool.and_eq_true, decide_eq_true_eq] at hh
      exact e ((anyN_iff _ _).2 ⟨s, hs, by rw [Bool.and_eq_true]; exact ⟨hh.1, hh.2 ▸ (a.fit s hs (h s hs hh.1)).2⟩⟩)
theorem hall : ∀ (k : Nat) (p : Nat → Bool) (cap : Nat → Nat), cn p N = k → (∀ q, (∀ s, s < N → q s = true → p s = true) → cn q N ≤ cpN fit O N cap q) → ∃ f, Asg fit O N cap p f := by
  intro k
  induction k using Nat.strongRecOn with
  | ind k ih =>
    intro p cap hk hall
    by_cases hz : k = 0
    · subst hz
      rw [cn_zero] at hk
      exact ⟨fun _ => 0, fun s hs hp => (by rw [hk s hs] at hp; cases hp), fun o _ => by
        rw [cn_zero.2 fun s hs => by rw [hk s hs]; rfl]; exact Nat.zero_le _⟩
    · by_cases ht : ∃ T : Nat → Bool, (∀ s, s < N → T s = true → p s = true) ∧ 0 < cn T N ∧ cn T N < k ∧ cpN fit O N cap T = cn T N
      · obtain ⟨T, t1, t2, t3, t4⟩ := ht
        obtain ⟨f1, a1⟩ := ih (cn T N) t3 T cap rfl fun q hq => hall q fun s hs h => t1 s hs (hq s hs h)
        have hsp := cn_split p T N
        have eT : cn (fun s => p s && T s) N = cn T N := cn_congr fun s hs => by
          cases h : T s with
          | false => rw [Bool.and_false]
          | true => rw [t1 s hs h]; rfl
        obtain ⟨f2, a2⟩ := ih (cn (fun s => p s && !T s) N) (by omega) (fun s => p s && !T s) (fun o => if nb fit N T o = true then 0 else cap o) rfl fun V hV => by
          have hW := hall (fun s => T s || V s) fun s hs h => by
            rw [Bool.or_eq_true] at h
            rcases h with h | h
            · exact t1 s hs h
            · have := hV s hs h
              rw [Bool.and_eq_true] at this
              exact this.1
          have hs2 := cn_split (fun s => T s || V s) T N
          have e1 : cn (fun s => (T s || V s) && T s) N = cn T N := cn_congr fun s hs => by cases T s <;> simp
          have e2 : cn (fun s => (T s || V s) && !T s) N = cn V N := cn_congr fun s hs => by
            cases hv : V s with
            | false => cases T s <;> rfl
            | true =>
              have := hV s hs hv
              rw [Bool.and_eq_true] at this
              cases hT : T s with
              | false => rfl
              | true => rw [hT] at this; cases this.2
          have e3 : cpN fit O N cap (fun s => T s || V s) = cpN fit O N cap T + cpN fit O N (fun o => if nb fit N T o = true then 0 else cap o) V := by
            unfold cpN
            rw [← sm_add]
            refine sm_congr fun o _ => ?_
            have en : nb fit N (fun s => T s || V s) o = (nb fit N T o || nb fit N V o) := by
              rw [Bool.eq_iff_iff, Bool.or_eq_true]
              unfold nb
              rw [anyN_iff, anyN_iff, anyN_iff]
              constructor
              · rintro ⟨s, h1, h2⟩
                rw [Bool.and_eq_true, Bool.or_eq_true] at h2
                rcases h2.1 with h | h
                · exact .inl ⟨s, h1, by rw [h, h2.2]; rfl⟩
                · exact .inr ⟨s, h1, by rw [h, h2.2]; rfl⟩
              · rintro (⟨s, h1, h2⟩ | ⟨s, h1, h2⟩)
                · rw [Bool.and_eq_true] at h2
                  exact ⟨s, h1, by show ((T s || V s) && fit o s) = true; rw [h2.1, h2.2]; rfl⟩
                · rw [Bool.and_eq_true] at h2
                  exact ⟨s, h1, by show ((T s || V s) && fit o s) = true; rw [h2.1, h2.2, Bool.or_true]; rfl⟩
            rw [en]
            dsimp only
            cases nb fit N T o <;> cases nb fit N V o <;> simp
          omega
        refine ⟨fun s => if T s = true then f1 s else f2 s, fun s hs hp => ?_, fun o ho => ?_⟩
        · by_cases e : T s = true
          · simp only [e, if_true]
            exact a1.fit s hs e
          · simp only [e]
            exact a2.fit s hs (by rw [hp]; simpa using e)
        · have q1 := cn_split (fun s => p s && decide ((if T s = true then f1 s else f2 s) = o)) T N
          have q2 : cn (fun s => (p s && decide ((if T s = true then f1 s else f2 s) = o)) && T s) N = cn (fun s => T s && decide (f1 s = o)) N := cn_congr fun s hs => by
            cases h : T s with
            | false => simp
            | true => simp [t1 s hs h]
          have q3 : cn (fun s => (p s && decide ((if T s = true then f1 s else f2 s) = o)) && !T s) N = cn (fun s => (p s && !T s) && decide (f2 s = o)) N := cn_congr fun s hs => by
            cases h : T s with
            | true => simp
            | false => simp
          have c1 := a1.cap o ho
          have c2 := a2.cap o ho
          rw [q1, q2, q3]
          by_cases e : nb fit N T o = true
          · rw [if_pos e] at c2
            omega
          · rw [if_neg e] at c2
            have : cn (fun s => T s && decide (f1 s = o)) N = 0 := cn_zero.2 fun s hs => by
              rw [← Bool.not_eq_true]
              intro hh
              rw [Bool.and_eq_true, decide_eq_true_eq] at hh
              exact e ((anyN_iff _ _).2 ⟨s, hs, by rw [Bool.and_eq_true]; exact ⟨hh.1, hh.2 ▸ (a1.fit s hs hh.1).2⟩⟩)
            omega
      · obtain ⟨s0, hs0, hp0⟩ : ∃ s, s < N ∧ p s = true := by
          apply Classical.byContradiction
          intro hne
          apply hz
          rw [← hk, cn_zero]
          intro s hs
          rw [← Bool.not_eq_true]
          exact fun h => hne ⟨s, hs, h⟩
        have h1 := hall (fun s => decide (s = s0)) fun s hs h => by rw [of_decide_eq_true h]; exact hp0
        rw [cn_one hs0] at h1
        obtain ⟨o0, ho0, hpos⟩ := sm_pos (Nat.lt_of_lt_of_le Nat.zero_lt_one h1)
        have hnb : nb fit N (fun s => decide (s = s0)) o0 = true := by
          apply Classical.byContradiction
          intro h
          rw [if_neg h] at hpos
          exact Nat.lt_irrefl 0 hpos
        rw [if_pos hnb] at hpos
        have hfit : fit o0 s0 = true := by
          obtain ⟨s, _, h2⟩ := (anyN_iff _ _).1 hnb
          rw [Bool.and_eq_true, decide_eq_true_eq] at h2
          rw [← h2.1]; exact h2.2
        have hsp := cn_split p (fun s => decide (s = s0)) N
        have e1 : cn (fun s => p s && decide (s = s0)) N = 1 := by
          rw [← cn_one hs0]
          exact cn_congr fun s hs => by
            by_cases e : s = s0
            · subst e; rw [hp0]; simp
            · simp [e]
        obtain ⟨f, a⟩ := ih (cn (fun s => p s && !decide (s = s0)) N) (by omega) (fun s => p s && !decide (s = s0)) (fun o => cap o - if o = o0 then 1 else 0) rfl fun q hq => by
          have hqp : ∀ s, s < N → q s = true → p s = true := fun s hs h => by
            have := hq s hs h
            rw [Bool.and_eq_true] at this
            exact this.1
          have g1 := hall q hqp
          have g2 := cn_mono hq
          by_cases e0 : cn q N = 0
          · omega
          · have g3 : cpN fit O N cap q ≠ cn q N := fun e => ht ⟨q, hqp, by omega, by omega, e⟩
            have g4 : cpN fit O N cap q ≤ cpN fit O N (fun o => cap o - if o = o0 then 1 else 0) q + 1 := by
              have := sm_one o0 O
              refine Nat.le_trans ?_ (Nat.add_le_add_left this _)
              unfold cpN
              rw [← sm_add]
              refine sm_mono fun o _ => ?_
              by_cases en : nb fit N q o = true
              · rw [if_pos en, if_pos en]
                show cap o ≤ (cap o - if o = o0 then 1 else 0) + if o = o0 then 1 else 0
                omega
              · rw [if_neg en]; exact Nat.zero_le _
            omega
        refine ⟨fun s => if s = s0 then o0 else f s, fun s hs hp => ?_, fun o ho => ?_⟩
        · by_cases e : s = s0
          · simp only [e, if_true]
            exact ⟨ho0, hfit⟩
          · simp only [e, if_false]
            exact a.fit s hs (by rw [hp]; simp [e])
        · have q1 := cn_split (fun s => p s && decide ((if s = s0 then o0 else f s) = o)) (fun s => decide (s = s0)) N
          have q3 : cn (fun s => (p s && decide ((if s = s0 then o0 else f s) = o)) && !decide (s = s0)) N = cn (fun s => (p s && !decide (s = s0)) && decide (f s = o)) N := cn_congr fun s hs => by
            by_cases e : s = s0
            · simp [e]
            · simp [e]
          have c2 : cn (fun s => (p s && !decide (s = s0)) && decide (f s = o)) N ≤ cap o - if o = o0 then 1 else 0 := a.cap o ho
          rw [q1, q3]
          by_cases e : o = o0
          · have q2 : cn (fun s => (p s && decide ((if s = s0 then o0 else f s) = o)) && decide (s = s0)) N ≤ 1 := by
              rw [← cn_one hs0]
              refine cn_mono fun s hs h => ?_
              rw [Bool.and_eq_true] at h
              exact h.2
            rw [if_pos e] at c2
            subst e
            omega
          · have q2 : cn (fun s => (p s && decide ((if s = s0 then o0 else f s) = o)) && decide (s = s0)) N = 0 := cn_zero.2 fun s hs => by
              by_cases es : s = s0
              · simp [es, Ne.symm e]
              · simp [es]
            rw [if_neg e] at c2
            omega
/-- A set that cannot be marked, while it can without any one of it, has too few places. -/
theorem hall_least {cap : Nat → Nat} {p : Nat → Bool} (hno : ¬ ∃ f, Asg fit O N cap p f) (hmin : ∀ i, i < N → p i = true → ∃ f, Asg fit O N cap (fun s => p s && !decide (s = i)) f) : cpN fit O N cap p < cn p N := by
  apply Classical.byContradiction
  intro hge
  apply hno
  refine hall _ p cap rfl fun q hq => ?_
  by_cases hall : ∀ s, s < N → p s = true → q s = true
  · have e : ∀ s, s < N → q s = p s := fun s hs => by
      rw [Bool.eq_iff_iff]
      exact ⟨hq s hs, hall s hs⟩
    have e2 : cpN fit O N cap q = cpN fit O N cap p := sm_congr fun o _ => by
      have : nb fit N q o = nb fit N p o := by
        rw [Bool.eq_iff_iff]
        unfold nb
        rw [anyN_iff, anyN_iff]
        exact ⟨fun ⟨s, h1, h2⟩ => ⟨s, h1, by rw [← e s h1]; exact h2⟩, fun ⟨s, h1, h2⟩ => ⟨s, h1, by rw [e s h1]; exact h2⟩⟩
      rw [this]
    rw [cn_congr e, e2]
    omega
  · have : ∃ i, i < N ∧ p i = true ∧ q i = false := by
      apply Classical.byContradiction
      intro hne
      apply hall
      intro s hs hp
      apply Classical.byContradiction
      intro hnq
      exact hne ⟨s, hs, hp, by simpa using hnq⟩
    obtain ⟨i, hi, hpi, hqi⟩ := this
    obtain ⟨f, a⟩ := hmin i hi hpi
    refine a.need fun s hs h => ?_
    rw [hq s hs h]
    by_cases e : s = i
    · subst e; rw [hqi] at h; cases h
    · simp [e]
end
end Go.Proofs.Ytkonoggmdcdeeaa
end
section
set_option linter.unusedVariables false
set_option linter.unusedSimpArgs false
namespace Go.Proofs.Ytkonoggmdcdeeaa
open Go.V
theorem cntB_cn (l : List Int) (o : Nat) : cntB l (o : Int) = cn (fun s => decide (l.getD s 0 = (o : Int))) l.length := by
  have key : ∀ k, k ≤ l.length → cntB (l.take k) (o : Int) = cn (fun s => decide (l.getD s 0 = (o : Int))) k := by
    intro k
    induction k with
    | zero => intro _; rfl
    | succ k ih =>
      intro hk
      rw [take_snoc l k 0 (by omega), cntB_snoc, ih (by omega)]
      simp only [cn, decide_eq_true_eq]
  have := key l.length (Nat.le_refl _)
  rwa [List.take_length] at this
theorem cn_le_len {p : Nat → Bool} {a b : Nat} (h : a ≤ b) : cn p a ≤ cn p b := by
  induction b with
  | zero => rw [show a = 0 by omega]; exact Nat.le_refl _
  | succ b ih =>
    by_cases e : a = b + 1
    · rw [e]; exact Nat.le_refl _
    · have := ih (by omega)
      simp only [cn]; omega
theorem tru_room {x : Ir} {S : Nat} : ∀ {n : Nat} {b t : List Int}, t ∈ tru x S n b → (∀ o : Nat, o < x.ow.length → (cntB b (o : Int) : Int) ≤ x.mo.getD o 0) → ∀ o : Nat, o < x.ow.length → (cntB t (o : Int) : Int) ≤ x.mo.getD o 0 := by
  intro n
  induction n with
  | zero =>
    intro b t h hb
    simp only [tru, List.mem_singleton] at h
    subst h
    exact hb
  | succ n ih =>
    intro b t h hb
    cases hS : S.testBit b.length with
    | true =>
      rw [tru_yes hS, truP_mem] at h
      obtain ⟨o', ho', hc, h⟩ := h
      refine ih h fun o ho => ?_
      rw [cntB_snoc]
      simp only [canO, Bool.and_eq_true, decide_eq_true_eq] at hc
      have := hb o ho
      split
      · rename_i e
        have e2 : o' = o := by omega
        subst e2
        have := hc.2
        omega
      · omega
    | false =>
      rw [tru_no hS] at h
      refine ih h fun o ho => ?_
      rw [cntB_snoc, if_neg (by omega)]
      exact hb o ho
abbrev capI (x : Ir) (o : Nat) : Nat := (x.mo.getD o 0).toNat
abbrev AsgI (x : Ir) (S : Nat) (f : Nat → Nat) : Prop := Asg (fitB x) x.ow.length x.st.length (capI x) (fun s => S.testBit s) f
theorem tru_asg {x : Ir} (k : Ok x) {S : Nat} (h : truS x S ≠ []) : ∃ f, AsgI x S f := by
  obtain ⟨t, ht⟩ := List.exists_mem_of_ne_nil _ h
  unfold truS at ht
  obtain ⟨h1, _, h3⟩ := tru_mem ht
  simp only [List.length_nil, Nat.zero_add] at h1 h3
  refine ⟨fun s => (t.getD s 0).toNat, fun s hs hp => ?_, fun o ho => ?_⟩
  · obtain ⟨o, ho, e⟩ := (h3 s (Nat.zero_le _) hs).1 hp
    refine ⟨?_, tru_fit ht s (Nat.zero_le _) (by simp; exact hs) hp⟩
    rw [e, Int.toNat_natCast]; exact ho
  · have hr := tru_room ht (fun o ho => by
      have := (k.mo o ho).1
      have e : cntB [] (o : Int) = 0 := rfl
      rw [e]; omega) o ho
    rw [cntB_cn, h1] at hr
    have hm : cn (fun s => S.testBit s && decide ((t.getD s 0).toNat = o)) x.st.length ≤ cn (fun s => decide (t.getD s 0 = (o : Int))) x.st.length := cn_mono fun s hs hh => by
      rw [Bool.and_eq_true, decide_eq_true_eq] at hh
      obtain ⟨o', _, e⟩ := (h3 s (Nat.zero_le _) hs).1 hh.1
      rw [decide_eq_true_eq]
      have := hh.2
      omega
    show _ ≤ (x.mo.getD o 0).toNat
    omega
def begL (S : Nat) (f : Nat → Nat) (k : Nat) : List Int := (List.range k).map fun s => if S.testBit s = true then ((f s : Nat) : Int) else -1
theorem asg_tru {x : Ir} (k : Ok x) {S : Nat} {f : Nat → Nat} (a : AsgI x S f) : truS x S ≠ [] := by
  have key : ∀ n, n ≤ x.st.length → tru x S n (begL S f (x.st.length - n)) ≠ [] := by
    intro n
    induction n with
    | zero => intro _; simp [tru]
    | succ n ih =>
      intro hn
      have hl : (begL S f (x.st.length - (n + 1))).length = x.st.length - (n + 1) := by simp [begL]
      have hs : x.st.length - (n + 1) < x.st.length := by omega
      have e : begL S f (x.st.length - n) = begL S f (x.st.length - (n + 1)) ++ [if S.testBit (x.st.length - (n + 1)) = true then ((f (x.st.length - (n + 1)) : Nat) : Int) else -1] := by
        rw [show x.st.length - n = (x.st.length - (n + 1)) + 1 by omega]
        simp only [begL, List.range_succ, List.map_append, List.map_cons, List.map_nil]
      have ih := ih (by omega)
      rw [e] at ih
      generalize hj : x.st.length - (n + 1) = j at *
      cases hS : S.testBit j with
      | true =>
        rw [hS, if_pos rfl] at ih
        obtain ⟨g1, g2⟩ := a.fit j hs hS
        have hc := a.cap (f j) g1
        have hle : cn (fun s => S.testBit s && decide (f s = f j)) (j + 1) ≤ cn (fun s => S.testBit s && decide (f s = f j)) x.st.length := cn_le_len (by omega)
        have hm : cntB (begL S f j) ((f j : Nat) : Int) ≤ cn (fun s => S.testBit s && decide (f s = f j)) j := by
          rw [cntB_cn, hl]
          refine cn_mono fun s hs' hh => ?_
          rw [decide_eq_true_eq] at hh
          have es : (begL S f j).getD s 0 = if S.testBit s = true then ((f s : Nat) : Int) else -1 := getD_mapR _ _ _ _ hs'
          rw [es] at hh
          split at hh
          · rename_i q
            rw [q, decide_eq_true (by omega)]
            rfl
          · omega
        simp only [cn, hS, decide_true, Bool.and_self, if_true] at hle
        have hmo := k.mo (f j) g1
        have hcap : capI x (f j) = (x.mo.getD (f j) 0).toNat := rfl
        have hcan : canO x (begL S f j) (f j) = true := by
          simp only [canO, Bool.and_eq_true, decide_eq_true_eq, hl]
          refine ⟨g2, ?_⟩
          omega
        obtain ⟨t, ht⟩ := List.exists_mem_of_ne_nil _ ih
        rw [tru_yes (by rw [hl]; exact hS)]
        exact List.ne_nil_of_mem (truP_mem.2 ⟨f j, g1, hcan, ht⟩)
      | false =>
        rw [hS, if_neg (by decide)] at ih
        rw [tru_no (by rw [hl]; exact hS)]
        exact ih
  have := key x.st.length (Nat.le_refl _)
  rw [Nat.sub_self] at this
  exact this
/-- A least set that cannot be marked: to all owners whose iron fits one of them fewer were given. -/
theorem short_room {x : Ir} (k : Ok x) {r : Nat} (h : truS x r = []) (hm : ∀ i, i < x.st.length → r.testBit i = true → truS x (r ^^^ (r &&& 2 ^ i)) ≠ []) : cpN (fitB x) x.ow.length x.st.length (capI x) (fun s => r.testBit s) < cn (fun s => r.testBit s) x.st.length := by
  refine hall_least (fun ⟨f, a⟩ => asg_tru k a h) fun i hi hb => ?_
  obtain ⟨f, a⟩ := tru_asg k (hm i hi hb)
  have e : ∀ s, (r.testBit s && !decide (s = i)) = (r ^^^ (r &&& 2 ^ i)).testBit s := fun s => by
    rw [Nat.testBit_xor, Nat.testBit_and, Nat.testBit_two_pow]
    by_cases e : s = i
    · subst e; simp
    · rw [decide_eq_false e, decide_eq_false (fun q => e q.symm)]; simp
  have ef : (fun s => r.testBit s && !decide (s = i)) = fun s => (r ^^^ (r &&& 2 ^ i)).testBit s := funext e
  rw [ef]
  exact ⟨f, a⟩
theorem pop_cn : ∀ N, N < 7 → ∀ r, r < 64 → r < 2 ^ N → pop r = cn (fun s => r.testBit s) N := by decide +kernel
end Go.Proofs.Ytkonoggmdcdeeaa
end
section
set_option linter.unusedVariables false
set_option linter.unusedSimpArgs false
set_option maxHeartbeats 4000000
set_option maxRecDepth 100000
namespace Go.Proofs.Ytkonoggmdcdeeaa
open Go.V
/-- The strakes of a set, of the first ones. -/
def stL (x : Ir) (set : Nat) : Nat → List (List Mk)
  | 0 => []
  | i + 1 => if set.testBit i = true then stL x set i ++ [x.st.getD i []] else stL x set i
def stI (x : Ir) (set : Nat) : Ir := { x with st := stL x set x.st.length, cl := [] }
theorem stL_len (x : Ir) (set i : Nat) : (stL x set i).length ≤ i := by
  induction i with
  | zero => exact Nat.le_refl _
  | succ i ih =>
    simp only [stL]
    split
    · rw [List.length_append]; simp only [List.length_cons, List.length_nil]; omega
    · omega
theorem stL_mem {x : Ir} {set : Nat} {c : List Mk} : ∀ {i : Nat}, c ∈ stL x set i ↔ ∃ k, k < i ∧ set.testBit k = true ∧ c = x.st.getD k [] := by
  intro i
  induction i with
  | zero => simp [stL]
  | succ i ih =>
    simp only [stL]
    constructor
    · intro h
      split at h
      · rename_i hb
        rcases List.mem_append.1 h with h | h
        · obtain ⟨k, h1, h2⟩ := ih.1 h; exact ⟨k, by omega, h2⟩
        · rw [List.mem_singleton] at h; exact ⟨i, by omega, hb, h⟩
      · obtain ⟨k, h1, h2⟩ := ih.1 h; exact ⟨k, by omega, h2⟩
    · rintro ⟨k, h1, h2, h3⟩
      by_cases e : k = i
      · subst e
        rw [if_pos h2]
        exact List.mem_append_right _ (by rw [h3]; simp)
      · have := ih.2 ⟨k, by omega, h2, h3⟩
        split
        · exact List.mem_append_left _ this
        · exact this
theorem stI_ok {x : Ir} (k : Ok x) (set : Nat) : Ok (stI x set) := by
  have hl : (stI x set).st.length ≤ 6 := Nat.le_trans (stL_len x set x.st.length) k.nS
  have hm : ∀ i, i < (stI x set).st.length → ∃ q, q < x.st.length ∧ (stI x set).st.getD i [] = x.st.getD q [] := fun i hi => by
    obtain ⟨q, h1, _, h3⟩ := stL_mem.1 (mem_getD (stI x set).st i [] hi)
    exact ⟨q, h1, h3⟩
  refine ⟨k.F, k.nO, k.nM, hl, by show 0 ≤ 8; omega, k.ow, k.mo, k.ov, fun i hi => ?_, fun i hi => ?_, fun i hi => ?_, fun i hi => absurd hi (Nat.not_lt_zero i), fun i hi => absurd hi (Nat.not_lt_zero i)⟩
  · obtain ⟨q, h1, h2⟩ := hm i hi
    rw [h2]; exact k.st q h1
  · obtain ⟨q, h1, h2⟩ := hm i hi
    rw [h2]; exact k.sf q h1
  · obtain ⟨q, h1, h2⟩ := hm i hi
    rw [h2]; exact k.sl q h1
/-- The strakes of a set cannot all have been marked. -/
def shC (x : Ir) (set : Nat) : Bool := decide (countE (stI x set) = 0) && decide (countV (stI x set) = 0)
end Go.Proofs.Ytkonoggmdcdeeaa
end
section
set_option linter.unusedVariables false
set_option linter.unusedSimpArgs false
namespace Go.Proofs.Ytkonoggmdcdeeaa
open Go.V
theorem stL_pre (x : Ir) (set i : Nat) : ∀ d, ∃ r, stL x set (i + d) = stL x set i ++ r
  | 0 => ⟨[], by simp⟩
  | d + 1 => by
    obtain ⟨r, h⟩ := stL_pre x set i d
    show ∃ r, stL x set ((i + d) + 1) = _
    simp only [stL, h]
    split
    · exact ⟨r ++ [x.st.getD (i + d) []], by rw [List.append_assoc]⟩
    · exact ⟨r, rfl⟩
theorem stL_at {x : Ir} {set i N : Nat} (hi : i < N) (hb : set.testBit i = true) : (stL x set N).getD (stL x set i).length [] = x.st.getD i [] ∧ (stL x set i).length < (stL x set N).length := by
  obtain ⟨r, h⟩ := stL_pre x set (i + 1) (N - (i + 1))
  rw [show i + 1 + (N - (i + 1)) = N by omega] at h
  have e : stL x set (i + 1) = stL x set i ++ [x.st.getD i []] := by simp only [stL, hb, if_true]
  rw [e] at h
  rw [h]
  refine ⟨?_, by simp only [List.length_append, List.length_cons, List.length_nil]; omega⟩
  simp only [List.getD_eq_getElem?_getD, List.append_assoc]
  rw [List.getElem?_append_right (Nat.le_refl _), Nat.sub_self]
  rfl
theorem tru_stI (x : Ir) (set : Nat) : ∀ n b b', b.length + n = x.st.length → b'.length = (stL x set b.length).length → (∀ o : Nat, cntB b' (o : Int) = cntB b (o : Int)) →
    ((∃ t, t ∈ tru x set n b) ↔ ∃ t, t ∈ tru (stI x set) (2 ^ (stI x set).st.length - 1) ((stI x set).st.length - b'.length) b') := by
  intro n
  induction n with
  | zero =>
    intro b b' h1 h2 h3
    have e : (stI x set).st.length - b'.length = 0 := by
      rw [h2, show b.length = x.st.length by omega]
      exact Nat.sub_self _
    rw [e]
    simp only [tru]
    exact ⟨fun _ => ⟨b', by simp⟩, fun _ => ⟨b, by simp⟩⟩
  | succ n ih =>
    intro b b' h1 h2 h3
    cases hb : set.testBit b.length with
    | true =>
      obtain ⟨g1, g2⟩ := stL_at (x := x) (N := x.st.length) (by omega) hb
      have hlt : b'.length < (stI x set).st.length := by rw [h2]; exact g2
      have hbit : (2 ^ (stI x set).st.length - 1).testBit b'.length = true := full_bit _ _ hlt
      have e1 : (stL x set (b.length + 1)).length = b'.length + 1 := by
        simp only [stL, hb, if_true, List.length_append, List.length_cons, List.length_nil, h2]
      rw [show (stI x set).st.length - b'.length = ((stI x set).st.length - (b'.length + 1)) + 1 by omega, tru_yes hb, tru_yes hbit]
      have hcan : ∀ o, canO (stI x set) b' o = canO x b o := fun o => by
        have ef : fitB (stI x set) o b'.length = fitB x o b.length := by
          have : (stI x set).st.getD b'.length [] = x.st.getD b.length [] := by rw [h2]; exact g1
          unfold fitB
          rw [this]; rfl
        unfold canO
        rw [ef, h3 o]; rfl
      have hih : ∀ o : Nat, ((∃ t, t ∈ tru x set n (b ++ [(o : Int)])) ↔ ∃ t, t ∈ tru (stI x set) (2 ^ (stI x set).st.length - 1) ((stI x set).st.length - (b'.length + 1)) (b' ++ [(o : Int)])) := fun o => by
        have := ih (b ++ [(o : Int)]) (b' ++ [(o : Int)]) (by simp; omega) (by simp [e1]) (fun q => by rw [cntB_snoc, cntB_snoc, h3 q])
        rw [show (b' ++ [(o : Int)]).length = b'.length + 1 by simp] at this
        exact this
      simp only [truP_mem]
      constructor
      · rintro ⟨t, o, ho, hc, ht⟩
        obtain ⟨t', h'⟩ := (hih o).1 ⟨t, ht⟩
        exact ⟨t', o, ho, by rw [hcan]; exact hc, h'⟩
      · rintro ⟨t, o, ho, hc, ht⟩
        obtain ⟨t', h'⟩ := (hih o).2 ⟨t, ht⟩
        exact ⟨t', o, ho, by rw [← hcan]; exact hc, h'⟩
    | false =>
      rw [tru_no hb]
      have e1 : stL x set (b.length + 1) = stL x set b.length := by simp only [stL, hb, Bool.false_eq_true, if_false]
      exact ih (b ++ [-1]) b' (by simp; omega) (by rw [h2, show (b ++ [(-1 : Int)]).length = b.length + 1 by simp, e1]) (fun o => by rw [cntB_snoc, if_neg (by omega)]; exact h3 o)
theorem shC_eq {x : Ir} (k : Ok x) (set : Nat) : shC x set = shD x set := by
  have e : countE (stI x set) = 0 := errE_ok (stI_ok k set)
  have ev : countV (stI x set) = (truA (stI x set)).length := by rw [countV, if_pos e]
  have h := tru_stI x set x.st.length [] [] (by simp) rfl (fun _ => rfl)
  rw [shC, e, ev, shD, Bool.eq_iff_iff]
  simp only [decide_true, Bool.true_and, decide_eq_true_eq, List.length_eq_zero_iff]
  rw [List.eq_nil_iff_forall_not_mem, List.eq_nil_iff_forall_not_mem]
  unfold truA truS
  constructor
  · intro q t ht
    obtain ⟨t', h'⟩ := h.1 ⟨t, ht⟩
    exact q t' h'
  · intro q t ht
    obtain ⟨t', h'⟩ := h.2 ⟨t, ht⟩
    exact q t' h'
theorem pop_less6 : ∀ i, i < 6 → ∀ r, r < 64 → r.testBit i = true → pop (r ^^^ (r &&& 2 ^ i)) < pop r := by decide +kernel
theorem shD_iff (x : Ir) (set : Nat) : shD x set = true ↔ truS x set = [] := by rw [shD, decide_eq_true_eq, List.length_eq_zero_iff]
/-- To all owners whose iron fits one of them so many were given. -/
theorem short_cases {x : Ir} (k : Ok x) : (shortR x = none ∧ (truA x).length ≠ 0) ∨ ∃ r, shortR x = some r ∧ (truA x).length = 0 ∧ 1 ≤ r ∧ r < 2 ^ x.st.length ∧ shC x r = true ∧ (∀ i, i < x.st.length → r.testBit i = true → shC x (r ^^^ (r &&& 2 ^ i)) = false) ∧
    (∀ o, o < 2 ^ x.st.length → shC x o = true → pop r < pop o ∨ pop r = pop o ∧ r ≤ o) ∧ cpN (fitB x) x.ow.length x.st.length (capI x) (fun s => r.testBit s) < pop r := by
  have nS := k.nS
  have hp : 2 ^ x.st.length ≤ 2 ^ 6 := Nat.pow_le_pow_right (by decide) nS
  have he : shP x = shD x := by
    funext set
    rw [shP, shD, tlN_len k.gd]
  have hr := short_eq k
  have hA : shD x (2 ^ x.st.length - 1) = decide ((truA x).length = 0) := rfl
  cases hc : shortR x with
  | none =>
    left
    rw [hc] at hr
    refine ⟨rfl, ?_⟩
    unfold rset at hr
    split at hr
    · cases hr
    · rename_i q
      rw [hA] at q
      simpa using q
  | some r =>
    right
    have hs := hc
    rw [shortR, he] at hs
    have L := fewV_some hs
    have hlt := L.lt
    rw [hc] at hr
    have hz : (truA x).length = 0 := by
      unfold rset at hr
      split at hr
      · rename_i q
        rw [hA] at q
        exact of_decide_eq_true q
      · cases hr
    have hmin : ∀ i, i < x.st.length → r.testBit i = true → shD x (r ^^^ (r &&& 2 ^ i)) = false := fun i hi hb => by
      have hl : r ^^^ (r &&& 2 ^ i) < 2 ^ x.st.length := Nat.xor_lt_two_pow hlt (Nat.lt_of_le_of_lt Nat.and_le_left hlt)
      have h2 := pop_less6 i (by omega) r (by omega) hb
      rw [← Bool.not_eq_true]
      intro hh
      have := L.le _ hl hh
      omega
    refine ⟨r, rfl, hz, ?_, hlt, by rw [shC_eq k]; exact L.is, fun i hi hb => by rw [shC_eq k]; exact hmin i hi hb, fun o ho hco => L.le o ho (by rw [← shC_eq k]; exact hco), ?_⟩
    · apply Nat.pos_of_ne_zero
      rintro rfl
      have h0 := (shD_iff x 0).1 L.is
      have : AsgI x 0 (fun _ => 0) := ⟨fun s hs hb => (by rw [Nat.zero_testBit] at hb; cases hb), fun o _ => by
        rw [cn_zero.2 fun s hs => by rw [Nat.zero_testBit]; rfl]; exact Nat.zero_le _⟩
      exact asg_tru k this h0
    · rw [pop_cn x.st.length (by omega) r (by omega) hlt]
      exact short_room k ((shD_iff x r).1 L.is) fun i hi hb h => by
        have := hmin i hi hb
        rw [(shD_iff x _).2 h] at this
        cases this
end Go.Proofs.Ytkonoggmdcdeeaa
end
section
set_option linter.unusedVariables false
set_option linter.unusedSimpArgs false
set_option maxHeartbeats 4000000
set_option maxRecDepth 100000
namespace Go.Proofs.Ytkonoggmdcdeeaa
open Go.V
abbrev exM (l : List Mk) (m : Mk) : Nat → List AV := appF l.length 1 (appF 0 l.length (fun i => []) (mkF l)) (fun i => [[i64 m.f, i64 m.lo, i64 m.hi]].getD i [])
/-- What is left of the function once the three irons are made. -/
def MoreTail (x : Ir) (w c u : Int) (s o i16 i17 i18 : Nat) (H : Hp) (K : List It) (Q : Post) : Prop :=
  ∀ (y : Ir) (ib : Nat), LessI x y → (¬ ib = i16 ∧ ¬ ib = i17 ∧ ¬ ib = i18 ∧ H ib = none) →
    VS none Try.prog (mset [88, 91, 92, 95, 107, 113, 129, 131, 134, 142]) 270 K (Fr.of [(1, .lit (.int .u8 w)), (2, .lit (.int .u8 c)), (3, .lit (.int .u8 u)), (4, .rptr 1 5 (fun _ => x.cs) 0 0), (9, i64 s), (10, i64 o), (11, i64 ((truA x).length : Nat)), (13, i64 ((falseP x).1 : Nat)), (15, i64 (falseE x)), (16, .ref i16 0 5 0 0), (17, .ref i17 0 5 0 0), (18, .ref i18 0 5 0 0)]) []
      ((((H.set ib (.row 1 x.ow.length (intF x.mo))).set i18 (.box 5 1 fun _ => [i64 x.F, llAV x.ow, .sl ib 1 x.ow.length, stAV x.st, clAV x.cl])).set i16 (.box 5 1 fun _ => y.cs)).set i17 (.box 5 1 fun _ => (saidI x ⟨s, o, decide (u.tmod 2 = 0)⟩).cs)) Q
end Go.Proofs.Ytkonoggmdcdeeaa
end
section
set_option linter.unusedVariables false
set_option linter.unusedSimpArgs false
set_option maxHeartbeats 4000000
set_option maxRecDepth 100000
namespace Go.Proofs.Ytkonoggmdcdeeaa
open Go.V
/-- Irons, and who truly marked the strakes. -/
structure MadeI (x : Ir) (t : List Int) : Prop where
  ok : Ok x
  len : t.length = x.st.length
  own : ∀ s, s < x.st.length → 0 ≤ t.getD s 0 ∧ t.getD s 0 < x.ow.length
  fit : ∀ s, s < x.st.length → fitB x (t.getD s 0).toNat s = true
  room : ∀ o : Nat, o < x.ow.length → (cntB t (o : Int) : Int) ≤ x.mo.getD o 0
theorem cntB_take (l : List Int) (o : Int) (j : Nat) (hj : j < l.length) : cntB (l.take (j + 1)) o = cntB (l.take j) o + if l.getD j 0 = o then 1 else 0 := by
  rw [take_snoc l j 0 hj, cntB_snoc]
theorem cntB_take_le (l : List Int) (o : Int) (j : Nat) : cntB (l.take j) o ≤ cntB l o := by
  unfold cntB
  exact (List.take_sublist j l).countP_le
theorem MadeI.mem {x : Ir} {t : List Int} (h : MadeI x t) : t ∈ truA x := by
  have key : ∀ n, n ≤ x.st.length → t ∈ tru x (2 ^ x.st.length - 1) n (t.take (x.st.length - n)) := by
    intro n
    induction n with
    | zero =>
      intro _
      rw [tru, Nat.sub_zero, ← h.len, List.take_length]
      exact List.mem_singleton.2 rfl
    | succ n ih =>
      intro hn
      have ih := ih (by omega)
      have e : x.st.length - n = (x.st.length - (n + 1)) + 1 := by omega
      rw [e] at ih
      generalize hj : x.st.length - (n + 1) = j at *
      have hjl : j < t.length := by rw [h.len]; omega
      have hl : (t.take j).length = j := by rw [List.length_take]; omega
      have ho := h.own j (by omega)
      have eo : (((t.getD j 0).toNat : Nat) : Int) = t.getD j 0 := by omega
      rw [tru_yes (by rw [hl]; exact full_bit _ _ (by omega)), truP_mem]
      refine ⟨(t.getD j 0).toNat, by omega, ?_, ?_⟩
      · have h1 := h.room (t.getD j 0).toNat (by omega)
        have h2 := cntB_take t (((t.getD j 0).toNat : Nat) : Int) j hjl
        have h3 := cntB_take_le t (((t.getD j 0).toNat : Nat) : Int) (j + 1)
        rw [if_pos eo.symm] at h2
        simp only [canO, Bool.and_eq_true, decide_eq_true_eq, hl]
        exact ⟨h.fit j (by omega), by omega⟩
      · rw [eo, ← take_snoc t j 0 hjl]
        exact ih
  have := key x.st.length (Nat.le_refl _)
  rw [Nat.sub_self, List.take_zero] at this
  exact this
/-- How many claims are false, of the first ones. -/
def wrC (x : Ir) (t : List Int) : Nat → Nat
  | 0 => 0
  | k + 1 => wrC x t k + if rightT x t k = true then 0 else 1
theorem wrC_pop {x : Ir} (t : List Int) : ∀ n, n ≤ 8 → wrC x t n = pop (wrongN x t n) := by
  intro n
  induction n with
  | zero => intro _; simp [wrC, wrongN, pop, popN_zero]
  | succ n ih =>
    intro hn
    have ih := ih (by omega)
    have hw := wrongN_lt x t n
    have hp : 2 ^ n ≤ 2 ^ 7 := Nat.pow_le_pow_right (by decide) (by omega)
    simp only [wrC, wrongN, ih]
    split
    · rw [Nat.add_zero, Nat.add_zero]
    · rw [pop_add n (by omega) _ (by omega) hw]
theorem wrC_le (x : Ir) (t : List Int) (n : Nat) : wrC x t n ≤ n := by
  induction n with
  | zero => exact Nat.le_refl _
  | succ n ih => simp only [wrC]; split <;> omega
theorem MadeI.few {x : Ir} {t : List Int} (h : MadeI x t) : (falseP x).1 ≤ wrC x t x.cl.length := by
  have hp : 0 < (truA x).length := List.length_pos_of_mem h.mem
  obtain ⟨t0, f⟩ := false_spec h.ok hp
  have := f.le t h.mem
  rw [wrC_pop t _ h.ok.nC, f.val]
  show popW x t0 ≤ popW x t
  omega
theorem MadeI.few_pop {x : Ir} {t : List Int} (h : MadeI x t) : pop (falseP x).2 = (falseP x).1 := by
  have hp : 0 < (truA x).length := List.length_pos_of_mem h.mem
  obtain ⟨t0, f⟩ := false_spec h.ok hp
  rw [f.val]
  rfl
theorem MadeI.falseE {x : Ir} {t : List Int} (h : MadeI x t) : falseE x = 0 := errE_told h.ok (List.length_pos_of_mem h.mem)
theorem MadeI.claim {x : Ir} {t : List Int} (h : MadeI x t) {i : Nat} (hi : i < x.cl.length) : claimE x i = 0 ∧ (claimV x i = 2 → rightT x t i = true) ∧ (claimV x i = 0 → rightT x t i = false) := by
  have hp : 0 < (truA x).length := List.length_pos_of_mem h.mem
  have hv : numB x (i : Int) = true := by simp [numB]; omega
  have e : claimE x i = 0 := by unfold claimE; rw [hv]; exact errE_told h.ok hp
  refine ⟨e, fun hc => ?_, fun hc => ?_⟩
  · unfold claimV at hc
    rw [if_pos e, Int.toNat_natCast] at hc
    by_cases q : rcN x i (truA x).length = (truA x).length
    · exact rcN_all.1 q t h.mem
    · rw [if_neg q] at hc
      split at hc <;> omega
  · unfold claimV at hc
    rw [if_pos e, Int.toNat_natCast] at hc
    by_cases q : rcN x i (truA x).length = (truA x).length
    · rw [if_pos q] at hc; omega
    · rw [if_neg q] at hc
      by_cases q2 : rcN x i (truA x).length = 0
      · have := rcN_no.1 q2 t h.mem
        simpa using this
      · rw [if_neg q2] at hc; omega
theorem MadeI.strake {x : Ir} {t : List Int} (h : MadeI x t) {s o : Nat} (hs : s < x.st.length) (ho : t.getD s 0 = (o : Int)) :
    (fitsE x s = 0 ∧ canE x s = 0 ∧ likE x s = 0) ∧ (fitsV x s).testBit o = true ∧ (canV x s).testBit o = true ∧ canV x s ^^^ (canV x s &&& fitsV x s) = 0 ∧ likV x s ^^^ (likV x s &&& canV x s) = 0 ∧ 1 ≤ likV x s ∧
      ((likV x s).testBit o = false → wrC x t x.cl.length ≠ (falseP x).1) ∧ fitsV x s < 32 ∧ canV x s < 32 ∧ likV x s < 32 := by
  have hp : 0 < (truA x).length := List.length_pos_of_mem h.mem
  obtain ⟨t0, f⟩ := false_spec h.ok hp
  have hv : strB x (s : Int) = true := (strB_iff x s).2 ⟨by omega, by omega⟩
  have e1 : fitsE x s = 0 := by unfold fitsE; rw [hv]; exact errE_ok h.ok
  have e2 : canE x s = 0 := by unfold canE; rw [hv]; exact errE_told h.ok hp
  have e3 : likE x s = 0 := by unfold likE; rw [hv]; exact errE_told h.ok hp
  have v1 : fitsV x s = fitsN x s x.ow.length := by rw [fitsV, if_pos e1, Int.toNat_natCast]
  have v2 : canV x s = who (truA x) s := by rw [canV, if_pos e2, Int.toNat_natCast]
  have v3 : likV x s = likN x s x.ow.length := by rw [likV, if_pos e3, Int.toNat_natCast]
  have hown := h.own s hs
  have hoo : o < x.ow.length := by omega
  have hw : (who (truA x) s).testBit o = true := (who_bit (truA_own h.ok hs) o).2 ⟨t, h.mem, ho⟩
  have nO := h.ok.nO
  refine ⟨⟨e1, e2, e3⟩, ?_, ?_, ?_, ?_, ?_, ?_, ?_, ?_, ?_⟩
  · rw [v1, fitsN_bit, decide_eq_true hoo, Bool.true_and]
    have := h.fit s hs
    rwa [ho, Int.toNat_natCast] at this
  · rw [v2]; exact hw
  · rw [v1, v2]; exact who_fits h.ok hs
  · rw [v2, v3]
    apply Nat.eq_of_testBit_eq
    intro j
    rw [Nat.testBit_xor, Nat.testBit_and, Nat.zero_testBit]
    cases hb : (likN x s x.ow.length).testBit j with
    | false => rfl
    | true =>
      rw [likN_bit, Bool.and_eq_true, decide_eq_true_eq] at hb
      obtain ⟨t', ht', e⟩ := (likB_iff h.ok hs hb.1).1 hb.2
      rw [(who_bit (truA_own h.ok hs) j).2 ⟨t', (bestL_iff.1 ht').1, e⟩]
      rfl
  · rw [v3]; exact lik_pos h.ok f hs
  · rw [v3]
    intro hb e
    have hb2 : t ∈ bestL x := by
      refine bestL_iff.2 ⟨h.mem, fun t' ht' => ?_⟩
      have h1 := f.le t' ht'
      rw [wrC_pop t _ h.ok.nC, f.val] at e
      have e' : popW x t = popW x t0 := e
      omega
    rw [likN_bit, decide_eq_true hoo, Bool.true_and, (likB_iff h.ok hs hoo).2 ⟨t, hb2, ho⟩] at hb
    cases hb
  · rw [v1]
    refine Nat.lt_pow_two_of_testBit (n := 5) _ fun j hj => ?_
    rw [fitsN_bit, decide_eq_false (by omega), Bool.false_and]
  · rw [v2]; exact who_lt h.ok hs
  · rw [v3]
    refine Nat.lt_pow_two_of_testBit (n := 5) _ fun j hj => ?_
    rw [likN_bit, decide_eq_false (by omega), Bool.false_and]
end Go.Proofs.Ytkonoggmdcdeeaa
end
section
set_option linter.unusedVariables false
set_option linter.unusedSimpArgs false
set_option maxHeartbeats 4000000
set_option maxRecDepth 100000
namespace Go.Proofs.Ytkonoggmdcdeeaa
open Go.V
abbrev u16 (n : Int) : AV := .lit (.int .u16 n)
def byF (b : Nat → Int) : Nat → List AV := fun i => [u16 (b i)]
theorem byF_at (b : Nat → Int) (i : Nat) : byF b i = [u16 (b i)] := rfl
abbrev drawAV (i4 N : Nat) (b : Nat → Int) : AV := .func (.func 72) [] [.ref i4 0 1 0 0, .rptr 1 1 (fun _ => [.rsl N 1 (byF b)]) 0 0]
/-- A number is drawn. -/
def drawR (i5 a : Nat) (n : Int) (H : Hp) : Res → Hp → Prop := fun r H' => ∃ v : Int, (0 ≤ v ∧ v < n) ∧ r = .ret (i64 v) ∧ H' = H.set i5 (.box 1 1 fun _ => [i64 ((a + 1 : Nat) : Int)])
theorem ldraw_tri (N : Nat) (b : Nat → Int) (i5 a : Nat) (n : Int) (H : Hp) (hN : N ≤ 9223372036854775807) (hb : ∀ i, i < N → 0 ≤ b i ∧ b i ≤ 65535) (hn : 1 ≤ n ∧ n ≤ 1000) (ha : a ≤ 1000) (ho : H i5 = some (.box 1 1 fun _ => [i64 a])) :
    Tri Try.prog (drawAV i5 N b) [i64 n] H (drawR i5 a n H) := by
  refine Tri.drop ?_
  refine tri_v0 (fun _ => false) Try.func72 (by kernel_rfl) rfl (by simp only [List.length_append, List.length_cons, List.length_nil, Try.ntmps72]; decide) ?_
  skip
  simp only [vsAll, binA, binLitA, intA, loadA, loadRow, partA, partOk, lenA, cellA, cellsA, opA, newCells, okCells, storeObj, dstOk, nilSliceOp, argFr, Nat.reduceLT, Nat.reduceEqDiff, ↓reduceIte, eq_self, wtAll, Try.ntmps72, ho]
  refine ⟨by simp only [InR_i64]; ((try clear ho); omega), ?_⟩
  have hset : (H.set i5 (.box 1 1 fun _ => [i64 ((a : Int) + 1)])) i5 = some (.box 1 1 fun _ => [i64 ((a : Int) + 1)]) := Hp.set_same _ _ _
  refine condD (fun hd => ?_) (fun hd => ?_)
  · simp only [vsAll, binA, binLitA, intA, loadA, loadRow, partA, partOk, opA, dstOk, nilSliceOp, resA, argFr, retA.eq_1, Nat.reduceLT, Nat.reduceEqDiff, ↓reduceIte, reduceCtorEq, eq_self, ne_eq, wtAll, Try.results72]
    have hv : 0 ≤ ((a : Int) + 1).tmod n ∧ ((a : Int) + 1).tmod n < n := by
      rw [Int.tmod_eq_emod_of_nonneg (by ((try clear ho); omega))]
      exact ⟨Int.emod_nonneg _ (by ((try clear ho); omega)), Int.emod_lt_of_pos _ (by ((try clear ho); omega))⟩
    refine ⟨by ((try clear ho); omega), ?_⟩
    exact ⟨_, HSub_rfl, _, hv, rfl, by rw [Int.natCast_add, Int.natCast_one]⟩
  · have hq : 0 ≤ ((a : Int) + 1).tmod N ∧ ((a : Int) + 1).tmod N < N := by
      rw [Int.tmod_eq_emod_of_nonneg (by ((try clear ho); omega))]
      exact ⟨Int.emod_nonneg _ (by ((try clear ho); omega)), Int.emod_lt_of_pos _ (by ((try clear ho); omega))⟩
    simp only [vsAll]
    refine vs_draw 14 (by decide +kernel) ?_
    simp only [vsAll, binA, binLitA, intA, loadA, loadRow, partA, partOk, indexAddrA, lenA, convA, opA, dstOk, resA, argFr, retA.eq_1, Nat.reduceLT, Nat.reduceEqDiff, ↓reduceIte, reduceCtorEq, eq_self, ne_eq, wtAll, Try.results72, byF_at]
    have hb2 := hb (((a : Int) + 1).tmod N).toNat (by ((try clear ho); omega))
    generalize b (((a : Int) + 1).tmod N).toNat = B at *
    have hv : 0 ≤ (B + 37 * ((a : Int) + 1)).tmod n ∧ (B + 37 * ((a : Int) + 1)).tmod n < n := by
      rw [Int.tmod_eq_emod_of_nonneg (by ((try clear ho); omega))]
      exact ⟨Int.emod_nonneg _ (by ((try clear ho); omega)), Int.emod_lt_of_pos _ (by ((try clear ho); omega))⟩
    simp only [InR_i64]
    exact ⟨by ((try clear ho); omega), hq, by ((try clear ho); omega), by ((try clear ho); omega), by ((try clear ho); omega), by ((try clear ho); omega), by ((try clear ho); omega), _, HSub_rfl, _, hv, rfl, by rw [Int.natCast_add, Int.natCast_one]⟩

/-- Irons while owners are drawn. -/
structure OwA (F : Int) (ow : List (List Int)) (mo : List Int) : Prop where
  hF : 0 ≤ F ∧ F ≤ 4
  nO : ow.length ≤ 5
  nM : mo.length = ow.length
  ow : ∀ l ∈ ow, (l.length : Int) = F ∧ ∀ v ∈ l, 0 ≤ v ∧ v ≤ 3
  mo : ∀ v ∈ mo, 0 ≤ v ∧ v ≤ 1
/-- A mark that was read rightly. -/
structure MkA (F : Int) (row : List Int) (m : Mk) : Prop where
  f : 0 ≤ m.f ∧ m.f < F
  v : 0 ≤ m.lo ∧ m.lo ≤ m.hi ∧ m.hi ≤ 9
  fit : fitM row m = true
/-- Strakes that are drawn. -/
structure StA (F : Int) (ow : List (List Int)) (st : List (List Mk)) (t : List Int) : Prop where
  n : st.length ≤ 6
  len : t.length = st.length
  own : ∀ s, s < st.length → 0 ≤ t.getD s 0 ∧ t.getD s 0 < ow.length
  mks : ∀ s, s < st.length → ((st.getD s []).length : Int) ≤ F ∧ ∀ m ∈ st.getD s [], MkA F (ow.getD (t.getD s 0).toNat []) m
structure ClA (ow : List (List Int)) (st : List (List Mk)) (cl : List Cl) : Prop where
  n : cl.length ≤ 8
  cl : ∀ c ∈ cl, (0 ≤ c.s ∧ c.s < st.length) ∧ 0 ≤ c.o ∧ c.o < ow.length

theorem llF_frz {ow : List (List Int)} {l : List Int} {il q c : Nat} (hq : q < ow.length + 1) (hc : c < 1) :
    Frz il 1 l.length (intF l) ((appF ow.length 1 (llF ow) (fun q => [[AV.sl il 1 l.length]].getD q []) q).getD c .any) ((llF (ow ++ [l]) q).getD c .any) := by
  have hc0 : c = 0 := by omega
  subst hc0
  rw [appF_at (by omega)]
  simp only [llF, getD_snoc]
  by_cases e : q = ow.length
  · rw [if_neg (by omega), if_pos e, e, Nat.sub_self]; exact Frz.hit
  · rw [if_pos (by omega), if_neg e]; exact Frz.rfl
theorem app_mk (l : List Mk) (m : Mk) (g : Nat → List AV) (hg : g 0 = [i64 m.f, i64 m.lo, i64 m.hi]) : appF l.length 1 (mkF l) g = mkF (l ++ [m]) := app_lF (fun m : Mk => m.cs) mk0 l m g hg
theorem stF_frz2 {st : List (List Mk)} {l : List Mk} {il q c : Nat} (hq : q < st.length + 1) (hc : c < 1) :
    Frz il 3 l.length (mkF l) ((appF st.length 1 (stF st) (fun q => [[AV.sl il 3 l.length]].getD q []) q).getD c .any) ((stF (st ++ [l]) q).getD c .any) := by
  have hc0 : c = 0 := by omega
  subst hc0
  rw [appF_at (by omega)]
  simp only [stF, getD_snoc]
  by_cases e : q = st.length
  · rw [if_neg (by omega), if_pos e, e, Nat.sub_self]; exact Frz.hit
  · rw [if_pos (by omega), if_neg e]; exact Frz.rfl
/-- How many strakes each owner marked, of the first ones. -/
def cnF (t : List Int) (i : Nat) : Nat → List AV := fun o => [i64 (cntB (t.take i) (o : Int) : Nat)]
theorem cnF_at (t : List Int) (i o : Nat) : cnF t i o = [i64 (cntB (t.take i) (o : Int) : Nat)] := rfl
/-- How many strakes were given to each owner. -/
def moD (mo t : List Int) (j : Nat) : Int := min 6 (mo.getD j 0 + (cntB t (j : Int) : Nat))
def moF (mo t : List Int) (i : Nat) : Nat → List AV := fun j => [i64 (if j < i then moD mo t j else mo.getD j 0)]
theorem moF_at (mo t : List Int) (i j : Nat) : moF mo t i j = [i64 (if j < i then moD mo t j else mo.getD j 0)] := rfl
def moL (mo t : List Int) (n : Nat) : List Int := (List.range n).map (moD mo t)
theorem moL_len (mo t : List Int) (n : Nat) : (moL mo t n).length = n := by simp [moL]
theorem moL_at (mo t : List Int) {n j : Nat} (hj : j < n) : (moL mo t n).getD j 0 = moD mo t j := getD_mapR _ _ _ _ hj
theorem made_of {F : Int} {ow : List (List Int)} {mo t : List Int} {st : List (List Mk)} {cl : List Cl} (a : OwA F ow mo) (s : StA F ow st t) (c : ClA ow st cl) : MadeI ⟨F, ow, moL mo t ow.length, st, cl⟩ t := by
  have hmo : ∀ i, i < ow.length → 0 ≤ mo.getD i 0 ∧ mo.getD i 0 ≤ 1 := fun i hi => a.mo _ (mem_getD _ _ _ (by rw [a.nM]; exact hi))
  have how : ∀ i, i < ow.length → ((ow.getD i []).length : Int) = F ∧ ∀ v ∈ ow.getD i [], 0 ≤ v ∧ v ≤ 3 := fun i hi => a.ow _ (mem_getD _ _ _ hi)
  have hmk : ∀ i, i < st.length → ∀ k, k < (st.getD i []).length → MkA F (ow.getD (t.getD i 0).toNat []) ((st.getD i []).getD k mk0) := fun i hi k hk => (s.mks i hi).2 _ (mem_getD _ _ _ hk)
  have hcl : ∀ i, i < cl.length → (0 ≤ (cl.getD i cl0).s ∧ (cl.getD i cl0).s < st.length) ∧ 0 ≤ (cl.getD i cl0).o ∧ (cl.getD i cl0).o < ow.length := fun i hi => c.cl _ (mem_getD _ _ _ hi)
  refine ⟨⟨a.hF, a.nO, moL_len _ _ _, s.n, c.n, fun i hi => (how i hi).1, fun i hi => ?_, fun i hi k hk => ?_, fun i hi => ?_, fun i hi k hk => (hmk i hi k hk).f, fun i hi k hk => (hmk i hi k hk).v, fun i hi => (hcl i hi).1, fun i hi => (hcl i hi).2⟩, s.len, s.own, fun i hi => ?_, fun o ho => ?_⟩
  · have := hmo i hi
    show 0 ≤ (moL mo t ow.length).getD i 0 ∧ (moL mo t ow.length).getD i 0 ≤ 6
    rw [moL_at mo t hi, moD]
    omega
  · have hk : (k : Int) < F := hk
    have h := how i hi
    have := h.2 _ (mem_getD _ k 0 (by have := h.1; omega))
    show 0 ≤ (ow.getD i []).getD k 0 ∧ (ow.getD i []).getD k 0 ≤ 9
    omega
  · have := (s.mks i hi).1
    have := a.hF
    show (st.getD i []).length ≤ 6
    omega
  · show (st.getD i []).all (fitM (ow.getD (t.getD i 0).toNat [])) = true
    rw [List.all_eq_true]
    exact fun m hm => ((s.mks i hi).2 m hm).fit
  · have h1 := hmo o ho
    have h2 : cntB t (o : Int) ≤ t.length := by unfold cntB; exact List.countP_le_length
    have h3 := s.n
    have h4 := s.len
    show _ ≤ (moL mo t ow.length).getD o 0
    rw [moL_at mo t ho, moD]
    omega
theorem made_walk (N : Nat) (b : Nat → Int) (H : Hp) (hN : N ≤ 9223372036854775807) (hb : ∀ i, i < N → 0 ≤ b i ∧ b i ≤ 65535) :
    Tri Try.prog (fnA 31) [.rsl N 1 (byF b)] H (fun r H' => ∃ (x : Ir) (t : List Int) (iC iT : Nat), MadeI x t ∧ (iC ≠ iT ∧ H iC = none ∧ H iT = none) ∧
      r = .ret (.tuple [.agg [i64 x.F, llAV x.ow, intsAV x.mo, stAV x.st, .sl iC 3 x.cl.length], .sl iT 1 x.st.length]) ∧ H' = (H.set iC (.row 3 x.cl.length (clF x.cl))).set iT (.row 1 x.st.length (intF t))) := by
  refine Tri.drop ?_
  refine tri_v0 (mset [3, 6, 8, 102]) Try.func31 (by kernel_rfl) rfl (by simp only [List.length_append, List.length_cons, List.length_nil, Try.ntmps31]; decide) ?_
  simp only [vsAll, boxA, cellA, cellsA, okAll, stAll, opsA, opA, allocA, newCells, okCells, storeObj, dstOk, nilA, nilSliceOp, argFr, Nat.reduceAdd, Nat.reduceLT, Nat.reduceEqDiff, Nat.reduceBEq, ↓reduceIte, eq_self, ne_eq, wtAll, Try.ntmps31]
  intro i2 hh_i2; (try simp only [Hp.set_none, ite_none] at hh_i2); intro iT hh_iT; (try simp only [ite_none] at hh_iT); intro i4 hh_i4; (try simp only [ite_none] at hh_i4)
  rw [Hp.set_set]
  have dr : ∀ (n : Int) (a : Nat) (X : Hp), 1 ≤ n ∧ n ≤ 1000 → a ≤ 1000 → X i4 = some (.box 1 1 fun _ => [i64 a]) → Tri Try.prog (drawAV i4 N b) [i64 n] X (drawR i4 a n X) := fun n a X h1 h2 h3 => ldraw_tri N b i4 a n X hN hb h1 h2 h3
  refine callK (dr 5 0 _ (by ((try clear hh_i2); (try clear hh_iT); (try clear hh_i4); omega)) (by ((try clear hh_i2); (try clear hh_iT); (try clear hh_i4); omega)) (by simp only [vsAll, ↓reduceIte, eq_self]; try rfl)) ?_
  rintro r H' ⟨F, hF, rfl, rfl⟩
  simp only [vsAll, fieldAddrA, cellA, cellsA, okAll, stAll, opsA, opA, newCells, okCells, storeObj, dstOk, Nat.reduceLT, Nat.reduceLeDiff, Nat.reduceEqDiff, ↓reduceIte, eq_self, wtAll, hh_iT, hh_i4]
  refine callK (dr 5 1 _ (by ((try clear hh_i2); (try clear hh_iT); (try clear hh_i4); omega)) (by ((try clear hh_i2); (try clear hh_iT); (try clear hh_i4); omega)) (by simp only [vsAll, ↓reduceIte, eq_self, hh_i4]; try rfl)) ?_
  rintro r H' ⟨v, hv, rfl, rfl⟩
  simp only [vsAll, binA, binLitA, intA, opA, dstOk, Nat.reduceAdd, Nat.reduceLT, ↓reduceIte, eq_self]
  refine ⟨by simp only [InR_i64]; ((try clear hh_i2); (try clear hh_iT); (try clear hh_i4); omega), ?_⟩
  refine vs_entL (Ent.nilBox 1 (llF []) (fun id _ => [i64 F, .sl id 1 0, .lit (.slice none 0 0), .lit (.slice none 0 0), .lit (.slice none 0 0)]) (j := i2) (st' := 5) (n' := 1) (g := fun _ => [i64 F, .lit (.slice none 0 0), .lit (.slice none 0 0), .lit (.slice none 0 0), .lit (.slice none 0 0)]) (by simp only [vsAll, ↓reduceIte, eq_self, hh_i4]; try rfl) (fun _ _ _ => rfl) (fun id q d hq hd => ?_) fun iow how => ?_)
  · match d, hd with
    | 0, _ => exact .rfl
    | 1, _ => exact .hit
    | 2, _ => exact .rfl
    | 3, _ => exact .rfl
    | 4, _ => exact .rfl
  simp only [Hp.set_none] at how
  skip
  refine vs_entL (Ent.nilBox 1 (intF []) (fun id _ => [i64 F, .sl iow 1 0, .sl id 1 0, .lit (.slice none 0 0), .lit (.slice none 0 0)]) (j := i2) (st' := 5) (n' := 1) (g := fun _ => [i64 F, .sl iow 1 0, .lit (.slice none 0 0), .lit (.slice none 0 0), .lit (.slice none 0 0)]) (Hp.set_same _ _ _) (fun _ _ _ => rfl) (fun id q d hq hd => ?_) fun imo hmo => ?_)
  · match d, hd with
    | 0, _ => exact .rfl
    | 1, _ => exact .rfl
    | 2, _ => exact .hit
    | 3, _ => exact .rfl
    | 4, _ => exact .rfl
  simp only [Hp.set_none] at hmo
  skip
  refine vs_loop (σ := List (List Int) × List Int × Nat) (fun x => (x.1.length : Int) ≤ 1 + v ∧ OwA F x.1 x.2.1 ∧ x.2.2 ≤ 2 + 5 * x.1.length)
    (fun x => [(2, .ref i2 0 5 0 0), (3, .sl iT 1 0), (5, drawAV i4 N b), (22, i64 (1 + v)), (23, i64 x.1.length)])
    (fun x => ((((H.set iT (.row 1 0 fun _ => [])).set i4 (.box 1 1 fun _ => [i64 x.2.2])).set iow (.row 1 x.1.length (llF x.1))).set imo (.row 1 x.1.length (intF x.2.1))).set i2 (.box 5 1 fun _ => [i64 F, .sl iow 1 x.1.length, .sl imo 1 x.1.length, .lit (.slice none 0 0), .lit (.slice none 0 0)])) (fun x => 20 - x.1.length) ([], [], 2) ⟨by simp; ((try clear hh_i2); (try clear hh_iT); (try clear hh_i4); (try clear how); (try clear hmo); omega), ⟨by ((try clear hh_i2); (try clear hh_iT); (try clear hh_i4); (try clear how); (try clear hmo); omega), by simp, rfl, by simp, by simp⟩, by simp⟩ ?_ ?_ fun ⟨ow, mo, a⟩ hi => ?_
  · simp only [vsAll, Nat.reduceEqDiff, ↓reduceIte, eq_self, Int.natCast_zero]
  · dsimp only [List.length_nil]
    (repeat (first | exact HSub_rfl | refine HSub_put_eq (by simp only [vsAll, ↓reduceIte, eq_self, hh_iT, hh_i4, how, hmo]) ?_ | refine HSub_drop2 (by simp only [eq_self, hh_i2, hh_iT, hh_i4, how, hmo]) ?_ | refine HSub_keep_eq (by simp only [vsAll, binA, binLitA, intA, aggA, boolA, nilA2, isConst, unA, loadA, loadRow, partA, partOk, fieldAddrA, indexAddrA, indexA, fieldA, extractA, lenA, nilCheckA, boxA, cellA, cellsA, fillA, okParts, buildSliceA, buildMutA, makeSliceA, partIdx, elemsA, lensA, ifaceA, convA, mmA, pickA, okAll, stAll, opsA, partsA, partsOk, opA, allocA, boxMutA, newCells, okCells, storeObj, appendA, guardV, taA, nM, mapUpA, lookA, sliceA, boundsA, opO, okO, copyA, dstOk, nilA, quietOk, nilSliceOp, panA, resA, argFr, retA.eq_1, retA.eq_2, Nat.reduceAdd, Nat.reduceSub, Nat.reduceMul, Nat.reduceLT, Nat.reduceLeDiff, Nat.reduceEqDiff, Nat.reduceBEq, Int.reduceAdd, Int.reduceSub, Int.reduceMul, Int.reduceNeg, Int.reduceLE, Int.reduceLT, Int.reduceEq, Int.reduceNe, Int.reduceToNat, ↓reduceIte, reduceCtorEq, implies_true, forall_const, eq_self, ne_eq, wtAll, Try.ntmps31, Try.results31, hh_i2, hh_iT, hh_i4, how, hmo]) ?_))
  · obtain ⟨h1, h2, h3⟩ := hi
    simp only [] at h1 h2 h3
    have hml := h2.nM
    simp only [vsAll, binA, binLitA, intA, opA, dstOk, Nat.reduceLT, Nat.reduceEqDiff, ↓reduceIte, eq_self]
    refine condD (fun hd => ?_) (fun hd => ?_)
    · simp only [vsAll, loadA, loadRow, partA, partOk, fieldAddrA, opA, dstOk, nilA, Nat.reduceLT, Nat.reduceEqDiff, Nat.reduceBEq, ↓reduceIte, eq_self, wtAll]
      intro il hh_il; (try simp only [ite_none] at hh_il)
      simp only [vsAll, Nat.reduceLT, ↓reduceIte, eq_self, hh_il]
      refine vs_loop (σ := List Int × Nat) (fun y => (y.1.length : Int) ≤ F ∧ (∀ v ∈ y.1, 0 ≤ v ∧ v ≤ 3) ∧ y.2 ≤ a + y.1.length)
        (fun y => [(2, .ref i2 0 5 0 0), (3, .sl iT 1 0), (5, drawAV i4 N b), (6, .sl il 1 y.1.length), (22, i64 (1 + v)), (23, i64 ow.length), (26, i64 F), (27, i64 y.1.length)])
        (fun y => (((((H.set iT (.row 1 0 fun _ => [])).set i4 (.box 1 1 fun _ => [i64 y.2])).set iow (.row 1 ow.length (llF ow))).set imo (.row 1 ow.length (intF mo))).set i2 (.box 5 1 fun _ => [i64 F, .sl iow 1 ow.length, .sl imo 1 ow.length, .lit (.slice none 0 0), .lit (.slice none 0 0)])).set il (.row 1 y.1.length (intF y.1))) (fun y => 20 - y.1.length) ([], a) ⟨by simp; ((try clear hh_i2); (try clear hh_iT); (try clear hh_i4); (try clear how); (try clear hmo); (try clear hh_il); omega), by simp, by simp⟩ ?_ ?_ fun ⟨l, a2⟩ hi2 => ?_
      · simp only [vsAll, Nat.reduceEqDiff, ↓reduceIte, eq_self, Int.natCast_zero]
      · dsimp only [List.length_nil]
        refine HSub_put (o' := .row 1 0 fun _ => []) (by simp only [vsAll, ↓reduceIte, eq_self]; try rfl) (row0_le _ _ _) ?_
        (repeat (first | exact HSub_rfl | refine HSub_put_eq (by simp only [vsAll, ↓reduceIte, eq_self, hh_iT, hh_i4, how, hmo, hh_il]) ?_ | refine HSub_drop2 (by simp only [eq_self, hh_i2, hh_iT, hh_i4, how, hmo, hh_il]) ?_ | refine HSub_keep_eq (by simp only [vsAll, binA, binLitA, intA, aggA, boolA, nilA2, isConst, unA, loadA, loadRow, partA, partOk, fieldAddrA, indexAddrA, indexA, fieldA, extractA, lenA, nilCheckA, boxA, cellA, cellsA, fillA, okParts, buildSliceA, buildMutA, makeSliceA, partIdx, elemsA, lensA, ifaceA, convA, mmA, pickA, okAll, stAll, opsA, partsA, partsOk, opA, allocA, boxMutA, newCells, okCells, storeObj, appendA, guardV, taA, nM, mapUpA, lookA, sliceA, boundsA, opO, okO, copyA, dstOk, nilA, quietOk, nilSliceOp, panA, resA, argFr, retA.eq_1, retA.eq_2, Nat.reduceAdd, Nat.reduceSub, Nat.reduceMul, Nat.reduceLT, Nat.reduceLeDiff, Nat.reduceEqDiff, Nat.reduceBEq, Int.reduceAdd, Int.reduceSub, Int.reduceMul, Int.reduceNeg, Int.reduceLE, Int.reduceLT, Int.reduceEq, Int.reduceNe, Int.reduceToNat, ↓reduceIte, reduceCtorEq, implies_true, forall_const, eq_self, ne_eq, wtAll, Try.ntmps31, Try.results31, hh_i2, hh_iT, hh_i4, how, hmo, hh_il]) ?_))
      · obtain ⟨g1, g2, g3⟩ := hi2
        simp only [] at g1 g2 g3
        have hF4 := h2.hF
        simp only [vsAll, binA, binLitA, intA, opA, dstOk, Nat.reduceLT, Nat.reduceEqDiff, ↓reduceIte, eq_self]
        refine condD (fun hd2 => ?_) (fun hd2 => ?_)
        · simp only [vsAll, okAll, stAll, opsA, opA, dstOk, Nat.reduceLT, Nat.reduceEqDiff, ↓reduceIte, eq_self]
          refine callK (dr 4 a2 _ (by ((try clear hh_i2); (try clear hh_iT); (try clear hh_i4); (try clear how); (try clear hmo); (try clear hh_il); omega)) (by ((try clear hh_i2); (try clear hh_iT); (try clear hh_i4); (try clear how); (try clear hmo); (try clear hh_il); omega)) (by simp only [vsAll, ↓reduceIte, eq_self, hh_i4, how, hmo, hh_il]; try rfl)) ?_
          rintro r H' ⟨f, hf, rfl, rfl⟩
          simp only [vsAll, binA, binLitA, intA, cellA, cellsA, okParts, buildSliceA, partIdx, elemsA, lensA, partsA, partsOk, opA, appendA, dstOk, nilSliceOp, Nat.reduceMul, Nat.reduceLT, Nat.reduceLeDiff, Nat.reduceEqDiff, Nat.reduceBEq, ↓reduceIte, eq_self, wtAll, hh_il]
          rw [app_ints _ f _ rfl]
          refine ⟨fun j hj => by (have : j = 0 := by ((try clear hh_i2); (try clear hh_iT); (try clear hh_i4); (try clear how); (try clear hmo); (try clear hh_il); omega)); subst this; simp only [vsAll, cellA, okCells, eq_self], by ((try clear hh_i2); (try clear hh_iT); (try clear hh_i4); (try clear how); (try clear hmo); (try clear hh_il); omega), by ((try clear hh_i2); (try clear hh_iT); (try clear hh_i4); (try clear how); (try clear hmo); (try clear hh_il); omega), by simp only [InR_i64]; ((try clear hh_i2); (try clear hh_iT); (try clear hh_i4); (try clear how); (try clear hmo); (try clear hh_il); omega), loop_next (l ++ [f], a2 + 1) ⟨by simp only [List.length_append, List.length_cons, List.length_nil]; ((try clear hh_i2); (try clear hh_iT); (try clear hh_i4); (try clear how); (try clear hmo); (try clear hh_il); omega), fun v hv => ?_, by simp only [List.length_append, List.length_cons, List.length_nil]; ((try clear hh_i2); (try clear hh_iT); (try clear hh_i4); (try clear how); (try clear hmo); (try clear hh_il); omega)⟩ (by simp only [List.length_append, List.length_cons, List.length_nil]; ((try clear hh_i2); (try clear hh_iT); (try clear hh_i4); (try clear how); (try clear hmo); (try clear hh_il); omega)) ?_ ?_⟩
          · simp only [List.mem_append, List.mem_singleton] at hv
            rcases hv with hv | hv
            · exact g2 v hv
            · ((try clear hh_i2); (try clear hh_iT); (try clear hh_i4); (try clear how); (try clear hmo); (try clear hh_il); omega)
          · simp only [vsAll, Nat.reduceEqDiff, ↓reduceIte, eq_self, List.length_append, Int.natCast_add, Int.natCast_one]
          · simp only [List.length_append, List.length_cons, List.length_nil, Nat.zero_add]
            (repeat (first | exact HSub_rfl | refine HSub_put_eq (by simp only [vsAll, ↓reduceIte, eq_self, hh_iT, hh_i4, how, hmo, hh_il]) ?_ | refine HSub_drop2 (by simp only [eq_self, hh_i2, hh_iT, hh_i4, how, hmo, hh_il]) ?_ | refine HSub_keep_eq (by simp only [vsAll, binA, binLitA, intA, aggA, boolA, nilA2, isConst, unA, loadA, loadRow, partA, partOk, fieldAddrA, indexAddrA, indexA, fieldA, extractA, lenA, nilCheckA, boxA, cellA, cellsA, fillA, okParts, buildSliceA, buildMutA, makeSliceA, partIdx, elemsA, lensA, ifaceA, convA, mmA, pickA, okAll, stAll, opsA, partsA, partsOk, opA, allocA, boxMutA, newCells, okCells, storeObj, appendA, guardV, taA, nM, mapUpA, lookA, sliceA, boundsA, opO, okO, copyA, dstOk, nilA, quietOk, nilSliceOp, panA, resA, argFr, retA.eq_1, retA.eq_2, Nat.reduceAdd, Nat.reduceSub, Nat.reduceMul, Nat.reduceLT, Nat.reduceLeDiff, Nat.reduceEqDiff, Nat.reduceBEq, Int.reduceAdd, Int.reduceSub, Int.reduceMul, Int.reduceNeg, Int.reduceLE, Int.reduceLT, Int.reduceEq, Int.reduceNe, Int.reduceToNat, ↓reduceIte, reduceCtorEq, implies_true, forall_const, eq_self, ne_eq, wtAll, Try.ntmps31, Try.results31, hh_i2, hh_iT, hh_i4, how, hmo, hh_il]) ?_))
        · have el : (l.length : Int) = F := by ((try clear hh_i2); (try clear hh_iT); (try clear hh_i4); (try clear how); (try clear hmo); (try clear hh_il); omega)
          simp only [vsAll, ↓reduceIte, eq_self]
          refine vs_draw2 [0, 0, 0, 0, 1, 0, 0, 0, 3, 4, 5, 2, 7, 8, 9] [([0, 1, 2, 3, 5, 6, 7], [6], 4), ([11], [6], 8), ([9], [], 10), ([], [], 12), ([13], [], 14)] [] (by decide +kernel) ?_
          simp only [vsAll, loadA, loadRow, partA, partOk, fieldAddrA, cellA, cellsA, okParts, buildSliceA, partIdx, elemsA, lensA, okAll, stAll, opsA, partsA, partsOk, opA, appendA, dstOk, Nat.reduceMul, Nat.reduceLT, Nat.reduceLeDiff, Nat.reduceEqDiff, ↓reduceIte, eq_self, wtAll, how, hmo, hh_il]
          refine ⟨fun j hj => by (have : j = 0 := by ((try clear hh_i2); (try clear hh_iT); (try clear hh_i4); (try clear how); (try clear hmo); (try clear hh_il); omega)); subst this; simp only [vsAll, cellA, okCells, eq_self], by ((try clear hh_i2); (try clear hh_iT); (try clear hh_i4); (try clear how); (try clear hmo); (try clear hh_il); omega), by ((try clear hh_i2); (try clear hh_iT); (try clear hh_i4); (try clear how); (try clear hmo); (try clear hh_il); omega), ?_⟩
          refine callK (dr 2 a2 _ (by ((try clear hh_i2); (try clear hh_iT); (try clear hh_i4); (try clear how); (try clear hmo); (try clear hh_il); omega)) (by ((try clear hh_i2); (try clear hh_iT); (try clear hh_i4); (try clear how); (try clear hmo); (try clear hh_il); omega)) (by simp only [vsAll, ↓reduceIte, eq_self, hh_i4, how, hmo, hh_il]; try rfl)) ?_
          rintro r H' ⟨m, hm, rfl, rfl⟩
          simp only [vsAll, binA, binLitA, intA, loadA, loadRow, partA, partOk, fieldAddrA, cellA, cellsA, okParts, buildSliceA, partIdx, elemsA, lensA, partsA, partsOk, opA, newCells, okCells, storeObj, appendA, dstOk, Nat.reduceAdd, Nat.reduceMul, Nat.reduceLT, Nat.reduceLeDiff, Nat.reduceEqDiff, ↓reduceIte, eq_self, wtAll, hh_i4, how, hmo, hh_il]
          refine ⟨fun j hj => by (have : j = 0 := by ((try clear hh_i2); (try clear hh_iT); (try clear hh_i4); (try clear how); (try clear hmo); (try clear hh_il); omega)); subst this; simp only [vsAll, cellA, okCells, eq_self], by ((try clear hh_i2); (try clear hh_iT); (try clear hh_i4); (try clear how); (try clear hmo); (try clear hh_il); omega), by ((try clear hh_i2); (try clear hh_iT); (try clear hh_i4); (try clear how); (try clear hmo); (try clear hh_il); omega), by simp only [InR_i64]; ((try clear hh_i2); (try clear hh_iT); (try clear hh_i4); (try clear how); (try clear hmo); (try clear hh_il); omega), ?_⟩
          refine loop_ent (Ent.freezeRow (s' := _) (id := il) (st := 1) (n := l.length) (f := intF l) (j := iow) (st' := 1) (n' := ow.length + 1) (g := appF ow.length 1 (llF ow) (fun q => [[AV.sl il 1 l.length]].getD q []))
            (g' := llF (ow ++ [l])) (by simp only [vsAll, ↓reduceIte, eq_self, hh_il]) (by simp only [vsAll, ↓reduceIte, eq_self, how, hmo]) (by simp only [vsAll, ne_eq, hh_il]) (fun t => .rfl) (fun q hq => rfl) (fun q c hq hc' => llF_frz hq hc') ?_)
          refine loop_next (ow ++ [l], mo ++ [m], a2 + 1) ⟨by simp only [List.length_append, List.length_cons, List.length_nil]; ((try clear hh_i2); (try clear hh_iT); (try clear hh_i4); (try clear how); (try clear hmo); (try clear hh_il); omega), ⟨hF4, by simp only [List.length_append, List.length_cons, List.length_nil]; ((try clear hh_i2); (try clear hh_iT); (try clear hh_i4); (try clear how); (try clear hmo); (try clear hh_il); omega), by simp only [List.length_append, List.length_cons, List.length_nil]; ((try clear hh_i2); (try clear hh_iT); (try clear hh_i4); (try clear how); (try clear hmo); (try clear hh_il); omega), fun x hx => ?_, fun x hx => ?_⟩, by simp only [List.length_append, List.length_cons, List.length_nil]; ((try clear hh_i2); (try clear hh_iT); (try clear hh_i4); (try clear how); (try clear hmo); (try clear hh_il); omega)⟩ (by simp only [List.length_append, List.length_cons, List.length_nil]; ((try clear hh_i2); (try clear hh_iT); (try clear hh_i4); (try clear how); (try clear hmo); (try clear hh_il); omega)) ?_ ?_
          · simp only [List.mem_append, List.mem_singleton] at hx
            rcases hx with hx | rfl
            · exact h2.ow x hx
            · exact ⟨el, g2⟩
          · simp only [List.mem_append, List.mem_singleton] at hx
            rcases hx with hx | rfl
            · exact h2.mo x hx
            · ((try clear hh_i2); (try clear hh_iT); (try clear hh_i4); (try clear how); (try clear hmo); (try clear hh_il); omega)
          · simp only [vsAll, Nat.reduceEqDiff, ↓reduceIte, eq_self, List.length_append, Int.natCast_add, Int.natCast_one]
          · simp only [List.length_append, List.length_cons, List.length_nil, Nat.zero_add]
            rw [show appF ow.length 1 (intF mo) (fun i => [[AV.lit (.int .i64 m)]].getD i []) = intF (mo ++ [m]) by rw [← hml]; exact app_ints _ m _ rfl]
            refine HSub_put_eq (by simp only [vsAll, ↓reduceIte, eq_self, how, hh_il, Hp.del_get]; try rfl) (HSub_put_eq (by simp only [vsAll, ↓reduceIte, eq_self, hmo, hh_il, Hp.del_get]; try rfl) (HSub_put_eq (by simp only [vsAll, ↓reduceIte, eq_self]; try rfl) (HSub_put_eq (by simp only [vsAll, ↓reduceIte, eq_self, hh_i4, how, hmo, hh_il, Hp.del_get]; try rfl) (HSub_put_eq (by simp only [vsAll, ↓reduceIte, eq_self, hh_iT, hh_i4, how, hmo, hh_il, Hp.del_get]; try rfl) (HSub_drop2 (by simp only [eq_self, how]) (HSub_del (by simp only [eq_self, hh_il]) ?_))))))
            (repeat (first | exact HSub_rfl | refine HSub_put_eq (by simp only [vsAll, binA, binLitA, intA, aggA, boolA, nilA2, isConst, unA, loadA, loadRow, partA, partOk, fieldAddrA, indexAddrA, indexA, fieldA, extractA, lenA, nilCheckA, boxA, cellA, cellsA, fillA, okParts, buildSliceA, buildMutA, makeSliceA, partIdx, elemsA, lensA, ifaceA, convA, mmA, pickA, okAll, stAll, opsA, partsA, partsOk, opA, allocA, boxMutA, newCells, okCells, storeObj, appendA, guardV, taA, nM, mapUpA, lookA, sliceA, boundsA, opO, okO, copyA, dstOk, nilA, quietOk, nilSliceOp, panA, resA, argFr, retA.eq_1, retA.eq_2, Nat.reduceAdd, Nat.reduceSub, Nat.reduceMul, Nat.reduceLT, Nat.reduceLeDiff, Nat.reduceEqDiff, Nat.reduceBEq, Int.reduceAdd, Int.reduceSub, Int.reduceMul, Int.reduceNeg, Int.reduceLE, Int.reduceLT, Int.reduceEq, Int.reduceNe, Int.reduceToNat, ↓reduceIte, reduceCtorEq, implies_true, forall_const, eq_self, ne_eq, wtAll, Try.ntmps31, Try.results31, hh_i2, hh_iT, hh_i4, how, hmo, hh_il]) ?_ | refine HSub_drop2 (by simp only [eq_self, hh_i2, hh_iT, hh_i4, how, hmo, hh_il]) ?_ | refine HSub_keep_eq (by simp only [vsAll, binA, binLitA, intA, aggA, boolA, nilA2, isConst, unA, loadA, loadRow, partA, partOk, fieldAddrA, indexAddrA, indexA, fieldA, extractA, lenA, nilCheckA, boxA, cellA, cellsA, fillA, okParts, buildSliceA, buildMutA, makeSliceA, partIdx, elemsA, lensA, ifaceA, convA, mmA, pickA, okAll, stAll, opsA, partsA, partsOk, opA, allocA, boxMutA, newCells, okCells, storeObj, appendA, guardV, taA, nM, mapUpA, lookA, sliceA, boundsA, opO, okO, copyA, dstOk, nilA, quietOk, nilSliceOp, panA, resA, argFr, retA.eq_1, retA.eq_2, Nat.reduceAdd, Nat.reduceSub, Nat.reduceMul, Nat.reduceLT, Nat.reduceLeDiff, Nat.reduceEqDiff, Nat.reduceBEq, Int.reduceAdd, Int.reduceSub, Int.reduceMul, Int.reduceNeg, Int.reduceLE, Int.reduceLT, Int.reduceEq, Int.reduceNe, Int.reduceToNat, ↓reduceIte, reduceCtorEq, implies_true, forall_const, eq_self, ne_eq, wtAll, Try.ntmps31, Try.results31, hh_i2, hh_iT, hh_i4, how, hmo, hh_il]) ?_))
    · simp only [vsAll, okAll, stAll, opsA, opA, dstOk, Nat.reduceLT, Nat.reduceEqDiff, ↓reduceIte, eq_self]
      have hO1 : 1 ≤ ow.length := by ((try clear hh_i2); (try clear hh_iT); (try clear hh_i4); (try clear how); (try clear hmo); omega)
      have hO5 : ow.length ≤ 5 := h2.nO
      refine callK (dr 7 a _ (by ((try clear hh_i2); (try clear hh_iT); (try clear hh_i4); (try clear how); (try clear hmo); omega)) (by ((try clear hh_i2); (try clear hh_iT); (try clear hh_i4); (try clear how); (try clear hmo); omega)) (by simp only [vsAll, ↓reduceIte, eq_self, hh_i4, how, hmo]; try rfl)) ?_
      rintro r H' ⟨M, hM, rfl, rfl⟩
      simp only [vsAll, opA, dstOk, Nat.reduceLT, eq_self]
      refine vs_entL (Ent.freezeBox (id := iow) (st := 1) (n := ow.length) (f := llF ow) (j := i2) (st' := 5) (n' := 1) (g := fun _ => [i64 F, .sl iow 1 ow.length, .sl imo 1 ow.length, .lit (.slice none 0 0), .lit (.slice none 0 0)]) (g' := fun _ => [i64 F, llAV ow, .sl imo 1 ow.length, .lit (.slice none 0 0), .lit (.slice none 0 0)]) (by simp only [vsAll, ↓reduceIte, eq_self, how, hmo]; try rfl) (by simp only [vsAll, ↓reduceIte, eq_self, hh_i4]; try rfl) (fun t => .rfl) (fun _ _ => rfl) (fun q d hq hd => ?_) ?_)
      · match d, hd with
        | 0, _ => exact .rfl
        | 1, _ => exact .hit
        | 2, _ => exact .rfl
        | 3, _ => exact .rfl
        | 4, _ => exact .rfl
      refine vs_entL (Ent.weak (H' := (((H.set iT (.row 1 0 fun _ => [])).set i4 (.box 1 1 fun _ => [i64 ((a + 1 : Nat) : Int)])).set imo (.row 1 ow.length (intF mo))).set i2 (.box 5 1 fun _ => [i64 F, llAV ow, .sl imo 1 ow.length, .lit (.slice none 0 0), .lit (.slice none 0 0)])) (fun _ => AV.Le.of_eq rfl) ?_ ?_)
      · refine HSub_put_eq (by simp only [vsAll, ↓reduceIte, eq_self]; try rfl) (HSub_put_eq (by simp only [vsAll, ↓reduceIte, eq_self, hmo, Hp.del_get]; try rfl) (HSub_put_eq (by simp only [vsAll, ↓reduceIte, eq_self, hh_i4, how, Hp.del_get]; try rfl) (HSub_put_eq (by simp only [vsAll, ↓reduceIte, eq_self, hh_iT, hh_i4, how, hmo, Hp.del_get]; try rfl) (HSub_drop2 (by simp only [eq_self, hh_i2]) (HSub_del (by simp only [eq_self, how]) ?_)))))
        (repeat (first | exact HSub_rfl | refine HSub_put_eq (by simp only [vsAll, binA, binLitA, intA, aggA, boolA, nilA2, isConst, unA, loadA, loadRow, partA, partOk, fieldAddrA, indexAddrA, indexA, fieldA, extractA, lenA, nilCheckA, boxA, cellA, cellsA, fillA, okParts, buildSliceA, buildMutA, makeSliceA, partIdx, elemsA, lensA, ifaceA, convA, mmA, pickA, okAll, stAll, opsA, partsA, partsOk, opA, allocA, boxMutA, newCells, okCells, storeObj, appendA, guardV, taA, nM, mapUpA, lookA, sliceA, boundsA, opO, okO, copyA, dstOk, nilA, quietOk, nilSliceOp, panA, resA, argFr, retA.eq_1, retA.eq_2, Nat.reduceAdd, Nat.reduceSub, Nat.reduceMul, Nat.reduceLT, Nat.reduceLeDiff, Nat.reduceEqDiff, Nat.reduceBEq, Int.reduceAdd, Int.reduceSub, Int.reduceMul, Int.reduceNeg, Int.reduceLE, Int.reduceLT, Int.reduceEq, Int.reduceNe, Int.reduceToNat, ↓reduceIte, reduceCtorEq, implies_true, forall_const, eq_self, ne_eq, wtAll, Try.ntmps31, Try.results31, hh_i2, hh_iT, hh_i4, how, hmo]) ?_ | refine HSub_drop2 (by simp only [eq_self, hh_i2, hh_iT, hh_i4, how, hmo]) ?_ | refine HSub_keep_eq (by simp only [vsAll, binA, binLitA, intA, aggA, boolA, nilA2, isConst, unA, loadA, loadRow, partA, partOk, fieldAddrA, indexAddrA, indexA, fieldA, extractA, lenA, nilCheckA, boxA, cellA, cellsA, fillA, okParts, buildSliceA, buildMutA, makeSliceA, partIdx, elemsA, lensA, ifaceA, convA, mmA, pickA, okAll, stAll, opsA, partsA, partsOk, opA, allocA, boxMutA, newCells, okCells, storeObj, appendA, guardV, taA, nM, mapUpA, lookA, sliceA, boundsA, opO, okO, copyA, dstOk, nilA, quietOk, nilSliceOp, panA, resA, argFr, retA.eq_1, retA.eq_2, Nat.reduceAdd, Nat.reduceSub, Nat.reduceMul, Nat.reduceLT, Nat.reduceLeDiff, Nat.reduceEqDiff, Nat.reduceBEq, Int.reduceAdd, Int.reduceSub, Int.reduceMul, Int.reduceNeg, Int.reduceLE, Int.reduceLT, Int.reduceEq, Int.reduceNe, Int.reduceToNat, ↓reduceIte, reduceCtorEq, implies_true, forall_const, eq_self, ne_eq, wtAll, Try.ntmps31, Try.results31, hh_i2, hh_iT, hh_i4, how, hmo]) ?_))
      refine vs_entL (Ent.nilBox 1 (stF []) (fun id _ => [i64 F, llAV ow, .sl imo 1 ow.length, .sl id 1 0, .lit (.slice none 0 0)]) (j := i2) (st' := 5) (n' := 1) (g := fun _ => [i64 F, llAV ow, .sl imo 1 ow.length, .lit (.slice none 0 0), .lit (.slice none 0 0)]) (Hp.set_same _ _ _) (fun _ _ _ => rfl) (fun id q d hq hd => ?_) fun ist hst => ?_)
      · match d, hd with
        | 0, _ => exact .rfl
        | 1, _ => exact .rfl
        | 2, _ => exact .rfl
        | 3, _ => exact .hit
        | 4, _ => exact .rfl
      simp only [Hp.set_none] at hst
      skip
      have hF4 := h2.hF
      refine vs_loop (σ := List (List Mk) × List Int × Nat) (fun x => (x.1.length : Int) ≤ M ∧ StA F ow x.1 x.2.1 ∧ x.2.2 ≤ 30 + 15 * x.1.length)
        (fun x => [(2, .ref i2 0 5 0 0), (3, .sl iT 1 x.1.length), (5, drawAV i4 N b), (50, i64 M), (51, i64 x.1.length)])
        (fun x => ((((H.set iT (.row 1 x.1.length (intF x.2.1))).set i4 (.box 1 1 fun _ => [i64 x.2.2])).set imo (.row 1 ow.length (intF mo))).set ist (.row 1 x.1.length (stF x.1))).set i2 (.box 5 1 fun _ => [i64 F, llAV ow, .sl imo 1 ow.length, .sl ist 1 x.1.length, .lit (.slice none 0 0)])) (fun x => 20 - x.1.length) ([], [], a + 1) ⟨by simp; ((try clear hh_i2); (try clear hh_iT); (try clear hh_i4); (try clear how); (try clear hmo); (try clear hst); omega), ⟨by simp, rfl, by simp, by simp⟩, by simp only [List.length_nil]; ((try clear hh_i2); (try clear hh_iT); (try clear hh_i4); (try clear how); (try clear hmo); (try clear hst); omega)⟩ ?_ ?_ fun ⟨st, t, a2⟩ hi => ?_
      · simp only [vsAll, Nat.reduceEqDiff, ↓reduceIte, eq_self, Int.natCast_zero]
      · dsimp only [List.length_nil]
        refine HSub_put_eq (by simp only [vsAll, ↓reduceIte, eq_self]; try rfl) (HSub_put_eq (by simp only [vsAll, ↓reduceIte, eq_self, hst]; try rfl) (HSub_put_eq (by simp only [vsAll, ↓reduceIte, eq_self, hmo, hst]; try rfl) (HSub_put_eq (by simp only [vsAll, ↓reduceIte, eq_self, hh_i4, hmo, hst]; try rfl) (HSub_put (o' := .row 1 0 fun _ => []) (by simp only [vsAll, ↓reduceIte, eq_self, hh_iT, hh_i4, hmo, hst]; try rfl) (row0_le _ _ _) ?_))))
        (repeat (first | exact HSub_rfl | refine HSub_put_eq (by simp only [vsAll, binA, binLitA, intA, aggA, boolA, nilA2, isConst, unA, loadA, loadRow, partA, partOk, fieldAddrA, indexAddrA, indexA, fieldA, extractA, lenA, nilCheckA, boxA, cellA, cellsA, fillA, okParts, buildSliceA, buildMutA, makeSliceA, partIdx, elemsA, lensA, ifaceA, convA, mmA, pickA, okAll, stAll, opsA, partsA, partsOk, opA, allocA, boxMutA, newCells, okCells, storeObj, appendA, guardV, taA, nM, mapUpA, lookA, sliceA, boundsA, opO, okO, copyA, dstOk, nilA, quietOk, nilSliceOp, panA, resA, argFr, retA.eq_1, retA.eq_2, Nat.reduceAdd, Nat.reduceSub, Nat.reduceMul, Nat.reduceLT, Nat.reduceLeDiff, Nat.reduceEqDiff, Nat.reduceBEq, Int.reduceAdd, Int.reduceSub, Int.reduceMul, Int.reduceNeg, Int.reduceLE, Int.reduceLT, Int.reduceEq, Int.reduceNe, Int.reduceToNat, ↓reduceIte, reduceCtorEq, implies_true, forall_const, eq_self, ne_eq, wtAll, Try.ntmps31, Try.results31, hh_i2, hh_iT, hh_i4, how, hmo, hst]) ?_ | refine HSub_drop2 (by simp only [eq_self, hh_i2, hh_iT, hh_i4, hmo, hst]) ?_ | refine HSub_keep_eq (by simp only [vsAll, binA, binLitA, intA, aggA, boolA, nilA2, isConst, unA, loadA, loadRow, partA, partOk, fieldAddrA, indexAddrA, indexA, fieldA, extractA, lenA, nilCheckA, boxA, cellA, cellsA, fillA, okParts, buildSliceA, buildMutA, makeSliceA, partIdx, elemsA, lensA, ifaceA, convA, mmA, pickA, okAll, stAll, opsA, partsA, partsOk, opA, allocA, boxMutA, newCells, okCells, storeObj, appendA, guardV, taA, nM, mapUpA, lookA, sliceA, boundsA, opO, okO, copyA, dstOk, nilA, quietOk, nilSliceOp, panA, resA, argFr, retA.eq_1, retA.eq_2, Nat.reduceAdd, Nat.reduceSub, Nat.reduceMul, Nat.reduceLT, Nat.reduceLeDiff, Nat.reduceEqDiff, Nat.reduceBEq, Int.reduceAdd, Int.reduceSub, Int.reduceMul, Int.reduceNeg, Int.reduceLE, Int.reduceLT, Int.reduceEq, Int.reduceNe, Int.reduceToNat, ↓reduceIte, reduceCtorEq, implies_true, forall_const, eq_self, ne_eq, wtAll, Try.ntmps31, Try.results31, hh_i2, hh_iT, hh_i4, how, hmo, hst]) ?_))
      · obtain ⟨k1, k2, k3⟩ := hi
        simp only [] at k1 k2 k3
        have k6 := k2.n
        have kl := k2.len
        simp only [vsAll, binA, binLitA, intA, opA, dstOk, Nat.reduceLT, Nat.reduceEqDiff, ↓reduceIte, eq_self]
        refine condD (fun hd3 => ?_) (fun hd3 => ?_)
        · simp only [vsAll, loadA, loadRow, partA, partOk, fieldAddrA, lenA, okAll, stAll, opsA, opA, dstOk, Nat.reduceLT, Nat.reduceEqDiff, ↓reduceIte, eq_self, wtAll]
          refine callK (dr ow.length a2 _ (by ((try clear hh_i2); (try clear hh_iT); (try clear hh_i4); (try clear how); (try clear hmo); (try clear hst); omega)) (by ((try clear hh_i2); (try clear hh_iT); (try clear hh_i4); (try clear how); (try clear hmo); (try clear hst); omega)) (by simp only [vsAll, ↓reduceIte, eq_self, hh_i4, hmo, hst]; try rfl)) ?_
          rintro r H' ⟨o', ho', rfl, rfl⟩
          obtain ⟨o, rfl⟩ : ∃ o : Nat, o' = (o : Int) := ⟨o'.toNat, by ((try clear hh_i2); (try clear hh_iT); (try clear hh_i4); (try clear how); (try clear hmo); (try clear hst); omega)⟩
          have ho : o < ow.length := by ((try clear hh_i2); (try clear hh_iT); (try clear hh_i4); (try clear how); (try clear hmo); (try clear hst); omega)
          simp only [vsAll, loadA, loadRow, partA, partOk, fieldAddrA, indexAddrA, lenA, opA, dstOk, nilA, nilSliceOp, Nat.reduceLT, Nat.reduceEqDiff, Nat.reduceBEq, ↓reduceIte, eq_self, wtAll, hh_i4]
          intro il hh_il; (try simp only [ite_none] at hh_il)
          simp only [vsAll, Nat.reduceLT, ↓reduceIte, eq_self, hh_il, llF_at]
          have hrow := h2.ow (ow.getD o []) (mem_getD _ _ _ ho)
          generalize hR : ow.getD o [] = row at *
          obtain ⟨hrl, hrv⟩ := hrow
          refine ⟨⟨by ((try clear hh_i2); (try clear hh_iT); (try clear hh_i4); (try clear how); (try clear hmo); (try clear hst); (try clear hh_il); omega), by ((try clear hh_i2); (try clear hh_iT); (try clear hh_i4); (try clear how); (try clear hmo); (try clear hst); (try clear hh_il); omega)⟩, ho, ?_⟩
          refine vs_loop (σ := Nat × List Mk × Nat) (fun y => y.1 ≤ row.length ∧ (y.2.1.length ≤ y.1 ∧ ∀ m ∈ y.2.1, MkA F row m) ∧ y.2.2 ≤ a2 + 1 + 3 * y.1)
            (fun y => [(2, .ref i2 0 5 0 0), (3, .sl iT 1 st.length), (5, drawAV i4 N b), (7, i64 o), (8, .sl il 3 y.2.1.length), (50, i64 M), (51, i64 st.length), (62, intsAV row), (63, i64 row.length), (64, i64 y.1)])
            (fun y => (((((H.set iT (.row 1 st.length (intF t))).set i4 (.box 1 1 fun _ => [i64 y.2.2])).set imo (.row 1 ow.length (intF mo))).set ist (.row 1 st.length (stF st))).set i2 (.box 5 1 fun _ => [i64 F, llAV ow, .sl imo 1 ow.length, .sl ist 1 st.length, .lit (.slice none 0 0)])).set il (.row 3 y.2.1.length (mkF y.2.1))) (fun y => 20 - y.1) (0, [], a2 + 1) ⟨by dsimp only; ((try clear hh_i2); (try clear hh_iT); (try clear hh_i4); (try clear how); (try clear hmo); (try clear hst); (try clear hh_il); omega), ⟨by simp, by simp⟩, by dsimp only; ((try clear hh_i2); (try clear hh_iT); (try clear hh_i4); (try clear how); (try clear hmo); (try clear hst); (try clear hh_il); omega)⟩ ?_ ?_ fun ⟨f, l, a3⟩ hi2 => ?_
          · simp only [vsAll, Nat.reduceEqDiff, ↓reduceIte, eq_self, Int.natCast_zero]
          · dsimp only [List.length_nil]
            refine HSub_put (o' := .row 3 0 fun _ => []) (by simp only [vsAll, ↓reduceIte, eq_self]; try rfl) (row0_le _ _ _) ?_
            (repeat (first | exact HSub_rfl | refine HSub_put_eq (by simp only [vsAll, ↓reduceIte, eq_self, hh_iT, hh_i4, hmo, hst, hh_il]) ?_ | refine HSub_drop2 (by simp only [eq_self, hh_i2, hh_iT, hh_i4, hmo, hst, hh_il]) ?_ | refine HSub_keep_eq (by simp only [vsAll, binA, binLitA, intA, aggA, boolA, nilA2, isConst, unA, loadA, loadRow, partA, partOk, fieldAddrA, indexAddrA, indexA, fieldA, extractA, lenA, nilCheckA, boxA, cellA, cellsA, fillA, okParts, buildSliceA, buildMutA, makeSliceA, partIdx, elemsA, lensA, ifaceA, convA, mmA, pickA, okAll, stAll, opsA, partsA, partsOk, opA, allocA, boxMutA, newCells, okCells, storeObj, appendA, guardV, taA, nM, mapUpA, lookA, sliceA, boundsA, opO, okO, copyA, dstOk, nilA, quietOk, nilSliceOp, panA, resA, argFr, retA.eq_1, retA.eq_2, Nat.reduceAdd, Nat.reduceSub, Nat.reduceMul, Nat.reduceLT, Nat.reduceLeDiff, Nat.reduceEqDiff, Nat.reduceBEq, Int.reduceAdd, Int.reduceSub, Int.reduceMul, Int.reduceNeg, Int.reduceLE, Int.reduceLT, Int.reduceEq, Int.reduceNe, Int.reduceToNat, ↓reduceIte, reduceCtorEq, implies_true, forall_const, eq_self, ne_eq, wtAll, Try.ntmps31, Try.results31, hh_i2, hh_iT, hh_i4, how, hmo, hst, hh_il]) ?_))
          · obtain ⟨g1, ⟨g2, g3⟩, g4⟩ := hi2
            simp only [] at g1 g2 g3 g4
            simp only [vsAll, binA, binLitA, intA, opA, dstOk, Nat.reduceLT, Nat.reduceEqDiff, ↓reduceIte, eq_self]
            refine condD (fun hd4 => ?_) (fun hd4 => ?_)
            · have hf : f < row.length := by ((try clear hh_i2); (try clear hh_iT); (try clear hh_i4); (try clear how); (try clear hmo); (try clear hst); (try clear hh_il); omega)
              have hv0 := hrv (row.getD f 0) (mem_getD _ _ _ hf)
              simp only [vsAll, loadA, loadRow, partA, partOk, indexAddrA, okAll, stAll, opsA, opA, dstOk, nilSliceOp, Nat.reduceLT, Nat.reduceEqDiff, Nat.reduceBEq, ↓reduceIte, eq_self, wtAll, intF_at]
              generalize hnv : row.getD f 0 = nv at *
              refine ⟨by ((try clear hh_i2); (try clear hh_iT); (try clear hh_i4); (try clear how); (try clear hmo); (try clear hst); (try clear hh_il); omega), hf, ?_⟩
              refine callK (dr 2 a3 _ (by ((try clear hh_i2); (try clear hh_iT); (try clear hh_i4); (try clear how); (try clear hmo); (try clear hst); (try clear hh_il); omega)) (by ((try clear hh_i2); (try clear hh_iT); (try clear hh_i4); (try clear how); (try clear hmo); (try clear hst); (try clear hh_il); omega)) (by simp only [vsAll, ↓reduceIte, eq_self, hh_i4, hmo, hst, hh_il]; try rfl)) ?_
              rintro r H' ⟨z, hz, rfl, rfl⟩
              simp only [vsAll, binA, binLitA, intA, opA, dstOk, Nat.reduceLT, ↓reduceIte, eq_self]
              refine condV (fun hc => ?_) (fun hc => ?_)
              · simp only [vsAll, okAll, stAll, opsA, opA, dstOk, Nat.reduceLT, Nat.reduceEqDiff, ↓reduceIte, eq_self]
                refine callK (dr 2 (a3 + 1) _ (by ((try clear hh_i2); (try clear hh_iT); (try clear hh_i4); (try clear how); (try clear hmo); (try clear hst); (try clear hh_il); omega)) (by ((try clear hh_i2); (try clear hh_iT); (try clear hh_i4); (try clear how); (try clear hmo); (try clear hst); (try clear hh_il); omega)) (by simp only [vsAll, ↓reduceIte, eq_self]; try rfl)) ?_
                rintro r H' ⟨d1, hd1, rfl, rfl⟩
                simp only [vsAll, binA, binLitA, intA, mmA, okAll, stAll, opsA, opA, dstOk, Nat.reduceLT, Nat.reduceEqDiff, ↓reduceIte, eq_self]
                refine ⟨by simp only [InR_i64]; ((try clear hh_i2); (try clear hh_iT); (try clear hh_i4); (try clear how); (try clear hmo); (try clear hst); (try clear hh_il); omega), ?_⟩
                refine callK (dr 2 (a3 + 1 + 1) _ (by ((try clear hh_i2); (try clear hh_iT); (try clear hh_i4); (try clear how); (try clear hmo); (try clear hst); (try clear hh_il); omega)) (by ((try clear hh_i2); (try clear hh_iT); (try clear hh_i4); (try clear how); (try clear hmo); (try clear hst); (try clear hh_il); omega)) (by simp only [vsAll, ↓reduceIte, eq_self]; try rfl)) ?_
                rintro r H' ⟨d2, hd2, rfl, rfl⟩
                simp only [vsAll, binA, binLitA, intA, mmA, okAll, stAll, opsA, opA, dstOk, Nat.reduceLT, Nat.reduceEqDiff, ↓reduceIte, eq_self]
                refine ⟨by simp only [InR_i64]; ((try clear hh_i2); (try clear hh_iT); (try clear hh_i4); (try clear how); (try clear hmo); (try clear hst); (try clear hh_il); omega), ?_⟩
                refine callK_pure (mark_tri f (max 0 (nv - d1)) (min 9 (nv + d2)) _) ?_
                simp only [vsAll, binA, binLitA, intA, cellsA, okParts, buildSliceA, partIdx, elemsA, lensA, partsA, partsOk, opA, appendA, dstOk, nilSliceOp, Nat.reduceAdd, Nat.reduceMul, Nat.reduceLT, Nat.reduceLeDiff, Nat.reduceEqDiff, Nat.reduceBEq, ↓reduceIte, eq_self, wtAll, hh_il]
                rw [app_mk _ ⟨f, max 0 (nv - d1), min 9 (nv + d2)⟩ _ rfl]
                refine ⟨fun j hj => by (have : j = 0 := by ((try clear hh_i2); (try clear hh_iT); (try clear hh_i4); (try clear how); (try clear hmo); (try clear hst); (try clear hh_il); omega)); subst this; simp only [vsAll, cellA, okCells, eq_self], by ((try clear hh_i2); (try clear hh_iT); (try clear hh_i4); (try clear how); (try clear hmo); (try clear hst); (try clear hh_il); omega), by ((try clear hh_i2); (try clear hh_iT); (try clear hh_i4); (try clear how); (try clear hmo); (try clear hst); (try clear hh_il); omega), by simp only [InR_i64]; ((try clear hh_i2); (try clear hh_iT); (try clear hh_i4); (try clear how); (try clear hmo); (try clear hst); (try clear hh_il); omega), loop_next (f + 1, l ++ [⟨f, max 0 (nv - d1), min 9 (nv + d2)⟩], a3 + 1 + 1 + 1) ⟨by dsimp only; ((try clear hh_i2); (try clear hh_iT); (try clear hh_i4); (try clear how); (try clear hmo); (try clear hst); (try clear hh_il); omega), ⟨by simp only [List.length_append, List.length_cons, List.length_nil]; ((try clear hh_i2); (try clear hh_iT); (try clear hh_i4); (try clear how); (try clear hmo); (try clear hst); (try clear hh_il); omega), fun m hm => ?_⟩, by dsimp only; ((try clear hh_i2); (try clear hh_iT); (try clear hh_i4); (try clear how); (try clear hmo); (try clear hst); (try clear hh_il); omega)⟩ (by dsimp only; ((try clear hh_i2); (try clear hh_iT); (try clear hh_i4); (try clear how); (try clear hmo); (try clear hst); (try clear hh_il); omega)) ?_ ?_⟩
                · simp only [List.mem_append, List.mem_singleton] at hm
                  rcases hm with hm | rfl
                  · exact g3 m hm
                  · refine ⟨⟨by show (0 : Int) ≤ (f : Int); ((try clear hh_i2); (try clear hh_iT); (try clear hh_i4); (try clear how); (try clear hmo); (try clear hst); (try clear hh_il); omega), by show (f : Int) < F; ((try clear hh_i2); (try clear hh_iT); (try clear hh_i4); (try clear how); (try clear hmo); (try clear hst); (try clear hh_il); omega)⟩, ⟨by show 0 ≤ max 0 (nv - d1); ((try clear hh_i2); (try clear hh_iT); (try clear hh_i4); (try clear how); (try clear hmo); (try clear hst); (try clear hh_il); omega), by show max 0 (nv - d1) ≤ min 9 (nv + d2); ((try clear hh_i2); (try clear hh_iT); (try clear hh_i4); (try clear how); (try clear hmo); (try clear hst); (try clear hh_il); omega), by show min 9 (nv + d2) ≤ 9; ((try clear hh_i2); (try clear hh_iT); (try clear hh_i4); (try clear how); (try clear hmo); (try clear hst); (try clear hh_il); omega)⟩, ?_⟩
                    simp only [fitM, Bool.and_eq_true, decide_eq_true_eq, Int.toNat_natCast, hnv]
                    ((try clear hh_i2); (try clear hh_iT); (try clear hh_i4); (try clear how); (try clear hmo); (try clear hst); (try clear hh_il); omega)
                · simp only [vsAll, Nat.reduceEqDiff, ↓reduceIte, eq_self, List.length_append, Int.natCast_add, Int.natCast_one]
                · simp only [List.length_append, List.length_cons, List.length_nil, Nat.zero_add]
                  (repeat (first | exact HSub_rfl | refine HSub_put_eq (by simp only [vsAll, ↓reduceIte, eq_self, hh_iT, hh_i4, hmo, hst, hh_il]) ?_ | refine HSub_drop2 (by simp only [eq_self, hh_i2, hh_iT, hh_i4, hmo, hst, hh_il]) ?_ | refine HSub_keep_eq (by simp only [vsAll, binA, binLitA, intA, aggA, boolA, nilA2, isConst, unA, loadA, loadRow, partA, partOk, fieldAddrA, indexAddrA, indexA, fieldA, extractA, lenA, nilCheckA, boxA, cellA, cellsA, fillA, okParts, buildSliceA, buildMutA, makeSliceA, partIdx, elemsA, lensA, ifaceA, convA, mmA, pickA, okAll, stAll, opsA, partsA, partsOk, opA, allocA, boxMutA, newCells, okCells, storeObj, appendA, guardV, taA, nM, mapUpA, lookA, sliceA, boundsA, opO, okO, copyA, dstOk, nilA, quietOk, nilSliceOp, panA, resA, argFr, retA.eq_1, retA.eq_2, Nat.reduceAdd, Nat.reduceSub, Nat.reduceMul, Nat.reduceLT, Nat.reduceLeDiff, Nat.reduceEqDiff, Nat.reduceBEq, Int.reduceAdd, Int.reduceSub, Int.reduceMul, Int.reduceNeg, Int.reduceLE, Int.reduceLT, Int.reduceEq, Int.reduceNe, Int.reduceToNat, ↓reduceIte, reduceCtorEq, implies_true, forall_const, eq_self, ne_eq, wtAll, Try.ntmps31, Try.results31, hh_i2, hh_iT, hh_i4, how, hmo, hst, hh_il]) ?_))
              · simp only [vsAll, binA, binLitA, intA, opA, dstOk, Nat.reduceLT, Nat.reduceEqDiff, ↓reduceIte, eq_self]
                refine ⟨by simp only [InR_i64]; ((try clear hh_i2); (try clear hh_iT); (try clear hh_i4); (try clear how); (try clear hmo); (try clear hst); (try clear hh_il); omega), loop_next (f + 1, l, a3 + 1) ⟨by dsimp only; ((try clear hh_i2); (try clear hh_iT); (try clear hh_i4); (try clear how); (try clear hmo); (try clear hst); (try clear hh_il); omega), ⟨by dsimp only; ((try clear hh_i2); (try clear hh_iT); (try clear hh_i4); (try clear how); (try clear hmo); (try clear hst); (try clear hh_il); omega), g3⟩, by dsimp only; ((try clear hh_i2); (try clear hh_iT); (try clear hh_i4); (try clear how); (try clear hmo); (try clear hst); (try clear hh_il); omega)⟩ (by dsimp only; ((try clear hh_i2); (try clear hh_iT); (try clear hh_i4); (try clear how); (try clear hmo); (try clear hst); (try clear hh_il); omega)) ?_ ?_⟩
                · simp only [vsAll, Nat.reduceEqDiff, ↓reduceIte, eq_self, Int.natCast_add, Int.natCast_one]
                · (repeat (first | exact HSub_rfl | refine HSub_put_eq (by simp only [vsAll, ↓reduceIte, eq_self, hh_iT, hh_i4, hmo, hst, hh_il]) ?_ | refine HSub_drop2 (by simp only [eq_self, hh_i2, hh_iT, hh_i4, hmo, hst, hh_il]) ?_ | refine HSub_keep_eq (by simp only [vsAll, binA, binLitA, intA, aggA, boolA, nilA2, isConst, unA, loadA, loadRow, partA, partOk, fieldAddrA, indexAddrA, indexA, fieldA, extractA, lenA, nilCheckA, boxA, cellA, cellsA, fillA, okParts, buildSliceA, buildMutA, makeSliceA, partIdx, elemsA, lensA, ifaceA, convA, mmA, pickA, okAll, stAll, opsA, partsA, partsOk, opA, allocA, boxMutA, newCells, okCells, storeObj, appendA, guardV, taA, nM, mapUpA, lookA, sliceA, boundsA, opO, okO, copyA, dstOk, nilA, quietOk, nilSliceOp, panA, resA, argFr, retA.eq_1, retA.eq_2, Nat.reduceAdd, Nat.reduceSub, Nat.reduceMul, Nat.reduceLT, Nat.reduceLeDiff, Nat.reduceEqDiff, Nat.reduceBEq, Int.reduceAdd, Int.reduceSub, Int.reduceMul, Int.reduceNeg, Int.reduceLE, Int.reduceLT, Int.reduceEq, Int.reduceNe, Int.reduceToNat, ↓reduceIte, reduceCtorEq, implies_true, forall_const, eq_self, ne_eq, wtAll, Try.ntmps31, Try.results31, hh_i2, hh_iT, hh_i4, how, hmo, hst, hh_il]) ?_))
            · have ef : f = row.length := by ((try clear hh_i2); (try clear hh_iT); (try clear hh_i4); (try clear how); (try clear hmo); (try clear hst); (try clear hh_il); omega)
              simp only [vsAll, binA, binLitA, intA, loadA, loadRow, partA, partOk, fieldAddrA, cellA, cellsA, okParts, buildSliceA, partIdx, elemsA, lensA, partsA, partsOk, opA, newCells, okCells, storeObj, appendA, dstOk, nilSliceOp, Nat.reduceAdd, Nat.reduceMul, Nat.reduceLT, Nat.reduceLeDiff, Nat.reduceEqDiff, Nat.reduceBEq, ↓reduceIte, eq_self, wtAll, hh_iT, hh_i4, hmo, hst, hh_il]
              rw [show appF st.length 1 (intF t) (fun i => [[AV.lit (.int .i64 o)]].getD i []) = intF (t ++ [(o : Int)]) by rw [← kl]; exact app_ints _ _ _ rfl]
              refine ⟨fun j hj => by (have : j = 0 := by ((try clear hh_i2); (try clear hh_iT); (try clear hh_i4); (try clear how); (try clear hmo); (try clear hst); (try clear hh_il); omega)); subst this; simp only [vsAll, cellA, okCells, eq_self], by ((try clear hh_i2); (try clear hh_iT); (try clear hh_i4); (try clear how); (try clear hmo); (try clear hst); (try clear hh_il); omega), by ((try clear hh_i2); (try clear hh_iT); (try clear hh_i4); (try clear how); (try clear hmo); (try clear hst); (try clear hh_il); omega), fun j hj => by (have : j = 0 := by ((try clear hh_i2); (try clear hh_iT); (try clear hh_i4); (try clear how); (try clear hmo); (try clear hst); (try clear hh_il); omega)); subst this; simp only [vsAll, cellA, okCells, eq_self], by ((try clear hh_i2); (try clear hh_iT); (try clear hh_i4); (try clear how); (try clear hmo); (try clear hst); (try clear hh_il); omega), by ((try clear hh_i2); (try clear hh_iT); (try clear hh_i4); (try clear how); (try clear hmo); (try clear hst); (try clear hh_il); omega), by simp only [InR_i64]; ((try clear hh_i2); (try clear hh_iT); (try clear hh_i4); (try clear how); (try clear hmo); (try clear hst); (try clear hh_il); omega), ?_⟩
              refine loop_ent (Ent.freezeRow (s' := _) (id := il) (st := 3) (n := l.length) (f := mkF l) (j := ist) (st' := 1) (n' := st.length + 1) (g := appF st.length 1 (stF st) (fun q => [[AV.sl il 3 l.length]].getD q []))
                (g' := stF (st ++ [l])) (by simp only [vsAll, ↓reduceIte, eq_self, hh_il]) (by simp only [vsAll, ↓reduceIte, eq_self, hst]) (by simp only [vsAll, ne_eq, hh_il]) (fun t => .rfl) (fun q hq => rfl) (fun q c hq hc' => stF_frz2 hq hc') ?_)
              refine loop_next (st ++ [l], t ++ [(o : Int)], a3) ⟨by simp only [List.length_append, List.length_cons, List.length_nil]; ((try clear hh_i2); (try clear hh_iT); (try clear hh_i4); (try clear how); (try clear hmo); (try clear hst); (try clear hh_il); omega), ⟨by simp only [List.length_append, List.length_cons, List.length_nil]; ((try clear hh_i2); (try clear hh_iT); (try clear hh_i4); (try clear how); (try clear hmo); (try clear hst); (try clear hh_il); omega), by simp only [List.length_append, List.length_cons, List.length_nil]; ((try clear hh_i2); (try clear hh_iT); (try clear hh_i4); (try clear how); (try clear hmo); (try clear hst); (try clear hh_il); omega), fun s hs => ?_, fun s hs => ?_⟩, by simp only [List.length_append, List.length_cons, List.length_nil]; ((try clear hh_i2); (try clear hh_iT); (try clear hh_i4); (try clear how); (try clear hmo); (try clear hst); (try clear hh_il); omega)⟩ (by simp only [List.length_append, List.length_cons, List.length_nil]; ((try clear hh_i2); (try clear hh_iT); (try clear hh_i4); (try clear how); (try clear hmo); (try clear hst); (try clear hh_il); omega)) ?_ ?_
              · simp only [List.length_append, List.length_cons, List.length_nil] at hs
                rw [getD_snoc]
                split
                · ((try clear hh_i2); (try clear hh_iT); (try clear hh_i4); (try clear how); (try clear hmo); (try clear hst); (try clear hh_il); omega)
                · exact k2.own s (by ((try clear hh_i2); (try clear hh_iT); (try clear hh_i4); (try clear how); (try clear hmo); (try clear hst); (try clear hh_il); omega))
              · simp only [List.length_append, List.length_cons, List.length_nil] at hs
                rw [getD_snoc, getD_snoc, kl]
                by_cases e : s = st.length
                · rw [if_pos e, if_pos e, Int.toNat_natCast, hR]
                  exact ⟨by ((try clear hh_i2); (try clear hh_iT); (try clear hh_i4); (try clear how); (try clear hmo); (try clear hst); (try clear hh_il); omega), g3⟩
                · rw [if_neg e, if_neg e]
                  exact k2.mks s (by ((try clear hh_i2); (try clear hh_iT); (try clear hh_i4); (try clear how); (try clear hmo); (try clear hst); (try clear hh_il); omega))
              · simp only [vsAll, Nat.reduceEqDiff, ↓reduceIte, eq_self, List.length_append, Int.natCast_add, Int.natCast_one]
              · simp only [List.length_append, List.length_cons, List.length_nil, Nat.zero_add]
                refine HSub_put_eq (by simp only [vsAll, ↓reduceIte, eq_self, hst, hh_il, Hp.del_get]; try rfl) (HSub_put_eq (by simp only [vsAll, ↓reduceIte, eq_self]; try rfl) (HSub_put_eq (by simp only [vsAll, ↓reduceIte, eq_self, hmo, hst, hh_il, Hp.del_get]; try rfl) (HSub_put_eq (by simp only [vsAll, ↓reduceIte, eq_self, hh_i4, hmo, hst, hh_il, Hp.del_get]; try rfl) (HSub_put_eq (by simp only [vsAll, ↓reduceIte, eq_self, hh_iT, hst, hh_il, Hp.del_get]; try rfl) (HSub_drop2 (by simp only [eq_self, hst]) (HSub_del (by simp only [eq_self, hh_il]) ?_))))))
                (repeat (first | exact HSub_rfl | refine HSub_put_eq (by simp only [vsAll, binA, binLitA, intA, aggA, boolA, nilA2, isConst, unA, loadA, loadRow, partA, partOk, fieldAddrA, indexAddrA, indexA, fieldA, extractA, lenA, nilCheckA, boxA, cellA, cellsA, fillA, okParts, buildSliceA, buildMutA, makeSliceA, partIdx, elemsA, lensA, ifaceA, convA, mmA, pickA, okAll, stAll, opsA, partsA, partsOk, opA, allocA, boxMutA, newCells, okCells, storeObj, appendA, guardV, taA, nM, mapUpA, lookA, sliceA, boundsA, opO, okO, copyA, dstOk, nilA, quietOk, nilSliceOp, panA, resA, argFr, retA.eq_1, retA.eq_2, Nat.reduceAdd, Nat.reduceSub, Nat.reduceMul, Nat.reduceLT, Nat.reduceLeDiff, Nat.reduceEqDiff, Nat.reduceBEq, Int.reduceAdd, Int.reduceSub, Int.reduceMul, Int.reduceNeg, Int.reduceLE, Int.reduceLT, Int.reduceEq, Int.reduceNe, Int.reduceToNat, ↓reduceIte, reduceCtorEq, implies_true, forall_const, eq_self, ne_eq, wtAll, Try.ntmps31, Try.results31, hh_i2, hh_iT, hh_i4, how, hmo, hst, hh_il]) ?_ | refine HSub_drop2 (by simp only [eq_self, hh_i2, hh_iT, hh_i4, hmo, hst, hh_il]) ?_ | refine HSub_keep_eq (by simp only [vsAll, binA, binLitA, intA, aggA, boolA, nilA2, isConst, unA, loadA, loadRow, partA, partOk, fieldAddrA, indexAddrA, indexA, fieldA, extractA, lenA, nilCheckA, boxA, cellA, cellsA, fillA, okParts, buildSliceA, buildMutA, makeSliceA, partIdx, elemsA, lensA, ifaceA, convA, mmA, pickA, okAll, stAll, opsA, partsA, partsOk, opA, allocA, boxMutA, newCells, okCells, storeObj, appendA, guardV, taA, nM, mapUpA, lookA, sliceA, boundsA, opO, okO, copyA, dstOk, nilA, quietOk, nilSliceOp, panA, resA, argFr, retA.eq_1, retA.eq_2, Nat.reduceAdd, Nat.reduceSub, Nat.reduceMul, Nat.reduceLT, Nat.reduceLeDiff, Nat.reduceEqDiff, Nat.reduceBEq, Int.reduceAdd, Int.reduceSub, Int.reduceMul, Int.reduceNeg, Int.reduceLE, Int.reduceLT, Int.reduceEq, Int.reduceNe, Int.reduceToNat, ↓reduceIte, reduceCtorEq, implies_true, forall_const, eq_self, ne_eq, wtAll, Try.ntmps31, Try.results31, hh_i2, hh_iT, hh_i4, how, hmo, hst, hh_il]) ?_))
        · have eM : M = st.length := by ((try clear hh_i2); (try clear hh_iT); (try clear hh_i4); (try clear how); (try clear hmo); (try clear hst); omega)
          simp only [vsAll, loadA, loadRow, partA, partOk, fieldAddrA, lenA, makeSliceA, opA, dstOk, nilSliceOp, Nat.reduceLT, Nat.reduceEqDiff, Nat.reduceBEq, ↓reduceIte, eq_self, wtAll]
          refine ⟨by ((try clear hh_i2); (try clear hh_iT); (try clear hh_i4); (try clear how); (try clear hmo); (try clear hst); omega), by ((try clear hh_i2); (try clear hh_iT); (try clear hh_i4); (try clear how); (try clear hmo); (try clear hst); omega), by ((try clear hh_i2); (try clear hh_iT); (try clear hh_i4); (try clear how); (try clear hmo); (try clear hst); omega), ?_⟩
          intro imy hh_imy; (try simp only [ite_none] at hh_imy)
          refine vs_loop (σ := Nat) (fun i => i ≤ st.length) (fun i => [(2, .ref i2 0 5 0 0), (3, .sl iT 1 st.length), (5, drawAV i4 N b), (11, .sl imy 1 ow.length), (103, .sl iT 1 st.length), (104, i64 st.length), (105, i64 i)])
            (fun i => (((((H.set iT (.row 1 st.length (intF t))).set i4 (.box 1 1 fun _ => [i64 a2])).set imo (.row 1 ow.length (intF mo))).set ist (.row 1 st.length (stF st))).set i2 (.box 5 1 fun _ => [i64 F, llAV ow, .sl imo 1 ow.length, .sl ist 1 st.length, .lit (.slice none 0 0)])).set imy (.row 1 ow.length (cnF t i))) (fun i => st.length - i) 0 (by ((try clear hh_i2); (try clear hh_iT); (try clear hh_i4); (try clear how); (try clear hmo); (try clear hst); (try clear hh_imy); omega)) ?_ ?_ fun i hi => ?_
          · simp only [vsAll, Nat.reduceEqDiff, ↓reduceIte, eq_self, Int.natCast_zero]
          · refine HSub_put (o' := .row 1 ow.length fun _ => [i64 0]) (by simp only [vsAll, ↓reduceIte, eq_self]; try rfl) (row_ext fun q hq => ?_) ?_
            · simp only [cnF, List.take_zero, cntB, List.countP_nil]; rfl
            · (repeat (first | exact HSub_rfl | refine HSub_put_eq (by simp only [vsAll, ↓reduceIte, eq_self, hh_iT, hh_i4, hmo, hst, hh_imy]) ?_ | refine HSub_drop2 (by simp only [eq_self, hh_i2, hh_iT, hh_i4, hmo, hst, hh_imy]) ?_ | refine HSub_keep_eq (by simp only [vsAll, binA, binLitA, intA, aggA, boolA, nilA2, isConst, unA, loadA, loadRow, partA, partOk, fieldAddrA, indexAddrA, indexA, fieldA, extractA, lenA, nilCheckA, boxA, cellA, cellsA, fillA, okParts, buildSliceA, buildMutA, makeSliceA, partIdx, elemsA, lensA, ifaceA, convA, mmA, pickA, okAll, stAll, opsA, partsA, partsOk, opA, allocA, boxMutA, newCells, okCells, storeObj, appendA, guardV, taA, nM, mapUpA, lookA, sliceA, boundsA, opO, okO, copyA, dstOk, nilA, quietOk, nilSliceOp, panA, resA, argFr, retA.eq_1, retA.eq_2, Nat.reduceAdd, Nat.reduceSub, Nat.reduceMul, Nat.reduceLT, Nat.reduceLeDiff, Nat.reduceEqDiff, Nat.reduceBEq, Int.reduceAdd, Int.reduceSub, Int.reduceMul, Int.reduceNeg, Int.reduceLE, Int.reduceLT, Int.reduceEq, Int.reduceNe, Int.reduceToNat, ↓reduceIte, reduceCtorEq, implies_true, forall_const, eq_self, ne_eq, wtAll, Try.ntmps31, Try.results31, hh_i2, hh_iT, hh_i4, how, hmo, hst, hh_imy]) ?_))
          · simp only [vsAll, binA, binLitA, intA, opA, dstOk, Nat.reduceLT, Nat.reduceEqDiff, ↓reduceIte, eq_self]
            refine condD (fun hd4 => ?_) (fun hd4 => ?_)
            · have hti := k2.own i (by ((try clear hh_i2); (try clear hh_iT); (try clear hh_i4); (try clear how); (try clear hmo); (try clear hst); (try clear hh_imy); omega))
              have etn : (((t.getD i 0).toNat : Nat) : Int) = t.getD i 0 := by ((try clear hh_i2); (try clear hh_iT); (try clear hh_i4); (try clear how); (try clear hmo); (try clear hst); (try clear hh_imy); omega)
              have hcb : cntB (t.take i) (t.getD i 0) ≤ i := by
                unfold cntB
                exact Nat.le_trans List.countP_le_length (by rw [List.length_take]; ((try clear hh_i2); (try clear hh_iT); (try clear hh_i4); (try clear how); (try clear hmo); (try clear hst); (try clear hh_imy); omega))
              simp only [vsAll, binA, binLitA, intA, loadA, loadRow, partA, partOk, indexAddrA, cellA, cellsA, opA, newCells, okCells, storeObj, dstOk, nilSliceOp, Nat.reduceLT, Nat.reduceEqDiff, Nat.reduceBEq, ↓reduceIte, eq_self, wtAll, hh_iT, hh_i4, hmo, hst, hh_imy, intF_at, cnF_at, etn]
              refine ⟨⟨by ((try clear hh_i2); (try clear hh_iT); (try clear hh_i4); (try clear how); (try clear hmo); (try clear hst); (try clear hh_imy); omega), by ((try clear hh_i2); (try clear hh_iT); (try clear hh_i4); (try clear how); (try clear hmo); (try clear hst); (try clear hh_imy); omega)⟩, by ((try clear hh_i2); (try clear hh_iT); (try clear hh_i4); (try clear how); (try clear hmo); (try clear hst); (try clear hh_imy); omega), hti, by ((try clear hh_i2); (try clear hh_iT); (try clear hh_i4); (try clear how); (try clear hmo); (try clear hst); (try clear hh_imy); omega), by simp only [InR_i64]; ((try clear hh_i2); (try clear hh_iT); (try clear hh_i4); (try clear how); (try clear hmo); (try clear hst); (try clear hh_imy); omega), hti, by ((try clear hh_i2); (try clear hh_iT); (try clear hh_i4); (try clear how); (try clear hmo); (try clear hst); (try clear hh_imy); omega), by simp only [InR_i64]; ((try clear hh_i2); (try clear hh_iT); (try clear hh_i4); (try clear how); (try clear hmo); (try clear hst); (try clear hh_imy); omega), loop_next (i + 1) (by ((try clear hh_i2); (try clear hh_iT); (try clear hh_i4); (try clear how); (try clear hmo); (try clear hst); (try clear hh_imy); omega)) (by ((try clear hh_i2); (try clear hh_iT); (try clear hh_i4); (try clear how); (try clear hmo); (try clear hst); (try clear hh_imy); omega)) ?_ ?_⟩
              · simp only [vsAll, Nat.reduceEqDiff, ↓reduceIte, eq_self, Int.natCast_add, Int.natCast_one]
              · refine HSub.set (HSub_drop2 (by simp only [vsAll, ↓reduceIte, eq_self, hh_imy]) HSub_rfl) (row_ext fun q hq => ?_)
                rw [updF_at (by ((try clear hh_i2); (try clear hh_iT); (try clear hh_i4); (try clear how); (try clear hmo); (try clear hst); (try clear hh_imy); omega)) hq]
                have ec := cntB_take t ((q : Nat) : Int) i (by ((try clear hh_i2); (try clear hh_iT); (try clear hh_i4); (try clear how); (try clear hmo); (try clear hst); (try clear hh_imy); omega))
                by_cases e : q = (t.getD i 0).toNat
                · rw [if_pos e, cnF_at, ec, if_pos (by ((try clear hh_i2); (try clear hh_iT); (try clear hh_i4); (try clear how); (try clear hmo); (try clear hst); (try clear hh_imy); omega)), e, etn, Int.natCast_add, Int.natCast_one]
                · rw [if_neg e, cnF_at, cnF_at, ec, if_neg (by ((try clear hh_i2); (try clear hh_iT); (try clear hh_i4); (try clear how); (try clear hmo); (try clear hst); (try clear hh_imy); omega)), Nat.add_zero]
            · have ei : i = st.length := by ((try clear hh_i2); (try clear hh_iT); (try clear hh_i4); (try clear how); (try clear hmo); (try clear hst); (try clear hh_imy); omega)
              subst ei
              have ecn : cnF t st.length = fun o : Nat => [i64 (cntB t (o : Int) : Nat)] := by
                funext o
                rw [cnF_at, ← kl, List.take_length]
              rw [ecn]
              simp only [vsAll, loadA, loadRow, partA, partOk, fieldAddrA, lenA, opA, dstOk, Nat.reduceLT, Nat.reduceEqDiff, ↓reduceIte, eq_self, wtAll, hh_imy]
              refine vs_loop (σ := Nat) (fun i => i ≤ ow.length) (fun i => [(2, .ref i2 0 5 0 0), (3, .sl iT 1 st.length), (5, drawAV i4 N b), (11, .sl imy 1 ow.length), (118, i64 ow.length), (119, i64 i)])
                (fun i => (((((H.set iT (.row 1 st.length (intF t))).set i4 (.box 1 1 fun _ => [i64 a2])).set ist (.row 1 st.length (stF st))).set i2 (.box 5 1 fun _ => [i64 F, llAV ow, .sl imo 1 ow.length, .sl ist 1 st.length, .lit (.slice none 0 0)])).set imy (.row 1 ow.length (fun o : Nat => [i64 (cntB t (o : Int) : Nat)]))).set imo (.row 1 ow.length (moF mo t i))) (fun i => ow.length - i) 0 (by ((try clear hh_i2); (try clear hh_iT); (try clear hh_i4); (try clear how); (try clear hmo); (try clear hst); (try clear hh_imy); omega)) ?_ ?_ fun i hi2 => ?_
              · simp only [vsAll, Nat.reduceEqDiff, ↓reduceIte, eq_self, Int.natCast_zero]
              · refine HSub_put (o' := .row 1 ow.length (intF mo)) (by simp only [vsAll, ↓reduceIte, eq_self, hmo, hst, hh_imy]; try rfl) (row_ext fun q hq => ?_) ?_
                · rw [moF_at, if_neg (by ((try clear hh_i2); (try clear hh_iT); (try clear hh_i4); (try clear how); (try clear hmo); (try clear hst); (try clear hh_imy); omega))]; rfl
                · (repeat (first | exact HSub_rfl | refine HSub_put_eq (by simp only [vsAll, ↓reduceIte, eq_self, hh_iT, hh_i4, hmo, hst, hh_imy]) ?_ | refine HSub_drop2 (by simp only [eq_self, hh_i2, hh_iT, hh_i4, hmo, hst, hh_imy]) ?_ | refine HSub_keep_eq (by simp only [vsAll, binA, binLitA, intA, aggA, boolA, nilA2, isConst, unA, loadA, loadRow, partA, partOk, fieldAddrA, indexAddrA, indexA, fieldA, extractA, lenA, nilCheckA, boxA, cellA, cellsA, fillA, okParts, buildSliceA, buildMutA, makeSliceA, partIdx, elemsA, lensA, ifaceA, convA, mmA, pickA, okAll, stAll, opsA, partsA, partsOk, opA, allocA, boxMutA, newCells, okCells, storeObj, appendA, guardV, taA, nM, mapUpA, lookA, sliceA, boundsA, opO, okO, copyA, dstOk, nilA, quietOk, nilSliceOp, panA, resA, argFr, retA.eq_1, retA.eq_2, Nat.reduceAdd, Nat.reduceSub, Nat.reduceMul, Nat.reduceLT, Nat.reduceLeDiff, Nat.reduceEqDiff, Nat.reduceBEq, Int.reduceAdd, Int.reduceSub, Int.reduceMul, Int.reduceNeg, Int.reduceLE, Int.reduceLT, Int.reduceEq, Int.reduceNe, Int.reduceToNat, ↓reduceIte, reduceCtorEq, implies_true, forall_const, eq_self, ne_eq, wtAll, Try.ntmps31, Try.results31, hh_i2, hh_iT, hh_i4, how, hmo, hst, hh_imy]) ?_))
              · simp only [vsAll, binA, binLitA, intA, opA, dstOk, Nat.reduceLT, Nat.reduceEqDiff, ↓reduceIte, eq_self]
                refine condD (fun hd5 => ?_) (fun hd5 => ?_)
                · have hmi := h2.mo (mo.getD i 0) (mem_getD _ _ _ (by ((try clear hh_i2); (try clear hh_iT); (try clear hh_i4); (try clear how); (try clear hmo); (try clear hst); (try clear hh_imy); omega)))
                  have hci : cntB t (i : Int) ≤ t.length := by unfold cntB; exact List.countP_le_length
                  simp only [vsAll, opA, dstOk, nilSliceOp, Nat.reduceLT, Nat.reduceEqDiff, Nat.reduceBEq, ↓reduceIte, eq_self]
                  refine vs_draw2 [0, 0, 0, 0, 0, 0, 0, 0, 0, 0, 0, 0, 0, 0, 0, 1] [([0, 1, 2, 3, 4, 5, 6, 7, 8, 9, 10, 11, 12, 13, 14], [], 15)] [] (by decide +kernel) ?_
                  simp only [vsAll, binA, binLitA, intA, loadA, loadRow, partA, partOk, fieldAddrA, indexAddrA, cellA, cellsA, mmA, okAll, stAll, opsA, opA, newCells, okCells, storeObj, dstOk, Nat.reduceLT, Nat.reduceEqDiff, ↓reduceIte, eq_self, wtAll, hmo, hh_imy, moF_at, Nat.lt_irrefl]
                  refine ⟨⟨by ((try clear hh_i2); (try clear hh_iT); (try clear hh_i4); (try clear how); (try clear hmo); (try clear hst); (try clear hh_imy); omega), by ((try clear hh_i2); (try clear hh_iT); (try clear hh_i4); (try clear how); (try clear hmo); (try clear hst); (try clear hh_imy); omega)⟩, by ((try clear hh_i2); (try clear hh_iT); (try clear hh_i4); (try clear how); (try clear hmo); (try clear hst); (try clear hh_imy); omega), ⟨by ((try clear hh_i2); (try clear hh_iT); (try clear hh_i4); (try clear how); (try clear hmo); (try clear hst); (try clear hh_imy); omega), by ((try clear hh_i2); (try clear hh_iT); (try clear hh_i4); (try clear how); (try clear hmo); (try clear hst); (try clear hh_imy); omega)⟩, by ((try clear hh_i2); (try clear hh_iT); (try clear hh_i4); (try clear how); (try clear hmo); (try clear hst); (try clear hh_imy); omega), by simp only [InR_i64]; ((try clear hh_i2); (try clear hh_iT); (try clear hh_i4); (try clear how); (try clear hmo); (try clear hst); (try clear hh_imy); omega), ⟨by ((try clear hh_i2); (try clear hh_iT); (try clear hh_i4); (try clear how); (try clear hmo); (try clear hst); (try clear hh_imy); omega), by ((try clear hh_i2); (try clear hh_iT); (try clear hh_i4); (try clear how); (try clear hmo); (try clear hst); (try clear hh_imy); omega)⟩, by ((try clear hh_i2); (try clear hh_iT); (try clear hh_i4); (try clear how); (try clear hmo); (try clear hst); (try clear hh_imy); omega), by simp only [InR_i64]; ((try clear hh_i2); (try clear hh_iT); (try clear hh_i4); (try clear how); (try clear hmo); (try clear hst); (try clear hh_imy); omega), loop_next (i + 1) (by ((try clear hh_i2); (try clear hh_iT); (try clear hh_i4); (try clear how); (try clear hmo); (try clear hst); (try clear hh_imy); omega)) (by ((try clear hh_i2); (try clear hh_iT); (try clear hh_i4); (try clear how); (try clear hmo); (try clear hst); (try clear hh_imy); omega)) ?_ ?_⟩
                  · simp only [vsAll, Nat.reduceEqDiff, ↓reduceIte, eq_self, Int.natCast_add, Int.natCast_one]
                  · refine HSub.set (HSub_drop2 (by simp only [vsAll, ↓reduceIte, eq_self, hmo, hst, hh_imy]) HSub_rfl) (row_ext fun q hq => ?_)
                    rw [updF_at (by ((try clear hh_i2); (try clear hh_iT); (try clear hh_i4); (try clear how); (try clear hmo); (try clear hst); (try clear hh_imy); omega)) hq, moF_at, moF_at]
                    by_cases e : q = i
                    · rw [if_pos e, e, if_pos (by ((try clear hh_i2); (try clear hh_iT); (try clear hh_i4); (try clear how); (try clear hmo); (try clear hst); (try clear hh_imy); omega))]
                      rfl
                    · rw [if_neg e]
                      by_cases e2 : q < i
                      · rw [if_pos e2, if_pos (by ((try clear hh_i2); (try clear hh_iT); (try clear hh_i4); (try clear how); (try clear hmo); (try clear hst); (try clear hh_imy); omega))]
                      · rw [if_neg e2, if_neg (by ((try clear hh_i2); (try clear hh_iT); (try clear hh_i4); (try clear how); (try clear hmo); (try clear hst); (try clear hh_imy); omega))]
                · have ei : i = ow.length := by ((try clear hh_i2); (try clear hh_iT); (try clear hh_i4); (try clear how); (try clear hmo); (try clear hst); (try clear hh_imy); omega)
                  subst ei
                  simp only [vsAll, okAll, stAll, opsA, opA, dstOk, Nat.reduceLT, Nat.reduceEqDiff, ↓reduceIte, eq_self]
                  refine callK (dr 9 a2 _ (by ((try clear hh_i2); (try clear hh_iT); (try clear hh_i4); (try clear how); (try clear hmo); (try clear hst); (try clear hh_imy); omega)) (by ((try clear hh_i2); (try clear hh_iT); (try clear hh_i4); (try clear how); (try clear hmo); (try clear hst); (try clear hh_imy); omega)) (by simp only [vsAll, ↓reduceIte, eq_self, hh_i4, hmo, hst, hh_imy]; try rfl)) ?_
                  rintro r H' ⟨C, hC, rfl, rfl⟩
                  simp only [vsAll, opA, dstOk, Nat.reduceLT, eq_self]
                  have hLl := moL_len mo t ow.length
                  refine vs_entL (Ent.weak (H' := ((((H.set iT (.row 1 st.length (intF t))).set i4 (.box 1 1 fun _ => [i64 ((a2 + 1 : Nat) : Int)])).set ist (.row 1 st.length (stF st))).set imo (.row 1 ow.length (intF (moL mo t ow.length)))).set i2 (.box 5 1 fun _ => [i64 F, llAV ow, .sl imo 1 ow.length, .sl ist 1 st.length, .lit (.slice none 0 0)])) (fun _ => AV.Le.of_eq rfl) ?_ ?_)
                  · refine HSub_put_eq (by simp only [vsAll, ↓reduceIte, eq_self, hh_i4, hmo, hh_imy]; try rfl) (HSub_put (o' := .row 1 ow.length (moF mo t ow.length)) (by simp only [vsAll, ↓reduceIte, eq_self, hmo]; try rfl) (row_ext fun q hq => ?_) ?_)
                    · rw [moF_at, if_pos hq]
                      simp only [intF, moL_at mo t hq]
                    · (repeat (first | exact HSub_rfl | refine HSub_put_eq (by simp only [vsAll, ↓reduceIte, eq_self, hh_iT, hh_i4, hmo, hst, hh_imy]) ?_ | refine HSub_drop2 (by simp only [eq_self, hh_i2, hh_iT, hh_i4, hmo, hst, hh_imy]) ?_ | refine HSub_keep_eq (by simp only [vsAll, binA, binLitA, intA, aggA, boolA, nilA2, isConst, unA, loadA, loadRow, partA, partOk, fieldAddrA, indexAddrA, indexA, fieldA, extractA, lenA, nilCheckA, boxA, cellA, cellsA, fillA, okParts, buildSliceA, buildMutA, makeSliceA, partIdx, elemsA, lensA, ifaceA, convA, mmA, pickA, okAll, stAll, opsA, partsA, partsOk, opA, allocA, boxMutA, newCells, okCells, storeObj, appendA, guardV, taA, nM, mapUpA, lookA, sliceA, boundsA, opO, okO, copyA, dstOk, nilA, quietOk, nilSliceOp, panA, resA, argFr, retA.eq_1, retA.eq_2, Nat.reduceAdd, Nat.reduceSub, Nat.reduceMul, Nat.reduceLT, Nat.reduceLeDiff, Nat.reduceEqDiff, Nat.reduceBEq, Int.reduceAdd, Int.reduceSub, Int.reduceMul, Int.reduceNeg, Int.reduceLE, Int.reduceLT, Int.reduceEq, Int.reduceNe, Int.reduceToNat, ↓reduceIte, reduceCtorEq, implies_true, forall_const, eq_self, ne_eq, wtAll, Try.ntmps31, Try.results31, hh_i2, hh_iT, hh_i4, how, hmo, hst, hh_imy]) ?_))
                  refine vs_entL (Ent.freezeBox (id := imo) (st := 1) (n := ow.length) (f := intF (moL mo t ow.length)) (j := i2) (st' := 5) (n' := 1) (g := fun _ => [i64 F, llAV ow, .sl imo 1 ow.length, .sl ist 1 st.length, .lit (.slice none 0 0)]) (g' := fun _ => [i64 F, llAV ow, .rsl ow.length 1 (intF (moL mo t ow.length)), .sl ist 1 st.length, .lit (.slice none 0 0)]) (by simp only [vsAll, ↓reduceIte, eq_self, hmo]; try rfl) (by simp only [vsAll, ↓reduceIte, eq_self]; try rfl) (fun t => .rfl) (fun _ _ => rfl) (fun q d hq hd => ?_) ?_)
                  · match d, hd with
                    | 0, _ => exact .rfl
                    | 1, _ => exact .rfl
                    | 2, _ => exact .hit
                    | 3, _ => exact .rfl
                    | 4, _ => exact .rfl
                  refine vs_entL (Ent.freezeBox (id := ist) (st := 1) (n := st.length) (f := stF st) (j := i2) (st' := 5) (n' := 1) (g := fun _ => [i64 F, llAV ow, .rsl ow.length 1 (intF (moL mo t ow.length)), .sl ist 1 st.length, .lit (.slice none 0 0)]) (g' := fun _ => [i64 F, llAV ow, .rsl ow.length 1 (intF (moL mo t ow.length)), stAV st, .lit (.slice none 0 0)]) (by simp only [vsAll, ↓reduceIte, eq_self, hst, Hp.del_get]; try rfl) (by simp only [vsAll, ↓reduceIte, eq_self]; try rfl) (fun t => .rfl) (fun _ _ => rfl) (fun q d hq hd => ?_) ?_)
                  · match d, hd with
                    | 0, _ => exact .rfl
                    | 1, _ => exact .rfl
                    | 2, _ => exact .rfl
                    | 3, _ => exact .hit
                    | 4, _ => exact .rfl
                  refine vs_entL (Ent.weak (H' := (((H.set iT (.row 1 st.length (intF t))).set i4 (.box 1 1 fun _ => [i64 ((a2 + 1 : Nat) : Int)]))).set i2 (.box 5 1 fun _ => [i64 F, llAV ow, intsAV (moL mo t ow.length), stAV st, .lit (.slice none 0 0)])) (fun _ => AV.Le.of_eq rfl) ?_ ?_)
                  · rw [show intsAV (moL mo t ow.length) = .rsl ow.length 1 (intF (moL mo t ow.length)) by rw [intsAV, hLl]]
                    refine HSub_put_eq (by simp only [vsAll, ↓reduceIte, eq_self]; try rfl) (HSub_put_eq (by simp only [vsAll, ↓reduceIte, eq_self, hh_i4, hmo, hst, Hp.del_get]; try rfl) (HSub_put_eq (by simp only [vsAll, ↓reduceIte, eq_self, hh_iT, hh_i4, hmo, hst, Hp.del_get]; try rfl) (HSub_drop2 (by simp only [eq_self, hh_i2]) (HSub_del (by simp only [eq_self, hst]) (HSub_drop2 (by simp only [eq_self, hh_i2]) (HSub_del (by simp only [eq_self, hmo]) ?_))))))
                    (repeat (first | exact HSub_rfl | refine HSub_put_eq (by simp only [vsAll, binA, binLitA, intA, aggA, boolA, nilA2, isConst, unA, loadA, loadRow, partA, partOk, fieldAddrA, indexAddrA, indexA, fieldA, extractA, lenA, nilCheckA, boxA, cellA, cellsA, fillA, okParts, buildSliceA, buildMutA, makeSliceA, partIdx, elemsA, lensA, ifaceA, convA, mmA, pickA, okAll, stAll, opsA, partsA, partsOk, opA, allocA, boxMutA, newCells, okCells, storeObj, appendA, guardV, taA, nM, mapUpA, lookA, sliceA, boundsA, opO, okO, copyA, dstOk, nilA, quietOk, nilSliceOp, panA, resA, argFr, retA.eq_1, retA.eq_2, Nat.reduceAdd, Nat.reduceSub, Nat.reduceMul, Nat.reduceLT, Nat.reduceLeDiff, Nat.reduceEqDiff, Nat.reduceBEq, Int.reduceAdd, Int.reduceSub, Int.reduceMul, Int.reduceNeg, Int.reduceLE, Int.reduceLT, Int.reduceEq, Int.reduceNe, Int.reduceToNat, ↓reduceIte, reduceCtorEq, implies_true, forall_const, eq_self, ne_eq, wtAll, Try.ntmps31, Try.results31, hh_i2, hh_iT, hh_i4, how, hmo, hst, hh_imy]) ?_ | refine HSub_drop2 (by simp only [eq_self, hh_i2, hh_iT, hh_i4, hmo, hst]) ?_ | refine HSub_keep_eq (by simp only [vsAll, binA, binLitA, intA, aggA, boolA, nilA2, isConst, unA, loadA, loadRow, partA, partOk, fieldAddrA, indexAddrA, indexA, fieldA, extractA, lenA, nilCheckA, boxA, cellA, cellsA, fillA, okParts, buildSliceA, buildMutA, makeSliceA, partIdx, elemsA, lensA, ifaceA, convA, mmA, pickA, okAll, stAll, opsA, partsA, partsOk, opA, allocA, boxMutA, newCells, okCells, storeObj, appendA, guardV, taA, nM, mapUpA, lookA, sliceA, boundsA, opO, okO, copyA, dstOk, nilA, quietOk, nilSliceOp, panA, resA, argFr, retA.eq_1, retA.eq_2, Nat.reduceAdd, Nat.reduceSub, Nat.reduceMul, Nat.reduceLT, Nat.reduceLeDiff, Nat.reduceEqDiff, Nat.reduceBEq, Int.reduceAdd, Int.reduceSub, Int.reduceMul, Int.reduceNeg, Int.reduceLE, Int.reduceLT, Int.reduceEq, Int.reduceNe, Int.reduceToNat, ↓reduceIte, reduceCtorEq, implies_true, forall_const, eq_self, ne_eq, wtAll, Try.ntmps31, Try.results31, hh_i2, hh_iT, hh_i4, how, hmo, hst, hh_imy]) ?_))
                  refine vs_entL (Ent.nilBox 3 (clF []) (fun id _ => [i64 F, llAV ow, intsAV (moL mo t ow.length), stAV st, .sl id 3 0]) (j := i2) (st' := 5) (n' := 1) (g := fun _ => [i64 F, llAV ow, intsAV (moL mo t ow.length), stAV st, .lit (.slice none 0 0)]) (Hp.set_same _ _ _) (fun _ _ _ => rfl) (fun id q d hq hd => ?_) fun icl hcl => ?_)
                  · match d, hd with
                    | 0, _ => exact .rfl
                    | 1, _ => exact .rfl
                    | 2, _ => exact .rfl
                    | 3, _ => exact .rfl
                    | 4, _ => exact .hit
                  simp only [Hp.set_none] at hcl
                  skip
                  refine vs_loop (σ := List Cl × Nat) (fun x => (x.1.length : Int) ≤ C ∧ ClA ow st x.1 ∧ x.2 ≤ 200 + 3 * x.1.length)
                    (fun x => [(2, .ref i2 0 5 0 0), (3, .sl iT 1 st.length), (5, drawAV i4 N b), (139, i64 C), (140, i64 x.1.length)])
                    (fun x => (((H.set iT (.row 1 st.length (intF t))).set i4 (.box 1 1 fun _ => [i64 x.2])).set icl (.row 3 x.1.length (clF x.1))).set i2 (.box 5 1 fun _ => [i64 F, llAV ow, intsAV (moL mo t ow.length), stAV st, .sl icl 3 x.1.length])) (fun x => 20 - x.1.length) ([], a2 + 1) ⟨by simp; ((try clear hh_i2); (try clear hh_iT); (try clear hh_i4); (try clear how); (try clear hmo); (try clear hst); (try clear hh_imy); (try clear hcl); omega), ⟨by simp, by simp⟩, by simp only [List.length_nil]; ((try clear hh_i2); (try clear hh_iT); (try clear hh_i4); (try clear how); (try clear hmo); (try clear hst); (try clear hh_imy); (try clear hcl); omega)⟩ ?_ ?_ fun ⟨cl, a3⟩ hi3 => ?_
                  · simp only [vsAll, Nat.reduceEqDiff, ↓reduceIte, eq_self, Int.natCast_zero]
                  · dsimp only [List.length_nil]
                    (repeat (first | exact HSub_rfl | refine HSub_put_eq (by simp only [vsAll, ↓reduceIte, eq_self, hh_iT, hh_i4, hcl]) ?_ | refine HSub_drop2 (by simp only [eq_self, hh_i2, hh_iT, hh_i4, hcl]) ?_ | refine HSub_keep_eq (by simp only [vsAll, binA, binLitA, intA, aggA, boolA, nilA2, isConst, unA, loadA, loadRow, partA, partOk, fieldAddrA, indexAddrA, indexA, fieldA, extractA, lenA, nilCheckA, boxA, cellA, cellsA, fillA, okParts, buildSliceA, buildMutA, makeSliceA, partIdx, elemsA, lensA, ifaceA, convA, mmA, pickA, okAll, stAll, opsA, partsA, partsOk, opA, allocA, boxMutA, newCells, okCells, storeObj, appendA, guardV, taA, nM, mapUpA, lookA, sliceA, boundsA, opO, okO, copyA, dstOk, nilA, quietOk, nilSliceOp, panA, resA, argFr, retA.eq_1, retA.eq_2, Nat.reduceAdd, Nat.reduceSub, Nat.reduceMul, Nat.reduceLT, Nat.reduceLeDiff, Nat.reduceEqDiff, Nat.reduceBEq, Int.reduceAdd, Int.reduceSub, Int.reduceMul, Int.reduceNeg, Int.reduceLE, Int.reduceLT, Int.reduceEq, Int.reduceNe, Int.reduceToNat, ↓reduceIte, reduceCtorEq, implies_true, forall_const, eq_self, ne_eq, wtAll, Try.ntmps31, Try.results31, hh_i2, hh_iT, hh_i4, how, hmo, hst, hh_imy, hcl]) ?_))
                  · obtain ⟨c1, c2, c3⟩ := hi3
                    simp only [] at c1 c2 c3
                    have c8 := c2.n
                    simp only [vsAll, binA, binLitA, intA, opA, dstOk, Nat.reduceLT, Nat.reduceEqDiff, ↓reduceIte, eq_self]
                    refine condD (fun hd6 => ?_) (fun hd6 => ?_)
                    · simp only [vsAll, binA, binLitA, intA, loadA, loadRow, partA, partOk, fieldAddrA, lenA, opA, dstOk, Nat.reduceLT, Nat.reduceEqDiff, ↓reduceIte, eq_self, wtAll]
                      refine condV (fun hc => ?_) (fun hc => ?_)
                      · simp only [vsAll, loadA, loadRow, partA, partOk, cellA, cellsA, opA, newCells, okCells, storeObj, dstOk, nilSliceOp, resA, retA.eq_2, Nat.reduceAdd, Nat.reduceLT, Nat.reduceEqDiff, Nat.reduceBEq, ↓reduceIte, eq_self, wtAll, Try.results31]
                        refine ⟨_, ?_, ⟨F, ow, moL mo t ow.length, st, cl⟩, t, icl, iT, made_of h2 k2 c2, ⟨by simp only [vsAll, hcl], by simp only [eq_self, hcl], by simp only [eq_self, hh_iT]⟩, rfl, rfl⟩
                        (repeat (first | exact HSub_rfl | refine HSub_put_eq (by simp only [vsAll, ↓reduceIte, eq_self, hh_iT, hh_i4, hcl]) ?_ | refine HSub_drop2 (by simp only [eq_self, hh_i2, hh_iT, hh_i4, hcl]) ?_ | refine HSub_keep_eq (by simp only [vsAll, binA, binLitA, intA, aggA, boolA, nilA2, isConst, unA, loadA, loadRow, partA, partOk, fieldAddrA, indexAddrA, indexA, fieldA, extractA, lenA, nilCheckA, boxA, cellA, cellsA, fillA, okParts, buildSliceA, buildMutA, makeSliceA, partIdx, elemsA, lensA, ifaceA, convA, mmA, pickA, okAll, stAll, opsA, partsA, partsOk, opA, allocA, boxMutA, newCells, okCells, storeObj, appendA, guardV, taA, nM, mapUpA, lookA, sliceA, boundsA, opO, okO, copyA, dstOk, nilA, quietOk, nilSliceOp, panA, resA, argFr, retA.eq_1, retA.eq_2, Nat.reduceAdd, Nat.reduceSub, Nat.reduceMul, Nat.reduceLT, Nat.reduceLeDiff, Nat.reduceEqDiff, Nat.reduceBEq, Int.reduceAdd, Int.reduceSub, Int.reduceMul, Int.reduceNeg, Int.reduceLE, Int.reduceLT, Int.reduceEq, Int.reduceNe, Int.reduceToNat, ↓reduceIte, reduceCtorEq, implies_true, forall_const, eq_self, ne_eq, wtAll, Try.ntmps31, Try.results31, hh_i2, hh_iT, hh_i4, how, hmo, hst, hh_imy, hcl]) ?_))
                      · have hs1 : 1 ≤ st.length := by have := of_decide_eq_false hc; ((try clear hh_i2); (try clear hh_iT); (try clear hh_i4); (try clear how); (try clear hmo); (try clear hst); (try clear hh_imy); (try clear hcl); omega)
                        simp only [vsAll, loadA, loadRow, partA, partOk, fieldAddrA, lenA, okAll, stAll, opsA, opA, dstOk, Nat.reduceLT, Nat.reduceEqDiff, ↓reduceIte, eq_self, wtAll]
                        refine callK (dr st.length a3 _ (by ((try clear hh_i2); (try clear hh_iT); (try clear hh_i4); (try clear how); (try clear hmo); (try clear hst); (try clear hh_imy); (try clear hcl); omega)) (by ((try clear hh_i2); (try clear hh_iT); (try clear hh_i4); (try clear how); (try clear hmo); (try clear hst); (try clear hh_imy); (try clear hcl); omega)) (by simp only [vsAll, ↓reduceIte, eq_self, hh_i4, hcl]; try rfl)) ?_
                        rintro r H' ⟨q', hq', rfl, rfl⟩
                        obtain ⟨q, rfl⟩ : ∃ q : Nat, q' = (q : Int) := ⟨q'.toNat, by ((try clear hh_i2); (try clear hh_iT); (try clear hh_i4); (try clear how); (try clear hmo); (try clear hst); (try clear hh_imy); (try clear hcl); omega)⟩
                        have hq : q < st.length := by ((try clear hh_i2); (try clear hh_iT); (try clear hh_i4); (try clear how); (try clear hmo); (try clear hst); (try clear hh_imy); (try clear hcl); omega)
                        simp only [vsAll, okAll, stAll, opsA, opA, dstOk, nilSliceOp, Nat.reduceLT, Nat.reduceEqDiff, Nat.reduceBEq, ↓reduceIte, eq_self]
                        refine callK (dr 4 (a3 + 1) _ (by ((try clear hh_i2); (try clear hh_iT); (try clear hh_i4); (try clear how); (try clear hmo); (try clear hst); (try clear hh_imy); (try clear hcl); omega)) (by ((try clear hh_i2); (try clear hh_iT); (try clear hh_i4); (try clear how); (try clear hmo); (try clear hst); (try clear hh_imy); (try clear hcl); omega)) (by simp only [vsAll, ↓reduceIte, eq_self]; try rfl)) ?_
                        rintro r H' ⟨z, hz, rfl, rfl⟩
                        simp only [vsAll, binA, binLitA, intA, opA, dstOk, nilSliceOp, Nat.reduceLT, Nat.reduceBEq, ↓reduceIte, eq_self]
                        refine condV (fun hc2 => ?_) (fun hc2 => ?_)
                        · skip
                          refine vs_draw2 [0, 0, 0, 0, 0, 0, 0, 1, 2, 2, 3, 4, 5] [([0, 1, 2, 3, 4, 5, 6], [1], 7), ([8, 9], [], 10), ([11], [], 12)] [] (by decide +kernel) ?_
                          simp only [vsAll, loadA, loadRow, partA, partOk, fieldAddrA, lenA, okAll, stAll, opsA, opA, dstOk, Nat.reduceLT, Nat.reduceEqDiff, ↓reduceIte, eq_self, wtAll, hh_i4]
                          refine callK (dr ow.length (a3 + 1 + 1) _ (by ((try clear hh_i2); (try clear hh_iT); (try clear hh_i4); (try clear how); (try clear hmo); (try clear hst); (try clear hh_imy); (try clear hcl); omega)) (by ((try clear hh_i2); (try clear hh_iT); (try clear hh_i4); (try clear how); (try clear hmo); (try clear hst); (try clear hh_imy); (try clear hcl); omega)) (by simp only [vsAll, ↓reduceIte, eq_self]; try rfl)) ?_
                          rintro r H' ⟨o', ho', rfl, rfl⟩
                          simp only [vsAll, loadA, loadRow, partA, partOk, opA, dstOk, Nat.reduceLT, Nat.reduceEqDiff, ↓reduceIte, eq_self, wtAll, hh_i4]
                          refine qcall _ ⟨trivial, by simp only [vsAll, okAll, opsA, opA, Nat.reduceEqDiff, ↓reduceIte, eq_self], lhis_tri q o' _⟩ ?_
                          simp only [vsAll, binA, binLitA, intA, fieldAddrA, cellA, cellsA, okParts, buildSliceA, partIdx, elemsA, lensA, partsA, partsOk, opA, newCells, okCells, storeObj, appendA, dstOk, Nat.reduceAdd, Nat.reduceMul, Nat.reduceLT, Nat.reduceLeDiff, Nat.reduceEqDiff, ↓reduceIte, eq_self, wtAll, hh_i4, hcl]
                          refine ⟨fun j hj => by (have : j = 0 := by ((try clear hh_i2); (try clear hh_iT); (try clear hh_i4); (try clear how); (try clear hmo); (try clear hst); (try clear hh_imy); (try clear hcl); omega)); subst this; simp only [vsAll, cellA, okCells, eq_self], by ((try clear hh_i2); (try clear hh_iT); (try clear hh_i4); (try clear how); (try clear hmo); (try clear hst); (try clear hh_imy); (try clear hcl); omega), by ((try clear hh_i2); (try clear hh_iT); (try clear hh_i4); (try clear how); (try clear hmo); (try clear hst); (try clear hh_imy); (try clear hcl); omega), by simp only [InR_i64]; ((try clear hh_i2); (try clear hh_iT); (try clear hh_i4); (try clear how); (try clear hmo); (try clear hst); (try clear hh_imy); (try clear hcl); omega), loop_next (cl ++ [⟨q, o', false⟩], a3 + 1 + 1 + 1) ⟨by simp only [List.length_append, List.length_cons, List.length_nil]; ((try clear hh_i2); (try clear hh_iT); (try clear hh_i4); (try clear how); (try clear hmo); (try clear hst); (try clear hh_imy); (try clear hcl); omega), ⟨by simp only [List.length_append, List.length_cons, List.length_nil]; ((try clear hh_i2); (try clear hh_iT); (try clear hh_i4); (try clear how); (try clear hmo); (try clear hst); (try clear hh_imy); (try clear hcl); omega), fun d hd => ?_⟩, by simp only [List.length_append, List.length_cons, List.length_nil]; ((try clear hh_i2); (try clear hh_iT); (try clear hh_i4); (try clear how); (try clear hmo); (try clear hst); (try clear hh_imy); (try clear hcl); omega)⟩ (by simp only [List.length_append, List.length_cons, List.length_nil]; ((try clear hh_i2); (try clear hh_iT); (try clear hh_i4); (try clear how); (try clear hmo); (try clear hst); (try clear hh_imy); (try clear hcl); omega)) ?_ ?_⟩
                          · simp only [List.mem_append, List.mem_singleton] at hd
                            rcases hd with hd | rfl
                            · exact c2.cl d hd
                            · dsimp only; ((try clear hh_i2); (try clear hh_iT); (try clear hh_i4); (try clear how); (try clear hmo); (try clear hst); (try clear hh_imy); (try clear hcl); omega)
                          · simp only [vsAll, Nat.reduceEqDiff, ↓reduceIte, eq_self, List.length_append, Int.natCast_add, Int.natCast_one]
                          · simp only [List.length_append, List.length_cons, List.length_nil, Nat.zero_add]
                            rw [app_cl cl ⟨q, o', false⟩ _ rfl]
                            (repeat (first | exact HSub_rfl | refine HSub_put_eq (by simp only [vsAll, ↓reduceIte, eq_self, hh_iT, hh_i4, hcl]) ?_ | refine HSub_drop2 (by simp only [eq_self, hh_i2, hh_iT, hh_i4, hcl]) ?_ | refine HSub_keep_eq (by simp only [vsAll, binA, binLitA, intA, aggA, boolA, nilA2, isConst, unA, loadA, loadRow, partA, partOk, fieldAddrA, indexAddrA, indexA, fieldA, extractA, lenA, nilCheckA, boxA, cellA, cellsA, fillA, okParts, buildSliceA, buildMutA, makeSliceA, partIdx, elemsA, lensA, ifaceA, convA, mmA, pickA, okAll, stAll, opsA, partsA, partsOk, opA, allocA, boxMutA, newCells, okCells, storeObj, appendA, guardV, taA, nM, mapUpA, lookA, sliceA, boundsA, opO, okO, copyA, dstOk, nilA, quietOk, nilSliceOp, panA, resA, argFr, retA.eq_1, retA.eq_2, Nat.reduceAdd, Nat.reduceSub, Nat.reduceMul, Nat.reduceLT, Nat.reduceLeDiff, Nat.reduceEqDiff, Nat.reduceBEq, Int.reduceAdd, Int.reduceSub, Int.reduceMul, Int.reduceNeg, Int.reduceLE, Int.reduceLT, Int.reduceEq, Int.reduceNe, Int.reduceToNat, ↓reduceIte, reduceCtorEq, implies_true, forall_const, eq_self, ne_eq, wtAll, Try.ntmps31, Try.results31, hh_i2, hh_iT, hh_i4, how, hmo, hst, hh_imy, hcl]) ?_))

                        · simp only [vsAll, binA, binLitA, intA, opA, dstOk, nilSliceOp, Nat.reduceLT, Nat.reduceEqDiff, Nat.reduceBEq, ↓reduceIte, eq_self]
                          refine condV (fun hc3 => ?_) (fun hc3 => ?_)
                          · skip
                            refine vs_draw2 [0, 0, 0, 0, 0, 0, 0, 1, 2, 2, 3, 4, 5] [([0, 1, 2, 3, 4, 5, 6], [1], 7), ([8, 9], [], 10), ([11], [], 12)] [] (by decide +kernel) ?_
                            simp only [vsAll, loadA, loadRow, partA, partOk, fieldAddrA, lenA, okAll, stAll, opsA, opA, dstOk, Nat.reduceLT, Nat.reduceEqDiff, ↓reduceIte, eq_self, wtAll, hh_i4]
                            refine callK (dr ow.length (a3 + 1 + 1) _ (by ((try clear hh_i2); (try clear hh_iT); (try clear hh_i4); (try clear how); (try clear hmo); (try clear hst); (try clear hh_imy); (try clear hcl); omega)) (by ((try clear hh_i2); (try clear hh_iT); (try clear hh_i4); (try clear how); (try clear hmo); (try clear hst); (try clear hh_imy); (try clear hcl); omega)) (by simp only [vsAll, ↓reduceIte, eq_self]; try rfl)) ?_
                            rintro r H' ⟨o', ho', rfl, rfl⟩
                            simp only [vsAll, loadA, loadRow, partA, partOk, opA, dstOk, Nat.reduceLT, Nat.reduceEqDiff, ↓reduceIte, eq_self, wtAll, hh_i4]
                            refine qcall _ ⟨trivial, by simp only [vsAll, okAll, opsA, opA, Nat.reduceEqDiff, ↓reduceIte, eq_self], lother_tri q o' _⟩ ?_
                            simp only [vsAll, binA, binLitA, intA, fieldAddrA, cellA, cellsA, okParts, buildSliceA, partIdx, elemsA, lensA, partsA, partsOk, opA, newCells, okCells, storeObj, appendA, dstOk, Nat.reduceAdd, Nat.reduceMul, Nat.reduceLT, Nat.reduceLeDiff, Nat.reduceEqDiff, ↓reduceIte, eq_self, wtAll, hh_i4, hcl]
                            refine ⟨fun j hj => by (have : j = 0 := by ((try clear hh_i2); (try clear hh_iT); (try clear hh_i4); (try clear how); (try clear hmo); (try clear hst); (try clear hh_imy); (try clear hcl); omega)); subst this; simp only [vsAll, cellA, okCells, eq_self], by ((try clear hh_i2); (try clear hh_iT); (try clear hh_i4); (try clear how); (try clear hmo); (try clear hst); (try clear hh_imy); (try clear hcl); omega), by ((try clear hh_i2); (try clear hh_iT); (try clear hh_i4); (try clear how); (try clear hmo); (try clear hst); (try clear hh_imy); (try clear hcl); omega), by simp only [InR_i64]; ((try clear hh_i2); (try clear hh_iT); (try clear hh_i4); (try clear how); (try clear hmo); (try clear hst); (try clear hh_imy); (try clear hcl); omega), loop_next (cl ++ [⟨q, o', true⟩], a3 + 1 + 1 + 1) ⟨by simp only [List.length_append, List.length_cons, List.length_nil]; ((try clear hh_i2); (try clear hh_iT); (try clear hh_i4); (try clear how); (try clear hmo); (try clear hst); (try clear hh_imy); (try clear hcl); omega), ⟨by simp only [List.length_append, List.length_cons, List.length_nil]; ((try clear hh_i2); (try clear hh_iT); (try clear hh_i4); (try clear how); (try clear hmo); (try clear hst); (try clear hh_imy); (try clear hcl); omega), fun d hd => ?_⟩, by simp only [List.length_append, List.length_cons, List.length_nil]; ((try clear hh_i2); (try clear hh_iT); (try clear hh_i4); (try clear how); (try clear hmo); (try clear hst); (try clear hh_imy); (try clear hcl); omega)⟩ (by simp only [List.length_append, List.length_cons, List.length_nil]; ((try clear hh_i2); (try clear hh_iT); (try clear hh_i4); (try clear how); (try clear hmo); (try clear hst); (try clear hh_imy); (try clear hcl); omega)) ?_ ?_⟩
                            · simp only [List.mem_append, List.mem_singleton] at hd
                              rcases hd with hd | rfl
                              · exact c2.cl d hd
                              · dsimp only; ((try clear hh_i2); (try clear hh_iT); (try clear hh_i4); (try clear how); (try clear hmo); (try clear hst); (try clear hh_imy); (try clear hcl); omega)
                            · simp only [vsAll, Nat.reduceEqDiff, ↓reduceIte, eq_self, List.length_append, Int.natCast_add, Int.natCast_one]
                            · simp only [List.length_append, List.length_cons, List.length_nil, Nat.zero_add]
                              rw [app_cl cl ⟨q, o', true⟩ _ rfl]
                              (repeat (first | exact HSub_rfl | refine HSub_put_eq (by simp only [vsAll, ↓reduceIte, eq_self, hh_iT, hh_i4, hcl]) ?_ | refine HSub_drop2 (by simp only [eq_self, hh_i2, hh_iT, hh_i4, hcl]) ?_ | refine HSub_keep_eq (by simp only [vsAll, binA, binLitA, intA, aggA, boolA, nilA2, isConst, unA, loadA, loadRow, partA, partOk, fieldAddrA, indexAddrA, indexA, fieldA, extractA, lenA, nilCheckA, boxA, cellA, cellsA, fillA, okParts, buildSliceA, buildMutA, makeSliceA, partIdx, elemsA, lensA, ifaceA, convA, mmA, pickA, okAll, stAll, opsA, partsA, partsOk, opA, allocA, boxMutA, newCells, okCells, storeObj, appendA, guardV, taA, nM, mapUpA, lookA, sliceA, boundsA, opO, okO, copyA, dstOk, nilA, quietOk, nilSliceOp, panA, resA, argFr, retA.eq_1, retA.eq_2, Nat.reduceAdd, Nat.reduceSub, Nat.reduceMul, Nat.reduceLT, Nat.reduceLeDiff, Nat.reduceEqDiff, Nat.reduceBEq, Int.reduceAdd, Int.reduceSub, Int.reduceMul, Int.reduceNeg, Int.reduceLE, Int.reduceLT, Int.reduceEq, Int.reduceNe, Int.reduceToNat, ↓reduceIte, reduceCtorEq, implies_true, forall_const, eq_self, ne_eq, wtAll, Try.ntmps31, Try.results31, hh_i2, hh_iT, hh_i4, how, hmo, hst, hh_imy, hcl]) ?_))

                          · skip
                            refine vs_draw2 [0, 0, 0, 0, 0, 0, 0, 0, 0, 1, 2, 3] [([0, 1, 2, 3, 4, 5, 6, 7, 8], [], 9), ([10], [], 11)] [] (by decide +kernel) ?_
                            have htq := k2.own q hq
                            simp only [vsAll, loadA, loadRow, partA, partOk, fieldAddrA, indexAddrA, opA, dstOk, Nat.reduceLT, Nat.reduceEqDiff, ↓reduceIte, eq_self, wtAll, hh_iT, hh_i4, hcl, intF_at]
                            refine ⟨⟨by ((try clear hh_i2); (try clear hh_iT); (try clear hh_i4); (try clear how); (try clear hmo); (try clear hst); (try clear hh_imy); (try clear hcl); omega), by ((try clear hh_i2); (try clear hh_iT); (try clear hh_i4); (try clear how); (try clear hmo); (try clear hst); (try clear hh_imy); (try clear hcl); omega)⟩, hq, ?_⟩
                            refine qcall _ ⟨trivial, by simp only [vsAll, okAll, opsA, opA, Nat.reduceEqDiff, ↓reduceIte, eq_self], lhis_tri q (t.getD q 0) _⟩ ?_
                            simp only [vsAll, binA, binLitA, intA, fieldAddrA, cellA, cellsA, okParts, buildSliceA, partIdx, elemsA, lensA, partsA, partsOk, opA, newCells, okCells, storeObj, appendA, dstOk, Nat.reduceAdd, Nat.reduceMul, Nat.reduceLT, Nat.reduceLeDiff, Nat.reduceEqDiff, ↓reduceIte, eq_self, wtAll, hh_i4, hcl]
                            refine ⟨fun j hj => by (have : j = 0 := by ((try clear hh_i2); (try clear hh_iT); (try clear hh_i4); (try clear how); (try clear hmo); (try clear hst); (try clear hh_imy); (try clear hcl); omega)); subst this; simp only [vsAll, cellA, okCells, eq_self], by ((try clear hh_i2); (try clear hh_iT); (try clear hh_i4); (try clear how); (try clear hmo); (try clear hst); (try clear hh_imy); (try clear hcl); omega), by ((try clear hh_i2); (try clear hh_iT); (try clear hh_i4); (try clear how); (try clear hmo); (try clear hst); (try clear hh_imy); (try clear hcl); omega), by simp only [InR_i64]; ((try clear hh_i2); (try clear hh_iT); (try clear hh_i4); (try clear how); (try clear hmo); (try clear hst); (try clear hh_imy); (try clear hcl); omega), loop_next (cl ++ [⟨q, t.getD q 0, false⟩], a3 + 1 + 1) ⟨by simp only [List.length_append, List.length_cons, List.length_nil]; ((try clear hh_i2); (try clear hh_iT); (try clear hh_i4); (try clear how); (try clear hmo); (try clear hst); (try clear hh_imy); (try clear hcl); omega), ⟨by simp only [List.length_append, List.length_cons, List.length_nil]; ((try clear hh_i2); (try clear hh_iT); (try clear hh_i4); (try clear how); (try clear hmo); (try clear hst); (try clear hh_imy); (try clear hcl); omega), fun d hd => ?_⟩, by simp only [List.length_append, List.length_cons, List.length_nil]; ((try clear hh_i2); (try clear hh_iT); (try clear hh_i4); (try clear how); (try clear hmo); (try clear hst); (try clear hh_imy); (try clear hcl); omega)⟩ (by simp only [List.length_append, List.length_cons, List.length_nil]; ((try clear hh_i2); (try clear hh_iT); (try clear hh_i4); (try clear how); (try clear hmo); (try clear hst); (try clear hh_imy); (try clear hcl); omega)) ?_ ?_⟩
                            · simp only [List.mem_append, List.mem_singleton] at hd
                              rcases hd with hd | rfl
                              · exact c2.cl d hd
                              · dsimp only; ((try clear hh_i2); (try clear hh_iT); (try clear hh_i4); (try clear how); (try clear hmo); (try clear hst); (try clear hh_imy); (try clear hcl); omega)
                            · simp only [vsAll, Nat.reduceEqDiff, ↓reduceIte, eq_self, List.length_append, Int.natCast_add, Int.natCast_one]
                            · simp only [List.length_append, List.length_cons, List.length_nil, Nat.zero_add]
                              rw [app_cl cl ⟨q, t.getD q 0, false⟩ _ rfl]
                              (repeat (first | exact HSub_rfl | refine HSub_put_eq (by simp only [vsAll, ↓reduceIte, eq_self, hh_iT, hh_i4, hcl]) ?_ | refine HSub_drop2 (by simp only [eq_self, hh_i2, hh_iT, hh_i4, hcl]) ?_ | refine HSub_keep_eq (by simp only [vsAll, binA, binLitA, intA, aggA, boolA, nilA2, isConst, unA, loadA, loadRow, partA, partOk, fieldAddrA, indexAddrA, indexA, fieldA, extractA, lenA, nilCheckA, boxA, cellA, cellsA, fillA, okParts, buildSliceA, buildMutA, makeSliceA, partIdx, elemsA, lensA, ifaceA, convA, mmA, pickA, okAll, stAll, opsA, partsA, partsOk, opA, allocA, boxMutA, newCells, okCells, storeObj, appendA, guardV, taA, nM, mapUpA, lookA, sliceA, boundsA, opO, okO, copyA, dstOk, nilA, quietOk, nilSliceOp, panA, resA, argFr, retA.eq_1, retA.eq_2, Nat.reduceAdd, Nat.reduceSub, Nat.reduceMul, Nat.reduceLT, Nat.reduceLeDiff, Nat.reduceEqDiff, Nat.reduceBEq, Int.reduceAdd, Int.reduceSub, Int.reduceMul, Int.reduceNeg, Int.reduceLE, Int.reduceLT, Int.reduceEq, Int.reduceNe, Int.reduceToNat, ↓reduceIte, reduceCtorEq, implies_true, forall_const, eq_self, ne_eq, wtAll, Try.ntmps31, Try.results31, hh_i2, hh_iT, hh_i4, how, hmo, hst, hh_imy, hcl]) ?_))

                    · simp only [vsAll, loadA, loadRow, partA, partOk, cellA, cellsA, opA, newCells, okCells, storeObj, dstOk, nilSliceOp, resA, retA.eq_2, Nat.reduceAdd, Nat.reduceLT, Nat.reduceEqDiff, Nat.reduceBEq, ↓reduceIte, eq_self, wtAll, Try.results31]
                      refine ⟨_, ?_, ⟨F, ow, moL mo t ow.length, st, cl⟩, t, icl, iT, made_of h2 k2 c2, ⟨by simp only [vsAll, hcl], by simp only [eq_self, hcl], by simp only [eq_self, hh_iT]⟩, rfl, rfl⟩
                      (repeat (first | exact HSub_rfl | refine HSub_put_eq (by simp only [vsAll, ↓reduceIte, eq_self, hh_iT, hh_i4, hcl]) ?_ | refine HSub_drop2 (by simp only [eq_self, hh_i2, hh_iT, hh_i4, hcl]) ?_ | refine HSub_keep_eq (by simp only [vsAll, binA, binLitA, intA, aggA, boolA, nilA2, isConst, unA, loadA, loadRow, partA, partOk, fieldAddrA, indexAddrA, indexA, fieldA, extractA, lenA, nilCheckA, boxA, cellA, cellsA, fillA, okParts, buildSliceA, buildMutA, makeSliceA, partIdx, elemsA, lensA, ifaceA, convA, mmA, pickA, okAll, stAll, opsA, partsA, partsOk, opA, allocA, boxMutA, newCells, okCells, storeObj, appendA, guardV, taA, nM, mapUpA, lookA, sliceA, boundsA, opO, okO, copyA, dstOk, nilA, quietOk, nilSliceOp, panA, resA, argFr, retA.eq_1, retA.eq_2, Nat.reduceAdd, Nat.reduceSub, Nat.reduceMul, Nat.reduceLT, Nat.reduceLeDiff, Nat.reduceEqDiff, Nat.reduceBEq, Int.reduceAdd, Int.reduceSub, Int.reduceMul, Int.reduceNeg, Int.reduceLE, Int.reduceLT, Int.reduceEq, Int.reduceNe, Int.reduceToNat, ↓reduceIte, reduceCtorEq, implies_true, forall_const, eq_self, ne_eq, wtAll, Try.ntmps31, Try.results31, hh_i2, hh_iT, hh_i4, how, hmo, hst, hh_imy, hcl]) ?_))
/-- Irons, and a truth, are made. -/
def madeR (H : Hp) : Res → Hp → Prop := fun r H' => ∃ (x : Ir) (t : List Int), MadeI x t ∧ r = .ret (.tuple [x.av, intsAV t]) ∧ H' = H
theorem made_tri (N : Nat) (b : Nat → Int) (H : Hp) (hN : N ≤ 9223372036854775807) (hb : ∀ i, i < N → 0 ≤ b i ∧ b i ≤ 65535) : Tri Try.prog (fnA 31) [.rsl N 1 (byF b)] H (madeR H) := by
  refine Tri.thawD (R1 := fun r H' => ∃ (x : Ir) (t : List Int) (iT : Nat), MadeI x t ∧ H iT = none ∧
      r = .ret (.tuple [x.av, .sl iT 1 x.st.length]) ∧ H' = H.set iT (.row 1 x.st.length (intF t))) (Tri.thawD (made_walk N b H hN hb) ?_) ?_
  · rintro r H' ⟨x, t, iC, iT, hP, ⟨h1, h2, h3⟩, rfl, rfl⟩
    right
    refine ⟨_, .tuple [x.av, .sl iT 1 x.st.length], iC, 3, x.cl.length, clF x.cl, rfl, by rw [Hp.set_ne _ _ h1, Hp.set_same], ?_, x, t, iT, hP, h3, rfl, ?_⟩
    · refine .tuple rfl fun k hk => ?_
      match k, hk with
      | 0, _ =>
        refine .agg rfl fun k hk => ?_
        match k, hk with
        | 0, _ => exact .same _
        | 1, _ => exact .same _
        | 2, _ => exact .same _
        | 3, _ => exact .same _
        | 4, _ => exact .hit fun i hi => rfl
      | 1, _ => exact .same _
    · funext x
      simp only [Hp.del, Hp.set]
      by_cases e : x = iC
      · subst e; rw [if_pos rfl, if_neg h1, h2]
      · rw [if_neg e, if_neg e]
  · rintro r H' ⟨x, t, iT, hP, h3, rfl, rfl⟩
    right
    have hl : t.length = x.st.length := hP.len
    refine ⟨_, .tuple [x.av, intsAV t], iT, 1, x.st.length, intF t, rfl, Hp.set_same _ _ _, ?_, x, t, hP, rfl, set_del h3⟩
    refine .tuple rfl fun k hk => ?_
    match k, hk with
    | 0, _ => exact .same _
    | 1, _ => show FrzD _ _ _ _ (AV.sl iT 1 x.st.length) (AV.rsl t.length 1 (intF t)); rw [hl]; exact .hit fun i hi => rfl
end Go.Proofs.Ytkonoggmdcdeeaa
end
section
set_option linter.unusedVariables false
set_option linter.unusedSimpArgs false
set_option maxHeartbeats 4000000
set_option maxRecDepth 100000
namespace Go.Proofs.Ytkonoggmdcdeeaa
open Go.V
theorem true_law (N : Nat) (b : Nat → Int) (H : Hp) (hN : N ≤ 9223372036854775807) (hb : ∀ i, i < N → 0 ≤ b i ∧ b i ≤ 65535) : PTri Try.prog (fnA 6) [.rsl N 1 (byF b)] H (boo true) := by
  refine Tri.drop ?_
  refine tri_v0 (fun _ => false) Try.func6 (by kernel_rfl) rfl (by simp only [List.length_append, List.length_cons, List.length_nil, Try.ntmps6]; decide) ?_
  simp only [vsAll, okAll, stAll, opsA, opA, dstOk, nilSliceOp, argFr, Nat.reduceLT, ↓reduceIte, reduceCtorEq, eq_self, Try.ntmps6]
  refine callK (made_tri N b H hN hb) ?_
  rintro r H' ⟨x, t, hM, rfl, rfl⟩
  have k := hM.ok
  have kn := k.near
  have hp : 0 < (truA x).length := List.length_pos_of_mem hM.mem
  have cE : countE x = 0 := errE_ok k
  have cV : countV x = (truA x).length := by rw [countV, if_pos cE]
  have hl : (truA x).length ≤ 15625 := truS_len k (2 ^ x.st.length - 1)
  have sE : errE x true false = 0 := errE_ok k
  have sS : shortR x = none := by
    rcases short_cases k with h | ⟨r, h1, h2, _⟩
    · exact h.1
    · omega
  have nC := k.nC
  have nS := k.nS
  have nO := k.nO
  have hfp := hM.few_pop
  have hfw := hM.few
  have hfE := hM.falseE
  have hwl := wrC_le x t x.cl.length
  simp only [vsAll, loadA, loadRow, partA, partOk, extractA, cellA, cellsA, okAll, stAll, opsA, opA, allocA, newCells, okCells, storeObj, dstOk, nilSliceOp, Nat.reduceAdd, Nat.reduceLT, Nat.reduceEqDiff, ↓reduceIte, eq_self, wtAll]
  intro i3 hh_i3; (try simp only [Hp.set_none, ite_none] at hh_i3)
  rw [Hp.set_set]
  refine callK_pure (wcount_tri x _ kn) ?_
  rw [cV, cE]
  simp only [vsAll, loadA, loadRow, partA, partOk, extractA, okAll, stAll, opsA, opA, dstOk, nilSliceOp, Nat.reduceAdd, Nat.reduceLT, Nat.reduceEqDiff, ↓reduceIte, eq_self, wtAll]
  refine callK_pure (wshort_tri x _ kn) ?_
  rw [sE, sS, (setV_none (r := none) rfl).1, (setV_none (r := none) rfl).2]
  simp only [vsAll, loadA, loadRow, partA, partOk, extractA, okAll, stAll, opsA, opA, dstOk, nilSliceOp, Nat.reduceAdd, Nat.reduceLT, Nat.reduceEqDiff, ↓reduceIte, eq_self, wtAll]
  refine callK_pure (wfalse_tri x _ kn) ?_
  rw [hfE]
  have g1 : decide (((truA x).length : Int) < 1) = false := decide_eq_false (by ((try clear hh_i3); omega))
  have g2 : decide (((falseP x).2 : Int) < 0) = false := decide_eq_false (by ((try clear hh_i3); omega))
  obtain ⟨t0, fs⟩ := false_spec k hp
  have hP2 : (falseP x).2 < 256 := by
    have := wrongT_lt8 k t0
    rw [fs.val]
    show wrongT x t0 < 256
    ((try clear hh_i3); omega)
  have hP1 : (falseP x).1 ≤ 8 := by ((try clear hh_i3); omega)
  have ccl := clash_cases k hp
  have cEE : errE x true true = 0 := errE_told k hp
  simp only [vsAll, binA, binLitA, intA, extractA, pickA, opA, guardV, dstOk, nilSliceOp, Nat.reduceAdd, Nat.reduceLT, Nat.reduceEqDiff, ↓reduceIte, implies_true, eq_self, g1, g2]
  refine gcall (i64 (pop (falseP x).2)) (fun g => ⟨by simp only [vsAll, opA], by simp only [vsAll, okAll, opsA, opA, ↓reduceIte, eq_self], size_tri _ _ (by ((try clear hh_i3); omega))⟩) ?_
  rw [hfp]
  generalize (falseP x).2 = p2 at *
  generalize hfp1 : (falseP x).1 = few at *
  have g3 : decide ((few : Int) = (few : Int)) = true := decide_eq_true rfl
  simp only [vsAll, binA, binLitA, intA, loadA, loadRow, partA, partOk, fieldAddrA, lenA, pickA, opA, guardV, dstOk, nilSliceOp, Nat.reduceLT, Nat.reduceEqDiff, ↓reduceIte, implies_true, eq_self, wtAll]
  refine vs_loop (σ := Nat) (fun i => i ≤ x.cl.length) (fun i => [(3, .ref i3 0 5 0 0), (4, intsAV t), (9, i64 few), (12, i64 (wrC x t i : Nat)), (74, clAV x.cl), (75, i64 x.cl.length), (76, i64 i)])
    (fun _ => H'.set i3 (.box 5 1 fun _ => x.cs)) (fun i => x.cl.length - i) 0 (by ((try clear hh_i3); omega)) ?_ (HSub.refl _) fun i hi => ?_
  · simp only [vsAll, Nat.reduceEqDiff, ↓reduceIte, eq_self, Int.natCast_zero, wrC]
  · simp only [vsAll, binA, binLitA, intA, opA, dstOk, Nat.reduceLT, Nat.reduceEqDiff, ↓reduceIte, eq_self]
    refine condD (fun hd => ?_) (fun hd => ?_)
    · have hci := k.cs i (by ((try clear hh_i3); omega))
      have hoi := k.co i (by ((try clear hh_i3); omega))
      have hclm := hM.claim (i := i) (by ((try clear hh_i3); omega))
      have hwi := wrC_le x t i
      simp only [vsAll, loadA, loadRow, partA, partOk, indexAddrA, cellA, cellsA, opA, allocA, newCells, okCells, storeObj, dstOk, nilSliceOp, Nat.reduceAdd, Nat.reduceLT, Nat.reduceEqDiff, ↓reduceIte, eq_self, wtAll, clF_at]
      refine ⟨⟨by ((try clear hh_i3); omega), by ((try clear hh_i3); omega)⟩, by ((try clear hh_i3); omega), ?_⟩
      intro i14 hh_i14; (try simp only [ite_none] at hh_i14)
      refine vs_draw 11 (by decide +kernel) ?_
      simp only [vsAll, binA, binLitA, intA, boolA, loadA, loadRow, partA, partOk, fieldAddrA, indexAddrA, okAll, stAll, opsA, opA, dstOk, nilSliceOp, Nat.reduceLT, Nat.reduceEqDiff, ↓reduceIte, eq_self, wtAll, hh_i14, intF_at]
      have tl := hM.len
      refine ⟨⟨by ((try clear hh_i3); (try clear hh_i14); omega), by ((try clear hh_i3); (try clear hh_i14); omega)⟩, by ((try clear hh_i3); (try clear hh_i14); omega), ?_⟩
      refine callK_pure (wclaim_tri x i _ kn) ?_
      have er : (!(decide (t.getD (x.cl.getD i cl0).s.toNat 0 = (x.cl.getD i cl0).o) == (x.cl.getD i cl0).nt)) = rightT x t i := rfl
      have ewr : wrC x t (i + 1) = wrC x t i + if rightT x t i = true then 0 else 1 := rfl
      rw [er, hclm.1]
      obtain ⟨_, q1, q2⟩ := hclm
      generalize rightT x t i = rt at *
      generalize claimV x i = cv at *
      simp only [vsAll, binA, binLitA, intA, unA, extractA, pickA, opA, guardV, dstOk, nilSliceOp, Nat.reduceAdd, Nat.reduceLT, Nat.reduceEqDiff, ↓reduceIte, implies_true, eq_self]
      refine ⟨fun g => ⟨g, fun g2 => by rw [g, g2]; rfl⟩, condV (fun hb => ?_) (fun hb => ?_)⟩
      · exfalso
        simp at hb
        rcases hb with ⟨h1, h2⟩ | ⟨h1, h2⟩
        · rw [q1 h1] at h2; cases h2
        · rw [q2 h1] at h2; cases h2
      · simp only [vsAll, unA, opA, dstOk, Nat.reduceLT, Nat.reduceEqDiff, ↓reduceIte, eq_self]
        refine condV (fun hr => ?_) (fun hr => ?_)
        · have hr : rt = false := by simpa using hr
          rw [hr, if_neg (by decide)] at ewr
          simp only [vsAll, binA, binLitA, intA, opA, dstOk, nilSliceOp, Nat.reduceLT, Nat.reduceEqDiff, ↓reduceIte, eq_self]
          refine ⟨by simp only [InR_i64]; ((try clear hh_i3); (try clear hh_i14); omega), by simp only [InR_i64]; ((try clear hh_i3); (try clear hh_i14); omega), loop_next (i + 1) (by ((try clear hh_i3); (try clear hh_i14); omega)) (by ((try clear hh_i3); (try clear hh_i14); omega)) ?_ ?_⟩
          · simp only [vsAll, Nat.reduceEqDiff, ↓reduceIte, eq_self, ewr, Int.natCast_add, Int.natCast_one]
          · (repeat (first | exact HSub_rfl | refine HSub_put_eq (by simp only [vsAll, ↓reduceIte, eq_self, hh_i14]) ?_ | refine HSub_drop2 (by simp only [eq_self, hh_i3, hh_i14]) ?_ | refine HSub_keep_eq (by simp only [vsAll, binA, binLitA, intA, aggA, boolA, nilA2, isConst, unA, loadA, loadRow, partA, partOk, fieldAddrA, indexAddrA, indexA, fieldA, extractA, lenA, nilCheckA, boxA, cellA, cellsA, fillA, okParts, buildSliceA, buildMutA, makeSliceA, partIdx, elemsA, lensA, ifaceA, convA, mmA, pickA, okAll, stAll, opsA, partsA, partsOk, opA, allocA, boxMutA, newCells, okCells, storeObj, appendA, guardV, taA, nM, mapUpA, lookA, sliceA, boundsA, opO, okO, copyA, dstOk, nilA, quietOk, nilSliceOp, panA, resA, argFr, retA.eq_1, retA.eq_2, Nat.reduceAdd, Nat.reduceSub, Nat.reduceMul, Nat.reduceLT, Nat.reduceLeDiff, Nat.reduceEqDiff, Nat.reduceBEq, Int.reduceAdd, Int.reduceSub, Int.reduceMul, Int.reduceNeg, Int.reduceLE, Int.reduceLT, Int.reduceEq, Int.reduceNe, Int.reduceToNat, ↓reduceIte, reduceCtorEq, implies_true, forall_const, eq_self, ne_eq, wtAll, Try.ntmps6, Try.results6, hh_i3, hh_i14]) ?_))
        · have hr : rt = true := by simpa using hr
          rw [hr, if_pos rfl, Nat.add_zero] at ewr
          simp only [vsAll, binA, binLitA, intA, opA, dstOk, Nat.reduceLT, Nat.reduceEqDiff, ↓reduceIte, eq_self]
          refine ⟨by simp only [InR_i64]; ((try clear hh_i3); (try clear hh_i14); omega), loop_next (i + 1) (by ((try clear hh_i3); (try clear hh_i14); omega)) (by ((try clear hh_i3); (try clear hh_i14); omega)) ?_ ?_⟩
          · simp only [vsAll, Nat.reduceEqDiff, ↓reduceIte, eq_self, ewr, Int.natCast_add, Int.natCast_one]
          · (repeat (first | exact HSub_rfl | refine HSub_put_eq (by simp only [vsAll, ↓reduceIte, eq_self, hh_i14]) ?_ | refine HSub_drop2 (by simp only [eq_self, hh_i3, hh_i14]) ?_ | refine HSub_keep_eq (by simp only [vsAll, binA, binLitA, intA, aggA, boolA, nilA2, isConst, unA, loadA, loadRow, partA, partOk, fieldAddrA, indexAddrA, indexA, fieldA, extractA, lenA, nilCheckA, boxA, cellA, cellsA, fillA, okParts, buildSliceA, buildMutA, makeSliceA, partIdx, elemsA, lensA, ifaceA, convA, mmA, pickA, okAll, stAll, opsA, partsA, partsOk, opA, allocA, boxMutA, newCells, okCells, storeObj, appendA, guardV, taA, nM, mapUpA, lookA, sliceA, boundsA, opO, okO, copyA, dstOk, nilA, quietOk, nilSliceOp, panA, resA, argFr, retA.eq_1, retA.eq_2, Nat.reduceAdd, Nat.reduceSub, Nat.reduceMul, Nat.reduceLT, Nat.reduceLeDiff, Nat.reduceEqDiff, Nat.reduceBEq, Int.reduceAdd, Int.reduceSub, Int.reduceMul, Int.reduceNeg, Int.reduceLE, Int.reduceLT, Int.reduceEq, Int.reduceNe, Int.reduceToNat, ↓reduceIte, reduceCtorEq, implies_true, forall_const, eq_self, ne_eq, wtAll, Try.ntmps6, Try.results6, hh_i3, hh_i14]) ?_))
    · have ei : i = x.cl.length := by ((try clear hh_i3); omega)
      subst ei
      have tl := hM.len
      have g4 : decide ((wrC x t x.cl.length : Int) < (few : Int)) = false := decide_eq_false (by ((try clear hh_i3); omega))
      simp only [vsAll, binA, binLitA, intA, lenA, opA, dstOk, Nat.reduceLT, Nat.reduceEqDiff, ↓reduceIte, eq_self, wtAll, g4]
      refine vs_loop (σ := Nat) (fun i => i ≤ t.length) (fun i => [(3, .ref i3 0 5 0 0), (4, intsAV t), (9, i64 few), (12, i64 (wrC x t x.cl.length : Nat)), (123, intsAV t), (124, i64 t.length), (125, i64 i)])
        (fun _ => H'.set i3 (.box 5 1 fun _ => x.cs)) (fun i => t.length - i) 0 (by ((try clear hh_i3); omega)) ?_ (HSub.refl _) fun i hi2 => ?_
      · simp only [vsAll, Nat.reduceEqDiff, ↓reduceIte, eq_self, Int.natCast_zero]
      · simp only [vsAll, binA, binLitA, intA, opA, dstOk, Nat.reduceLT, Nat.reduceEqDiff, ↓reduceIte, eq_self]
        refine condD (fun hd2 => ?_) (fun hd2 => ?_)
        · have hown := hM.own i (by ((try clear hh_i3); omega))
          obtain ⟨o, ho⟩ : ∃ o : Nat, t.getD i 0 = (o : Int) := ⟨(t.getD i 0).toNat, by ((try clear hh_i3); omega)⟩
          obtain ⟨⟨s1, s2, s3⟩, s4, s5, s6, s7, s8, s9, s10, s11, s12⟩ := hM.strake (s := i) (by ((try clear hh_i3); omega)) ho
          rw [hfp1] at s9
          simp only [vsAll, loadA, loadRow, partA, partOk, indexAddrA, okAll, stAll, opsA, opA, dstOk, nilSliceOp, Nat.reduceLT, Nat.reduceEqDiff, ↓reduceIte, eq_self, wtAll, intF_at, ho]
          refine ⟨by ((try clear hh_i3); omega), by ((try clear hh_i3); omega), ?_⟩
          refine callK_pure (wfits_tri x i _ kn) ?_
          simp only [vsAll, loadA, loadRow, partA, partOk, extractA, okAll, stAll, opsA, opA, dstOk, nilSliceOp, Nat.reduceAdd, Nat.reduceLT, Nat.reduceEqDiff, ↓reduceIte, eq_self, wtAll]
          refine callK_pure (wcan_tri x i _ kn) ?_
          simp only [vsAll, loadA, loadRow, partA, partOk, extractA, okAll, stAll, opsA, opA, dstOk, nilSliceOp, Nat.reduceAdd, Nat.reduceLT, Nat.reduceEqDiff, ↓reduceIte, eq_self, wtAll]
          refine callK_pure (wlikely_tri x i _ kn) ?_
          rw [s1, s2, s3]
          generalize fitsV x i = fv at *
          generalize canV x i = cv at *
          generalize likV x i = lv at *
          have b1 : decide (((((fv : Int) / 2 ^ o).toNat &&& 1 : Nat) : Int) = 0) = false := by rw [bit_eq0, s4]; rfl
          have b2 : decide (((((cv : Int) / 2 ^ o).toNat &&& 1 : Nat) : Int) = 0) = false := by rw [bit_eq0, s5]; rfl
          have b3 : decide (((cv ^^^ cv &&& fv : Nat) : Int) = 0) = true := decide_eq_true (by ((try clear hh_i3); omega))
          have b4 : decide (((lv ^^^ lv &&& cv : Nat) : Int) = 0) = true := decide_eq_true (by ((try clear hh_i3); omega))
          have b5 : decide ((lv : Int) < 1) = false := decide_eq_false (by ((try clear hh_i3); omega))
          have ho5 : o < 5 := by ((try clear hh_i3); omega)
          have r1 := shr_ok fv o 32 s10 (by decide)
          have r2 := shr_ok cv o 32 s11 (by decide)
          have r3 := shr_ok lv o 32 s12 (by decide)
          simp only [vsAll, binA, binLitA, intA, extractA, pickA, opA, guardV, dstOk, nilSliceOp, Nat.reduceAdd, Nat.reduceLT, Nat.reduceEqDiff, Int.reduceLE, Int.reduceToNat, ↓reduceIte, implies_true, forall_const, eq_self, b1, b2, b3, b4, b5, bit_eq0]
          simp only [InR_i64]
          generalize (fv : Int) / 2 ^ o = z1 at r1 ⊢
          generalize (cv : Int) / 2 ^ o = z2 at r2 ⊢
          generalize (lv : Int) / 2 ^ o = z3 at r3 ⊢
          refine ⟨⟨by ((try clear hh_i3); omega), by ((try clear hh_i3); omega), rfl⟩, by ((try clear hh_i3); omega), ⟨by ((try clear hh_i3); omega), by ((try clear hh_i3); omega), rfl⟩, by ((try clear hh_i3); omega), by ((try clear hh_i3); omega), by ((try clear hh_i3); omega), ⟨by ((try clear hh_i3); omega), by ((try clear hh_i3); omega), rfl⟩, by ((try clear hh_i3); omega), condV (fun hb => ?_) (fun hb => ?_)⟩
          · exfalso
            simp at hb
            exact s9 hb.1 (by ((try clear hh_i3); omega))
          · simp only [vsAll, binA, binLitA, intA, opA, dstOk, Nat.reduceLT, Nat.reduceEqDiff, ↓reduceIte, eq_self]
            refine ⟨by simp only [InR_i64]; ((try clear hh_i3); omega), loop_next (i + 1) (by ((try clear hh_i3); omega)) (by ((try clear hh_i3); omega)) ?_ (HSub.refl _)⟩
            simp only [vsAll, Nat.reduceEqDiff, ↓reduceIte, eq_self, Int.natCast_add, Int.natCast_one]
        · simp only [vsAll, loadA, loadRow, partA, partOk, okAll, stAll, opsA, opA, dstOk, Nat.reduceLT, Nat.reduceEqDiff, ↓reduceIte, eq_self, wtAll]
          refine callK_pure (wclash_tri x _ kn) ?_
          rw [cEE]
          rcases ccl with ⟨c1, c2⟩ | ⟨r, c1, c2, c3, c4, c5, c6, c7⟩
          · obtain ⟨e1, e2⟩ := setV_none (r := clashR x) (by rw [c1]; rfl)
            have f0 : few = 0 := by ((try clear hh_i3); omega)
            rw [e1, e2, f0]
            simp only [vsAll, binA, binLitA, intA, boolA, extractA, pickA, opA, guardV, dstOk, nilSliceOp, Nat.reduceAdd, Nat.reduceLT, Nat.reduceEqDiff, ↓reduceIte, implies_true, eq_self, wtAll, Int.natCast_zero, beq_self_eq_true]
            refine gcall (boo true) (fun g => ⟨trivial, by simp only [okAll, opsA], awake_tri _⟩) ?_
            simp only [vsAll, pickA, opA, dstOk, nilSliceOp, resA, retA.eq_1, Nat.reduceLT, Nat.reduceEqDiff, ↓reduceIte, implies_true, eq_self, Try.results6]
            exact dropR_pure rfl (by (repeat (first | exact HSub_rfl | refine HSub_put_eq (by simp only [vsAll, binA, binLitA, intA, aggA, boolA, nilA2, isConst, unA, loadA, loadRow, partA, partOk, fieldAddrA, indexAddrA, indexA, fieldA, extractA, lenA, nilCheckA, boxA, cellA, cellsA, fillA, okParts, buildSliceA, buildMutA, makeSliceA, partIdx, elemsA, lensA, ifaceA, convA, mmA, pickA, okAll, stAll, opsA, partsA, partsOk, opA, allocA, boxMutA, newCells, okCells, storeObj, appendA, guardV, taA, nM, mapUpA, lookA, sliceA, boundsA, opO, okO, copyA, dstOk, nilA, quietOk, nilSliceOp, panA, resA, argFr, retA.eq_1, retA.eq_2, Nat.reduceAdd, Nat.reduceSub, Nat.reduceMul, Nat.reduceLT, Nat.reduceLeDiff, Nat.reduceEqDiff, Nat.reduceBEq, Int.reduceAdd, Int.reduceSub, Int.reduceMul, Int.reduceNeg, Int.reduceLE, Int.reduceLT, Int.reduceEq, Int.reduceNe, Int.reduceToNat, ↓reduceIte, reduceCtorEq, implies_true, forall_const, eq_self, ne_eq, wtAll, Try.ntmps6, Try.results6, hh_i3]) ?_ | refine HSub_drop2 (by simp only [eq_self, hh_i3]) ?_ | refine HSub_keep_eq (by simp only [vsAll, binA, binLitA, intA, aggA, boolA, nilA2, isConst, unA, loadA, loadRow, partA, partOk, fieldAddrA, indexAddrA, indexA, fieldA, extractA, lenA, nilCheckA, boxA, cellA, cellsA, fillA, okParts, buildSliceA, buildMutA, makeSliceA, partIdx, elemsA, lensA, ifaceA, convA, mmA, pickA, okAll, stAll, opsA, partsA, partsOk, opA, allocA, boxMutA, newCells, okCells, storeObj, appendA, guardV, taA, nM, mapUpA, lookA, sliceA, boundsA, opO, okO, copyA, dstOk, nilA, quietOk, nilSliceOp, panA, resA, argFr, retA.eq_1, retA.eq_2, Nat.reduceAdd, Nat.reduceSub, Nat.reduceMul, Nat.reduceLT, Nat.reduceLeDiff, Nat.reduceEqDiff, Nat.reduceBEq, Int.reduceAdd, Int.reduceSub, Int.reduceMul, Int.reduceNeg, Int.reduceLE, Int.reduceLT, Int.reduceEq, Int.reduceNe, Int.reduceToNat, ↓reduceIte, reduceCtorEq, implies_true, forall_const, eq_self, ne_eq, wtAll, Try.ntmps6, Try.results6, hh_i3]) ?_)))
          · obtain ⟨e1, e2⟩ := setV_some (r := clashR x) (by rw [c1]; rfl)
            rw [e1, e2]
            have d2 : decide ((few : Int) = 0) = false := decide_eq_false (by ((try clear hh_i3); omega))
            have d3 : decide ((0 : Int) < (wrC x t x.cl.length : Int)) = true := decide_eq_true (by ((try clear hh_i3); omega))
            simp only [vsAll, binA, binLitA, intA, boolA, extractA, pickA, opA, guardV, dstOk, nilSliceOp, Nat.reduceAdd, Nat.reduceLT, Nat.reduceEqDiff, Int.reduceEq, ↓reduceIte, implies_true, eq_self, wtAll, d2, d3, beq_self_eq_true]
            refine gcall (boo true) (fun g => ⟨trivial, by simp only [okAll, opsA], awake_tri _⟩) ?_
            simp only [vsAll, pickA, opA, dstOk, nilSliceOp, resA, retA.eq_1, Nat.reduceLT, Nat.reduceEqDiff, ↓reduceIte, implies_true, eq_self, Try.results6]
            exact dropR_pure rfl (by (repeat (first | exact HSub_rfl | refine HSub_put_eq (by simp only [vsAll, binA, binLitA, intA, aggA, boolA, nilA2, isConst, unA, loadA, loadRow, partA, partOk, fieldAddrA, indexAddrA, indexA, fieldA, extractA, lenA, nilCheckA, boxA, cellA, cellsA, fillA, okParts, buildSliceA, buildMutA, makeSliceA, partIdx, elemsA, lensA, ifaceA, convA, mmA, pickA, okAll, stAll, opsA, partsA, partsOk, opA, allocA, boxMutA, newCells, okCells, storeObj, appendA, guardV, taA, nM, mapUpA, lookA, sliceA, boundsA, opO, okO, copyA, dstOk, nilA, quietOk, nilSliceOp, panA, resA, argFr, retA.eq_1, retA.eq_2, Nat.reduceAdd, Nat.reduceSub, Nat.reduceMul, Nat.reduceLT, Nat.reduceLeDiff, Nat.reduceEqDiff, Nat.reduceBEq, Int.reduceAdd, Int.reduceSub, Int.reduceMul, Int.reduceNeg, Int.reduceLE, Int.reduceLT, Int.reduceEq, Int.reduceNe, Int.reduceToNat, ↓reduceIte, reduceCtorEq, implies_true, forall_const, eq_self, ne_eq, wtAll, Try.ntmps6, Try.results6, hh_i3]) ?_ | refine HSub_drop2 (by simp only [eq_self, hh_i3]) ?_ | refine HSub_keep_eq (by simp only [vsAll, binA, binLitA, intA, aggA, boolA, nilA2, isConst, unA, loadA, loadRow, partA, partOk, fieldAddrA, indexAddrA, indexA, fieldA, extractA, lenA, nilCheckA, boxA, cellA, cellsA, fillA, okParts, buildSliceA, buildMutA, makeSliceA, partIdx, elemsA, lensA, ifaceA, convA, mmA, pickA, okAll, stAll, opsA, partsA, partsOk, opA, allocA, boxMutA, newCells, okCells, storeObj, appendA, guardV, taA, nM, mapUpA, lookA, sliceA, boundsA, opO, okO, copyA, dstOk, nilA, quietOk, nilSliceOp, panA, resA, argFr, retA.eq_1, retA.eq_2, Nat.reduceAdd, Nat.reduceSub, Nat.reduceMul, Nat.reduceLT, Nat.reduceLeDiff, Nat.reduceEqDiff, Nat.reduceBEq, Int.reduceAdd, Int.reduceSub, Int.reduceMul, Int.reduceNeg, Int.reduceLE, Int.reduceLT, Int.reduceEq, Int.reduceNe, Int.reduceToNat, ↓reduceIte, reduceCtorEq, implies_true, forall_const, eq_self, ne_eq, wtAll, Try.ntmps6, Try.results6, hh_i3]) ?_)))
end Go.Proofs.Ytkonoggmdcdeeaa
end
section
set_option linter.unusedVariables false
set_option linter.unusedSimpArgs false
set_option maxRecDepth 100000
namespace Go.Proofs.Ytkonoggmdcdeeaa
open Go.V Go.ChangeShapes Go.WideShapes Go.ChangeAt Go.RowKit
theorem Try.own : ownKnob Try.prog.godebug = none := by kernel_rfl
theorem u4 : Try.prog.underlying 4 = some .bool := by kernel_rfl
end Go.Proofs.Ytkonoggmdcdeeaa
end
section
set_option linter.unusedVariables false
set_option linter.unusedSimpArgs false
set_option maxRecDepth 100000
namespace Go.Proofs.Ytkonoggmdcdeeaa
open Go.V Go.ChangeShapes Go.WideShapes Go.ChangeAt Go.RowKit
def iz : Value → Int
  | .int _ n => n
  | _ => 0
theorem true_u38 : Try.prog.underlying 38 = some (.slice 90) := by kernel_rfl
theorem by_rel {H : Type} {enc : TypeId × Value → H} {W : World} {sp : Nat → Bool} {held : Bool} {v : Value} {d : DataW H} {ps : List MemPlace} {base : Nat}
    (hv : Value.okWide Try.prog W .any base 38 v) (h : DataW.Trod enc Try.prog W 0 sp held 38 v d ps) : ∃ (N : Nat) (b : Nat → Int), N ≤ 9223372036854775807 ∧ (∀ i, i < N → 0 ≤ b i ∧ b i ≤ 65535) ∧ VRel (st0 W) (.rsl N 1 (byF b)) v := by
  obtain ⟨a, len, cap, rfl⟩ := okWide_slice true_u38 hv
  obtain ⟨fuel, h⟩ := h
  obtain ⟨n, g, hn, hl, hr⟩ := trod_slice_rel (d := 4) (e := 90) (ks := [.int .u16]) true_u38 (by decide +kernel) (by decide +kernel) (by decide) (show DataW.trod enc Try.prog W 0 sp held fuel 38 [.slice a len cap] = some (d, ps) from h)
  have key : ∀ i, i < n → ∃ z : Int, g i = [.int .u16 z] ∧ 0 ≤ z ∧ z ≤ 65535 := fun i hi => by
    obtain ⟨h1, h2⟩ := hl i hi
    match hg : g i, h1 with
    | [x], _ =>
      obtain ⟨z, rfl, hz⟩ := h2 0 (.int .u16) x rfl (by rw [hg]; rfl)
      refine ⟨z, rfl, ?_⟩
      simp [Lit.wf, IntKind.min, IntKind.max, IntKind.signed, IntKind.bits] at hz
      omega
  refine ⟨n, fun i => iz ((g i).getD 0 undef), hn, fun i hi => ?_, AV.Le.rsl (fun i hi => ?_) _ _ hr⟩
  · obtain ⟨z, e, hz⟩ := key i hi
    simp only [e]; exact hz
  · obtain ⟨z, e, hz⟩ := key i hi
    simp only [e]; simp only [byF, e]; rfl

theorem ironTrue_lifted (os : Os) (started : os.Started) (H : Type) (enc : TypeId × Value → H) :
    ReturnsInHanded {} Try.checked os 6 .any (Rows.ironTrueSpec.pre6 enc Try.prog Try.f6 Rows.ironTrueRow.domain false) (Rows.ironTrueSpec.post enc Try.prog Try.f6 false true false false) := by
  refine returnsInHanded_of_change (C := Try.checked) Try.own started (by kernel_rfl) Try.func6
    (ChangeSpec.witness6 (enc := enc) (C := Try.checked) false ⟨#[], #[.slice none 0 0], []⟩ 8 (by kernel_rfl) (by kernel_rfl) (by kernel_rfl) (by kernel_rfl)) ?_
  intro W base args ds gs before hval hW hcnd _
  have hW' := hW
  obtain ⟨p, q, hA, hV, rfl, hfz, hnd⟩ := hW
  obtain ⟨rfl, rfl⟩ := trodVars_none hV
  rw [show Try.f6.params.toList = [38] from by kernel_rfl] at hA
  obtain ⟨v0, d0, rfl, rfl, h0⟩ := trodAll_one hA
  have hval : ∀ (j : Nat) t v, Try.f6.params[j]? = some t → (#[v0] : Array Value)[j]? = some v → Value.okWide Try.prog W .any base t v := hval
  rw [show Try.f6.params = #[38] from by kernel_rfl] at hval
  obtain ⟨N, b, hN, hb, hr⟩ := by_rel (hval 0 38 v0 rfl rfl) h0
  refine (law_calls Try.func6 (by kernel_rfl) rfl (Tri.mono (true_law N b H0 hN hb) ?_) ⟨rfl, fun k hk => match k, hk with | 0, _ => hr⟩).mono fun e W' he => ?_
  · rintro r H' ⟨rfl, _⟩; rfl
  · obtain ⟨rfl, hh, ho, hp⟩ := he
    exact ⟨_, rfl, law_post (d := 6) rfl (tb := 4) (by kernel_rfl) u4 (by decide +kernel) hW' rfl hh ho hp⟩

theorem ironTrue_holds : Rows.IronTrueSaid :=
  OpenClaim.holds_of_wide (p := Try.pinned) (s := Rows.ironTrueSpec) (c := Rows.ironTrueRow) 6 Try.f6 rfl rfl rfl rfl rfl rfl rfl ⟨rfl, rfl, rfl, rfl, rfl⟩ rfl rfl rfl rfl rfl (by kernel_rfl) Try.func6 (by kernel_rfl)
    (of_decide_eq_true (by kernel_rfl)) (by unfold Func.isWrapper; first | (rw [if_pos (by decide +kernel)]; kernel_rfl) | (rw [if_neg (by decide +kernel)]; exact ⟨rfl, rfl⟩))
    (fun os started H enc _ => ironTrue_lifted os started H enc)

end Go.Proofs.Ytkonoggmdcdeeaa
end
