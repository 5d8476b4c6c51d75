/- WHAT IS PROVED: the given statement of this claim. Conditions: none beyond the given row. -/
import Derived.Test.YtnmgegodkmgdeaaDoorTie
import Derived.Test.YtnmgegodkmgdeaaDoorCards
import Derived.SevenTiedAt
import Derived.Test.YtnmgegodkmgdeaaDoorTu5
section
set_option linter.unusedVariables false
set_option linter.unusedSimpArgs false
set_option maxHeartbeats 4000000
set_option maxRecDepth 100000
namespace Go.Proofs.YtnmgegodkmgdeaaDoor
open Go.V
/-- A row frozen in what the slots hold. -/
inductive FzL (id st n : Nat) (f : Nat → List AV) : List (Nat × AV) → List (Nat × AV) → Prop
  | nil : FzL id st n f [] []
  | same {t : Nat} {v : AV} {l l' : List (Nat × AV)} : FzL id st n f l l' → FzL id st n f ((t, v) :: l) ((t, v) :: l')
  | hit {t : Nat} {l l' : List (Nat × AV)} : FzL id st n f l l' → FzL id st n f ((t, .sl id st n) :: l) ((t, .rsl n st f) :: l')
theorem FzL.frz {id st n : Nat} {f : Nat → List AV} {l l' : List (Nat × AV)} (h : FzL id st n f l l') : ∀ t, Fr.of l' t = Fr.of l t ∨ (Fr.of l t = .sl id st n ∧ Fr.of l' t = .rsl n st f) := by
  intro t
  induction h with
  | nil => exact .inl rfl
  | same _ ih =>
    simp only [Fr.of]
    split
    · exact .inl rfl
    · exact ih
  | hit _ ih =>
    simp only [Fr.of]
    split
    · exact .inr ⟨rfl, rfl⟩
    · exact ih
theorem HSub_eqn {A B : Hp} (h : ∀ q, B q = none ∨ A q = B q) : Go.V.HSub A B := fun q o hq => by
  rcases h q with e | e
  · rw [e] at hq; cases hq
  · exact ⟨o, by rw [e]; exact hq, .refl _⟩
theorem Fr_nl {id st k t : Nat} {L : List (Nat × AV)} : Nld id st (Fr.of ((k, .lit (.slice none 0 0)) :: L) t) (Fr.of ((k, .sl id st 0) :: L) t) := by
  simp only [Fr.of]
  split
  · exact .hit
  · exact .rfl
theorem FzL.refl {id st n : Nat} {f : Nat → List AV} : ∀ l : List (Nat × AV), FzL id st n f l l
  | [] => .nil
  | (t, v) :: l => .same (FzL.refl l)
/-- Behind the copying nothing is written into the copies. -/
theorem cut_cp {σ : Type} {inv : σ → Prop} {fr : σ → List (Nat × AV)} {hp : σ → Hp} {dsf : σ → List AD} {Q : Post} {sF : Fr} {A H0 : Hp} {B : List (Nat × AV)} (x : σ) (hx : inv x) (s : Sl) (is ih : Nat) (h1 : H0 is = none) (h2 : H0 ih = none) (n12 : ¬ ih = is)
    (hS : Slots sF ((14, .sl is 3 s.sh.length) :: (15, .sl ih 2 s.hs.length) :: B)) (hf : fr x = (14, shAV s.sh) :: (15, spAV s.hs) :: B) (hS2 : Slots (Fr.of ((14, shAV s.sh) :: (15, spAV s.hs) :: B)) ((14, shAV s.sh) :: (15, spAV s.hs) :: B)) (hh : hp x = H0)
    (hH : Go.V.HSub A ((H0.set is (.row 3 s.sh.length (shF s.sh))).set ih (.row 2 s.hs.length (spF s.hs)))) : CutG inv fr hp dsf Q .normal sF (dsf x) A := by
  refine cutG_ent (Ent.of _ hS hH ?_)
  refine cutG_ent (Ent.freeze (id := is) (st := 3) (n := s.sh.length) (f := shF s.sh) (s' := Fr.of ((14, shAV s.sh) :: (15, .sl ih 2 s.hs.length) :: B)) ?_ (FzL.frz (.hit (.same (FzL.refl _)))) ?_)
  · rw [Hp.set_ne _ _ (fun e => n12 e.symm), Hp.set_same]
  refine cutG_ent (Ent.freeze (id := ih) (st := 2) (n := s.hs.length) (f := spF s.hs) (s' := Fr.of ((14, shAV s.sh) :: (15, spAV s.hs) :: B)) ?_ (FzL.frz (.same (.hit (FzL.refl _)))) ?_)
  · rw [Hp.del_ne _ n12, Hp.set_same]
  refine cutG_of x hx ?_ rfl (HSub_eqn fun q => ?_)
  · rw [hf]; exact hS2
  · rw [hh]
    by_cases e1 : q = is
    · subst e1; left; exact h1
    by_cases e2 : q = ih
    · subst e2; left; exact h2
    right
    rw [Hp.del_ne _ e2, Hp.del_ne _ e1, Hp.set_ne _ _ e2, Hp.set_ne _ _ e1]
def planE (s : Sl) (u : Bool) : List Int := if rgtE s u = 0 then bestP (wm s) s u else []
theorem eq_sh : eqT Tryd.prog 54 3 := eqT_of (by kernel_rfl) (by kernel_rfl) (by kernel_rfl) (by kernel_rfl) (by kernel_rfl)
theorem eq_sp : eqT Tryd.prog 51 2 := eqT_of (by kernel_rfl) (by kernel_rfl) (by kernel_rfl) (by kernel_rfl) (by kernel_rfl)
theorem turned_law (s : Sl) (u : Bool) (N : Nat) (b : Nat → Int) (H : Hp) (hN : N < 2 ^ 63) (hb : ∀ i, i < N → 0 ≤ b i ∧ b i ≤ 255) :
    PTri Tryd.prog (fnA 12) [s.av, boo u, .rsl N 1 (byF b)] H (boo true) := by
  refine Tri.drop ?_
  refine tri_w0 Tryd.func12 (by kernel_rfl) rfl (by simp only [List.length_append, List.length_cons, List.length_nil, Tryd.ntmps12]; decide) ?_
  refine wps_cutG4 (m := fun _ => false) (σ := Nat × Nat × Nat) (fun y => MoreA s H y ∧ Ok s)
    (fun y => [(1, boo u), (2, .rsl N 1 (byF b)), (3, .rptr 1 2 (fun _ => s.cs) 0 0), (7, i64 s.sh.length), (8, .ref y.1 0 2 0 0), (9, .ref y.2.1 0 2 0 0), (10, .ref y.2.2 0 2 0 0)])
    (fun y => ((H.set y.1 (.box 2 1 fun _ => s.cs)).set y.2.1 (.box 2 1 fun _ => s.cs)).set y.2.2 (.box 2 1 fun _ => s.cs)) (fun _ => []) ?_ fun y hy => ?_
  · simp only [vsAll, loadA, loadRow, partA, partOk, boxA, boxZ, okAll, stAll, opsA, opA, dstOk, nilSliceOp, argFr, Nat.reduceAdd, Nat.reduceLT, Nat.reduceEqDiff, ↓reduceIte, eq_self, wtAll, Tryd.ntmps12]
    refine callK_pure (long0_tri s _) ?_
    simp only [vsAll, loadA, loadRow, partA, partOk, opA, guardV, dstOk, Nat.reduceLT, Nat.reduceEqDiff, ↓reduceIte, implies_true, eq_self, wtAll]
    refine gcall _ (fun g => ⟨by simp only [vsAll, opA], by simp only [vsAll, okAll, opsA, opA, ↓reduceIte, eq_self, g], rslip_tri s _ (lng_near (l := []) (by simpa using g)).1⟩) ?_
    simp only [vsAll, unA, pickA, opA, guardV, dstOk, Nat.reduceLT, Nat.reduceEqDiff, ↓reduceIte, implies_true, eq_self]
    refine condV (fun hf => ?_) (fun hf => ?_)
    · simp only [vsAll, okAll, stAll, opsA, opA, dstOk, Nat.reduceLT]
      refine callK_pure (alive_tri _) ?_
      simp only [vsAll, opA, dstOk, nilSliceOp, resA, retA.eq_1, Nat.reduceLT, ↓reduceIte, eq_self, Tryd.results12, CutG_ret]
      exact dropR_pure rfl (by (repeat (first | exact HSub_rfl | refine HSub_put_eq (by simp only [vsAll, binA, binLitA, intA, aggA, aggV, boolA, nilA2, isConst, unA, loadA, loadRow, partA, partOk, fieldAddrA, indexAddrA, indexA, fieldA, extractA, lenA, nilCheckA, boxA, boxZ, cellA, cellsA, fillA, okParts, buildSliceA, buildMutA, makeSliceA, partIdx, elemsA, lensA, ifaceA, convA, mmA, pickA, okAll, stAll, opsA, partsA, partsOk, opA, allocA, boxMutA, newCells, okCells, storeObj, appendA, guardV, taA, nM, mapUpA, lookA, sliceA, sliceS, boundsA, opO, okO, copyA, dstOk, nilA, quietOk, nilSliceOp, deferV, panA, resA, argFr, retA.eq_1, retA.eq_2, Nat.reduceAdd, Nat.reduceSub, Nat.reduceMul, Nat.reduceLT, Nat.reduceLeDiff, Nat.reduceEqDiff, Nat.reduceBEq, Int.reduceAdd, Int.reduceSub, Int.reduceMul, Int.reduceNeg, Int.reduceLE, Int.reduceLT, Int.reduceEq, Int.reduceNe, Int.reduceToNat, ↓reduceIte, reduceCtorEq, implies_true, forall_const, eq_self, ne_eq, wtAll, Tryd.ntmps12, Tryd.results12]) ?_ | refine HSub_drop2 (by simp only [vsAll, binA, binLitA, intA, aggA, aggV, boolA, nilA2, isConst, unA, loadA, loadRow, partA, partOk, fieldAddrA, indexAddrA, indexA, fieldA, extractA, lenA, nilCheckA, boxA, boxZ, cellA, cellsA, fillA, okParts, buildSliceA, buildMutA, makeSliceA, partIdx, elemsA, lensA, ifaceA, convA, mmA, pickA, okAll, stAll, opsA, partsA, partsOk, opA, allocA, boxMutA, newCells, okCells, storeObj, appendA, guardV, taA, nM, mapUpA, lookA, sliceA, sliceS, boundsA, opO, okO, copyA, dstOk, nilA, quietOk, nilSliceOp, deferV, panA, resA, argFr, retA.eq_1, retA.eq_2, Nat.reduceAdd, Nat.reduceSub, Nat.reduceMul, Nat.reduceLT, Nat.reduceLeDiff, Nat.reduceEqDiff, Nat.reduceBEq, Int.reduceAdd, Int.reduceSub, Int.reduceMul, Int.reduceNeg, Int.reduceLE, Int.reduceLT, Int.reduceEq, Int.reduceNe, Int.reduceToNat, ↓reduceIte, reduceCtorEq, implies_true, forall_const, eq_self, ne_eq, wtAll, Tryd.ntmps12, Tryd.results12]) ?_ | refine HSub_keep_eq (by simp only [vsAll, binA, binLitA, intA, aggA, aggV, boolA, nilA2, isConst, unA, loadA, loadRow, partA, partOk, fieldAddrA, indexAddrA, indexA, fieldA, extractA, lenA, nilCheckA, boxA, boxZ, cellA, cellsA, fillA, okParts, buildSliceA, buildMutA, makeSliceA, partIdx, elemsA, lensA, ifaceA, convA, mmA, pickA, okAll, stAll, opsA, partsA, partsOk, opA, allocA, boxMutA, newCells, okCells, storeObj, appendA, guardV, taA, nM, mapUpA, lookA, sliceA, sliceS, boundsA, opO, okO, copyA, dstOk, nilA, quietOk, nilSliceOp, deferV, panA, resA, argFr, retA.eq_1, retA.eq_2, Nat.reduceAdd, Nat.reduceSub, Nat.reduceMul, Nat.reduceLT, Nat.reduceLeDiff, Nat.reduceEqDiff, Nat.reduceBEq, Int.reduceAdd, Int.reduceSub, Int.reduceMul, Int.reduceNeg, Int.reduceLE, Int.reduceLT, Int.reduceEq, Int.reduceNe, Int.reduceToNat, ↓reduceIte, reduceCtorEq, implies_true, forall_const, eq_self, ne_eq, wtAll, Tryd.ntmps12, Tryd.results12]) ?_)))
    · rw [Bool.or_eq_false_iff] at hf
      have k : Ok s := by simpa using hf.2
      have nS := k.nS
      have nH := k.nH
      simp only [vsAll, loadA, loadRow, partA, partOk, fieldAddrA, lenA, opA, dstOk, nilSliceOp, Nat.reduceLT, Nat.reduceEqDiff, ↓reduceIte, eq_self, wtAll]
      refine vs_draw3 [3, 4, 5, 6, 7, 8] [([0, 0, 0, 1, 3, 5, 7, 9, 11], [([0, 1, 2], [0, 1, 2], 3), ([], [0, 1, 2], 4), ([], [0, 1, 2], 5), ([], [1, 2], 6), ([], [2], 7), ([], [], 8)], []), ([0, 0, 0, 1, 5, 3, 7, 9, 11], [([0, 1, 2], [0, 1, 2], 3), ([], [0, 1, 2], 5), ([], [0, 1, 2], 4), ([], [1, 2], 6), ([], [2], 7), ([], [], 8)], []), ([0, 0, 0, 3, 1, 5, 7, 9, 11], [([0, 1, 2], [0, 1, 2], 4), ([], [0, 1, 2], 3), ([], [0, 1, 2], 5), ([], [1, 2], 6), ([], [2], 7), ([], [], 8)], []), ([0, 0, 0, 5, 1, 3, 7, 9, 11], [([0, 1, 2], [0, 1, 2], 4), ([], [0, 1, 2], 5), ([], [0, 1, 2], 3), ([], [1, 2], 6), ([], [2], 7), ([], [], 8)], []), ([0, 0, 0, 3, 5, 1, 7, 9, 11], [([0, 1, 2], [0, 1, 2], 5), ([], [0, 1, 2], 3), ([], [0, 1, 2], 4), ([], [1, 2], 6), ([], [2], 7), ([], [], 8)], []), ([0, 0, 0, 5, 3, 1, 7, 9, 11], [([0, 1, 2], [0, 1, 2], 5), ([], [0, 1, 2], 4), ([], [0, 1, 2], 3), ([], [1, 2], 6), ([], [2], 7), ([], [], 8)], [])] (by decide +kernel) fun p hp => ?_
      simp only [List.mem_cons, List.not_mem_nil, or_false] at hp
      rcases hp with rfl | rfl | rfl | rfl | rfl | rfl
      · simp only [vsAll, loadA, loadRow, partA, partOk, cellA, cellsA, opA, allocA, newCells, okCells, storeObj, dstOk, Nat.reduceAdd, Nat.reduceLT, Nat.reduceEqDiff, ↓reduceIte, eq_self, wtAll]
        intro i8 hh_i8; (try simp only [Hp.set_none, ite_none] at hh_i8); intro i9 hh_i9; (try simp only [ite_none] at hh_i9); intro i10 hh_i10; (try simp only [ite_none] at hh_i10)
        simp only [vsAll, Nat.reduceLT, ↓reduceIte, eq_self, hh_i9, hh_i10]
        refine cutG_of (i8, i9, i10) ⟨?_, k⟩ (by simp only [vsAll, argFr, Nat.reduceEqDiff, ↓reduceIte, eq_self]) rfl ?_
        · constructor <;> simp_all
        exact HSub.set (HSub.set (HSub.set (HSub_drop2 (by simp only [eq_self, hh_i10]) (HSub_drop2 (by simp only [eq_self, hh_i9]) (HSub_drop2 (by simp only [eq_self, hh_i8]) HSub_rfl))) (.refl _)) (.refl _)) (.refl _)
      · simp only [vsAll, loadA, loadRow, partA, partOk, cellA, cellsA, opA, allocA, newCells, okCells, storeObj, dstOk, Nat.reduceAdd, Nat.reduceLT, Nat.reduceEqDiff, ↓reduceIte, eq_self, wtAll]
        intro i8 hh_i8; (try simp only [Hp.set_none, ite_none] at hh_i8); intro i10 hh_i10; (try simp only [ite_none] at hh_i10); intro i9 hh_i9; (try simp only [ite_none] at hh_i9)
        simp only [vsAll, Nat.reduceLT, ↓reduceIte, eq_self, hh_i10, hh_i9]
        refine cutG_of (i8, i9, i10) ⟨?_, k⟩ (by simp only [vsAll, argFr, Nat.reduceEqDiff, ↓reduceIte, eq_self]) rfl ?_
        · constructor <;> simp_all
        exact HSub.set (HSub.set (HSub.set (HSub_drop2 (by simp only [eq_self, hh_i9]) (HSub_drop2 (by simp only [eq_self, hh_i10]) (HSub_drop2 (by simp only [eq_self, hh_i8]) HSub_rfl))) (.refl _)) (.refl _)) (.refl _)
      · simp only [vsAll, loadA, loadRow, partA, partOk, cellA, cellsA, opA, allocA, newCells, okCells, storeObj, dstOk, Nat.reduceAdd, Nat.reduceLT, Nat.reduceEqDiff, ↓reduceIte, eq_self, wtAll]
        intro i9 hh_i9; (try simp only [Hp.set_none, ite_none] at hh_i9); intro i8 hh_i8; (try simp only [ite_none] at hh_i8); intro i10 hh_i10; (try simp only [ite_none] at hh_i10)
        simp only [vsAll, Nat.reduceLT, ↓reduceIte, eq_self, hh_i8, hh_i10]
        refine cutG_of (i8, i9, i10) ⟨?_, k⟩ (by simp only [vsAll, argFr, Nat.reduceEqDiff, ↓reduceIte, eq_self]) rfl ?_
        · constructor <;> simp_all
        exact HSub.set (HSub.set (HSub.set (HSub_drop2 (by simp only [eq_self, hh_i10]) (HSub_drop2 (by simp only [eq_self, hh_i8]) (HSub_drop2 (by simp only [eq_self, hh_i9]) HSub_rfl))) (.refl _)) (.refl _)) (.refl _)
      · simp only [vsAll, loadA, loadRow, partA, partOk, cellA, cellsA, opA, allocA, newCells, okCells, storeObj, dstOk, Nat.reduceAdd, Nat.reduceLT, Nat.reduceEqDiff, ↓reduceIte, eq_self, wtAll]
        intro i9 hh_i9; (try simp only [Hp.set_none, ite_none] at hh_i9); intro i10 hh_i10; (try simp only [ite_none] at hh_i10); intro i8 hh_i8; (try simp only [ite_none] at hh_i8)
        simp only [vsAll, Nat.reduceLT, ↓reduceIte, eq_self, hh_i10, hh_i8]
        refine cutG_of (i8, i9, i10) ⟨?_, k⟩ (by simp only [vsAll, argFr, Nat.reduceEqDiff, ↓reduceIte, eq_self]) rfl ?_
        · constructor <;> simp_all
        exact HSub.set (HSub.set (HSub.set (HSub_drop2 (by simp only [eq_self, hh_i8]) (HSub_drop2 (by simp only [eq_self, hh_i10]) (HSub_drop2 (by simp only [eq_self, hh_i9]) HSub_rfl))) (.refl _)) (.refl _)) (.refl _)
      · simp only [vsAll, loadA, loadRow, partA, partOk, cellA, cellsA, opA, allocA, newCells, okCells, storeObj, dstOk, Nat.reduceAdd, Nat.reduceLT, Nat.reduceEqDiff, ↓reduceIte, eq_self, wtAll]
        intro i10 hh_i10; (try simp only [Hp.set_none, ite_none] at hh_i10); intro i8 hh_i8; (try simp only [ite_none] at hh_i8); intro i9 hh_i9; (try simp only [ite_none] at hh_i9)
        simp only [vsAll, Nat.reduceLT, ↓reduceIte, eq_self, hh_i8, hh_i9]
        refine cutG_of (i8, i9, i10) ⟨?_, k⟩ (by simp only [vsAll, argFr, Nat.reduceEqDiff, ↓reduceIte, eq_self]) rfl ?_
        · constructor <;> simp_all
        exact HSub.set (HSub.set (HSub.set (HSub_drop2 (by simp only [eq_self, hh_i9]) (HSub_drop2 (by simp only [eq_self, hh_i8]) (HSub_drop2 (by simp only [eq_self, hh_i10]) HSub_rfl))) (.refl _)) (.refl _)) (.refl _)
      · simp only [vsAll, loadA, loadRow, partA, partOk, cellA, cellsA, opA, allocA, newCells, okCells, storeObj, dstOk, Nat.reduceAdd, Nat.reduceLT, Nat.reduceEqDiff, ↓reduceIte, eq_self, wtAll]
        intro i10 hh_i10; (try simp only [Hp.set_none, ite_none] at hh_i10); intro i9 hh_i9; (try simp only [ite_none] at hh_i9); intro i8 hh_i8; (try simp only [ite_none] at hh_i8)
        simp only [vsAll, Nat.reduceLT, ↓reduceIte, eq_self, hh_i9, hh_i8]
        refine cutG_of (i8, i9, i10) ⟨?_, k⟩ (by simp only [vsAll, argFr, Nat.reduceEqDiff, ↓reduceIte, eq_self]) rfl ?_
        · constructor <;> simp_all
        exact HSub.set (HSub.set (HSub.set (HSub_drop2 (by simp only [eq_self, hh_i8]) (HSub_drop2 (by simp only [eq_self, hh_i9]) (HSub_drop2 (by simp only [eq_self, hh_i10]) HSub_rfl))) (.refl _)) (.refl _)) (.refl _)
  · obtain ⟨i8, i9, i10⟩ := y
    obtain ⟨⟨h1, h2, h3, n12, n13, n23⟩, k⟩ := hy
    simp only [] at h1 h2 h3 n12 n13 n23
    have m12 : ¬ i9 = i8 := fun e => n12 e.symm
    have m13 : ¬ i10 = i8 := fun e => n13 e.symm
    have m23 : ¬ i10 = i9 := fun e => n23 e.symm
    skip
    have kn := k.near
    have nS := k.nS
    have nH := k.nH
    refine wps_cutG2 (m := fun _ => false) (σ := Unit) (fun _ => True)
      (fun _ => [(1, boo u), (2, .rsl N 1 (byF b)), (3, .rptr 1 2 (fun _ => s.cs) 0 0), (7, i64 s.sh.length), (8, .ref i8 0 2 0 0), (9, .ref i9 0 2 0 0), (10, .ref i10 0 2 0 0)])
      (fun _ => ((H.set i8 (.box 2 1 fun _ => (turnS s).cs)).set i9 (.box 2 1 fun _ => (zrS s).cs)).set i10 (.box 2 1 fun _ => [.lit (.slice none 0 0), shAV s.sh])) (fun _ => []) ?_ fun _ _ => ?_
    · simp only [vsAll, loadA, loadRow, partA, partOk, fieldAddrA, lenA, cellA, cellsA, opA, newCells, okCells, storeObj, dstOk, Nat.reduceAdd, Nat.reduceLT, Nat.reduceLeDiff, Nat.reduceEqDiff, ↓reduceIte, eq_self, wtAll, Tryd.ntmps12, n12, n13, n23, m12, m13, m23]
      refine vs_entL (Ent.nilBox 3 (shF []) (fun id _ => [spAV s.hs, .sl id 3 0]) (j := i8) (st' := 2) (n' := 1) (g := fun _ => [spAV s.hs, .lit (.slice none 0 0)]) (by simp only [vsAll, ↓reduceIte, eq_self, n12, n13]; try rfl) (fun _ _ _ => rfl) (fun id q d hq hd => ?_) fun is8 hs8 => ?_)
      · match d, hd with
        | 0, _ => exact .rfl
        | 1, _ => exact .hit
      simp only [Hp.set_none] at hs8
      skip
      refine vs_entL (Ent.nilBox 3 (shF []) (fun id _ => [spAV s.hs, .sl id 3 0]) (j := i9) (st' := 2) (n' := 1) (g := fun _ => [spAV s.hs, .lit (.slice none 0 0)]) (by simp only [vsAll, ↓reduceIte, eq_self, n23, m12, hs8]; try rfl) (fun _ _ _ => rfl) (fun id q d hq hd => ?_) fun is9 hs9 => ?_)
      · match d, hd with
        | 0, _ => exact .rfl
        | 1, _ => exact .hit
      simp only [Hp.set_none] at hs9
      skip
      refine vs_loop (σ := Nat) (fun i => i ≤ s.sh.length) (fun i => [(1, boo u), (2, .rsl N 1 (byF b)), (3, .rptr 1 2 (fun _ => s.cs) 0 0), (7, i64 s.sh.length), (8, .ref i8 0 2 0 0), (9, .ref i9 0 2 0 0), (10, .ref i10 0 2 0 0), (73, shAV s.sh), (74, i64 s.sh.length), (75, i64 i)])
        (fun i => ((((H.set is8 (.row 3 (bkL s.sh sh0 i).length (shF (bkL s.sh sh0 i)))).set is9 (.row 3 (zrL s i).length (shF (zrL s i)))).set i8 (.box 2 1 fun _ => [spAV s.hs, .sl is8 3 (bkL s.sh sh0 i).length])).set i9 (.box 2 1 fun _ => [spAV s.hs, .sl is9 3 (zrL s i).length])).set i10 (.box 2 1 fun _ => [.lit (.slice none 0 0), shAV s.sh])) (fun i => s.sh.length - i) 0 (Nat.zero_le _) ?_ ?_ fun i hi => ?_
      · simp only [vsAll, Nat.reduceEqDiff, ↓reduceIte, eq_self, Int.natCast_zero]
      · show Go.V.HSub _ (((((H.set is8 (.row 3 0 (shF []))).set is9 (.row 3 0 (shF []))).set i8 (.box 2 1 fun _ => [spAV s.hs, .sl is8 3 0])).set i9 (.box 2 1 fun _ => [spAV s.hs, .sl is9 3 0])).set i10 (.box 2 1 fun _ => [.lit (.slice none 0 0), shAV s.sh]))
        (repeat (first | exact HSub_rfl | refine HSub_put_eq (by simp only [vsAll, ↓reduceIte, eq_self, n12, m13, m23, hs8, hs9]) ?_ | refine HSub_drop2 (by simp only [eq_self, h1, h2, h3, hs8, hs9]) ?_ | refine HSub_keep_eq (by simp only [vsAll, binA, binLitA, intA, aggA, aggV, boolA, nilA2, isConst, unA, loadA, loadRow, partA, partOk, fieldAddrA, indexAddrA, indexA, fieldA, extractA, lenA, nilCheckA, boxA, boxZ, cellA, cellsA, fillA, okParts, buildSliceA, buildMutA, makeSliceA, partIdx, elemsA, lensA, ifaceA, convA, mmA, pickA, okAll, stAll, opsA, partsA, partsOk, opA, allocA, boxMutA, newCells, okCells, storeObj, appendA, guardV, taA, nM, mapUpA, lookA, sliceA, sliceS, boundsA, opO, okO, copyA, dstOk, nilA, quietOk, nilSliceOp, deferV, panA, resA, argFr, retA.eq_1, retA.eq_2, Nat.reduceAdd, Nat.reduceSub, Nat.reduceMul, Nat.reduceLT, Nat.reduceLeDiff, Nat.reduceEqDiff, Nat.reduceBEq, Int.reduceAdd, Int.reduceSub, Int.reduceMul, Int.reduceNeg, Int.reduceLE, Int.reduceLT, Int.reduceEq, Int.reduceNe, Int.reduceToNat, ↓reduceIte, reduceCtorEq, implies_true, forall_const, eq_self, ne_eq, wtAll, Tryd.ntmps12, Tryd.results12, h1, h2, h3, n12, n13, n23, m12, m13, m23, hs8, hs9]) ?_))
      · have lb := bkL_len s.sh sh0 i
        have lz := zrL_len s i
        simp only [vsAll, binA, binLitA, intA, opA, dstOk, Nat.reduceLT, Nat.reduceEqDiff, ↓reduceIte, eq_self]
        refine condD (fun hd => ?_) (fun hd => ?_)
        · have his : i < s.sh.length := by ((try clear h1); (try clear h2); (try clear h3); (try clear n12); (try clear n13); (try clear n23); (try clear m12); (try clear m13); (try clear m23); (try clear hs8); (try clear hs9); omega)
          have eb : bkL s.sh sh0 (i + 1) = bkL s.sh sh0 i ++ [s.sh.getD (s.sh.length - 1 - i) sh0] := rfl
          have ez : zrL s (i + 1) = zrL s i ++ [⟨0, (s.sh.getD i sh0).nd, (s.sh.getD i sh0).td⟩] := rfl
          have ei : (s.sh.length : Int) - 1 - i = ((s.sh.length - 1 - i : Nat) : Int) := by ((try clear h1); (try clear h2); (try clear h3); (try clear n12); (try clear n13); (try clear n23); (try clear m12); (try clear m13); (try clear m23); (try clear hs8); (try clear hs9); omega)
          simp only [vsAll, loadA, loadRow, partA, partOk, indexAddrA, cellA, cellsA, opA, allocA, newCells, okCells, storeObj, dstOk, nilSliceOp, Nat.reduceAdd, Nat.reduceLT, Nat.reduceEqDiff, ↓reduceIte, eq_self, wtAll, shF_at]
          refine ⟨⟨by ((try clear h1); (try clear h2); (try clear h3); (try clear n12); (try clear n13); (try clear n23); (try clear m12); (try clear m13); (try clear m23); (try clear hs8); (try clear hs9); omega), by ((try clear h1); (try clear h2); (try clear h3); (try clear n12); (try clear n13); (try clear n23); (try clear m12); (try clear m13); (try clear m23); (try clear hs8); (try clear hs9); omega)⟩, his, ?_⟩
          intro i12 hh_i12; (try simp only [ite_none] at hh_i12)
          refine vs_draw2 [0, 0, 0, 0, 0, 0, 0, 0, 0, 0, 0, 1, 2, 3] [([0, 1, 2, 3, 4, 5, 6, 7, 8, 9, 10], [], 11), ([12], [], 13)] [] (by decide +kernel) ?_
          simp only [vsAll, binA, binLitA, intA, loadA, loadRow, partA, partOk, fieldAddrA, indexAddrA, cellA, cellsA, okParts, buildSliceA, partIdx, elemsA, lensA, partsA, partsOk, opA, newCells, okCells, storeObj, appendA, dstOk, Nat.reduceAdd, Nat.reduceMul, Nat.reduceLT, Nat.reduceLeDiff, Nat.reduceEqDiff, ↓reduceIte, eq_self, wtAll, n12, n13, n23, m12, hs8, hs9, hh_i12, shF_at, ei]
          refine ⟨by simp only [InR_i64]; ((try clear h1); (try clear h2); (try clear h3); (try clear n12); (try clear n13); (try clear n23); (try clear m12); (try clear m13); (try clear m23); (try clear hs8); (try clear hs9); (try clear hh_i12); omega), by simp only [InR_i64]; ((try clear h1); (try clear h2); (try clear h3); (try clear n12); (try clear n13); (try clear n23); (try clear m12); (try clear m13); (try clear m23); (try clear hs8); (try clear hs9); (try clear hh_i12); omega), by ((try clear h1); (try clear h2); (try clear h3); (try clear n12); (try clear n13); (try clear n23); (try clear m12); (try clear m13); (try clear m23); (try clear hs8); (try clear hs9); (try clear hh_i12); omega), by ((try clear h1); (try clear h2); (try clear h3); (try clear n12); (try clear n13); (try clear n23); (try clear m12); (try clear m13); (try clear m23); (try clear hs8); (try clear hs9); (try clear hh_i12); omega), fun q hq => by (have : q = 0 := by ((try clear h1); (try clear h2); (try clear h3); (try clear n12); (try clear n13); (try clear n23); (try clear m12); (try clear m13); (try clear m23); (try clear hs8); (try clear hs9); (try clear hh_i12); omega)); subst this; exact ⟨rfl, rfl, rfl, trivial⟩, by ((try clear h1); (try clear h2); (try clear h3); (try clear n12); (try clear n13); (try clear n23); (try clear m12); (try clear m13); (try clear m23); (try clear hs8); (try clear hs9); (try clear hh_i12); omega), by ((try clear h1); (try clear h2); (try clear h3); (try clear n12); (try clear n13); (try clear n23); (try clear m12); (try clear m13); (try clear m23); (try clear hs8); (try clear hs9); (try clear hh_i12); omega), fun q hq => by (have : q = 0 := by ((try clear h1); (try clear h2); (try clear h3); (try clear n12); (try clear n13); (try clear n23); (try clear m12); (try clear m13); (try clear m23); (try clear hs8); (try clear hs9); (try clear hh_i12); omega)); subst this; exact ⟨rfl, rfl, rfl, trivial⟩, by ((try clear h1); (try clear h2); (try clear h3); (try clear n12); (try clear n13); (try clear n23); (try clear m12); (try clear m13); (try clear m23); (try clear hs8); (try clear hs9); (try clear hh_i12); omega), by ((try clear h1); (try clear h2); (try clear h3); (try clear n12); (try clear n13); (try clear n23); (try clear m12); (try clear m13); (try clear m23); (try clear hs8); (try clear hs9); (try clear hh_i12); omega), by simp only [InR_i64]; ((try clear h1); (try clear h2); (try clear h3); (try clear n12); (try clear n13); (try clear n23); (try clear m12); (try clear m13); (try clear m23); (try clear hs8); (try clear hs9); (try clear hh_i12); omega), loop_next (i + 1) (by ((try clear h1); (try clear h2); (try clear h3); (try clear n12); (try clear n13); (try clear n23); (try clear m12); (try clear m13); (try clear m23); (try clear hs8); (try clear hs9); (try clear hh_i12); omega)) (by ((try clear h1); (try clear h2); (try clear h3); (try clear n12); (try clear n13); (try clear n23); (try clear m12); (try clear m13); (try clear m23); (try clear hs8); (try clear hs9); (try clear hh_i12); omega)) ?_ ?_⟩
          · simp only [vsAll, Nat.reduceEqDiff, ↓reduceIte, eq_self, Int.natCast_add, Int.natCast_one]
          · rw [app_sh _ (s.sh.getD (s.sh.length - 1 - i) sh0) _ rfl, app_sh _ (⟨0, (s.sh.getD i sh0).nd, (s.sh.getD i sh0).td⟩ : Sh) _ rfl, eb, ez]
            simp only [List.length_append, List.length_cons, List.length_nil, Nat.zero_add]
            (repeat (first | exact HSub_rfl | refine HSub_put_eq (by simp only [vsAll, ↓reduceIte, eq_self, n12, m13, m23, hs8, hs9, hh_i12]) ?_ | refine HSub_drop2 (by simp only [eq_self, h1, h2, h3, hs8, hs9, hh_i12]) ?_ | refine HSub_keep_eq (by simp only [vsAll, binA, binLitA, intA, aggA, aggV, boolA, nilA2, isConst, unA, loadA, loadRow, partA, partOk, fieldAddrA, indexAddrA, indexA, fieldA, extractA, lenA, nilCheckA, boxA, boxZ, cellA, cellsA, fillA, okParts, buildSliceA, buildMutA, makeSliceA, partIdx, elemsA, lensA, ifaceA, convA, mmA, pickA, okAll, stAll, opsA, partsA, partsOk, opA, allocA, boxMutA, newCells, okCells, storeObj, appendA, guardV, taA, nM, mapUpA, lookA, sliceA, sliceS, boundsA, opO, okO, copyA, dstOk, nilA, quietOk, nilSliceOp, deferV, panA, resA, argFr, retA.eq_1, retA.eq_2, Nat.reduceAdd, Nat.reduceSub, Nat.reduceMul, Nat.reduceLT, Nat.reduceLeDiff, Nat.reduceEqDiff, Nat.reduceBEq, Int.reduceAdd, Int.reduceSub, Int.reduceMul, Int.reduceNeg, Int.reduceLE, Int.reduceLT, Int.reduceEq, Int.reduceNe, Int.reduceToNat, ↓reduceIte, reduceCtorEq, implies_true, forall_const, eq_self, ne_eq, wtAll, Tryd.ntmps12, Tryd.results12, h1, h2, h3, n12, n13, n23, m12, m13, m23, hs8, hs9, hh_i12]) ?_))
        · have ei : i = s.sh.length := by ((try clear h1); (try clear h2); (try clear h3); (try clear n12); (try clear n13); (try clear n23); (try clear m12); (try clear m13); (try clear m23); (try clear hs8); (try clear hs9); omega)
          subst ei
          simp only [vsAll, ↓reduceIte, eq_self]
          refine cutG_ent (Ent.weak (fun t => AV.Le.refl _) (H' := ((((H.set is8 (.row 3 (bkL s.sh sh0 s.sh.length).length (shF (bkL s.sh sh0 s.sh.length)))).set is9 (.row 3 (zrL s s.sh.length).length (shF (zrL s s.sh.length)))).set i8 (.box 2 1 fun _ => [spAV s.hs, .sl is8 3 (bkL s.sh sh0 s.sh.length).length])).set i9 (.box 2 1 fun _ => [spAV s.hs, .sl is9 3 (zrL s s.sh.length).length])).set i10 (.box 2 1 fun _ => [.lit (.slice none 0 0), shAV s.sh])) (by (repeat (first | exact HSub_rfl | refine HSub_put_eq (by simp only [vsAll, binA, binLitA, intA, aggA, aggV, boolA, nilA2, isConst, unA, loadA, loadRow, partA, partOk, fieldAddrA, indexAddrA, indexA, fieldA, extractA, lenA, nilCheckA, boxA, boxZ, cellA, cellsA, fillA, okParts, buildSliceA, buildMutA, makeSliceA, partIdx, elemsA, lensA, ifaceA, convA, mmA, pickA, okAll, stAll, opsA, partsA, partsOk, opA, allocA, boxMutA, newCells, okCells, storeObj, appendA, guardV, taA, nM, mapUpA, lookA, sliceA, sliceS, boundsA, opO, okO, copyA, dstOk, nilA, quietOk, nilSliceOp, deferV, panA, resA, argFr, retA.eq_1, retA.eq_2, Nat.reduceAdd, Nat.reduceSub, Nat.reduceMul, Nat.reduceLT, Nat.reduceLeDiff, Nat.reduceEqDiff, Nat.reduceBEq, Int.reduceAdd, Int.reduceSub, Int.reduceMul, Int.reduceNeg, Int.reduceLE, Int.reduceLT, Int.reduceEq, Int.reduceNe, Int.reduceToNat, ↓reduceIte, reduceCtorEq, implies_true, forall_const, eq_self, ne_eq, wtAll, Tryd.ntmps12, Tryd.results12, h1, h2, h3, n12, n13, n23, m12, m13, m23, hs8, hs9]) ?_ | refine HSub_drop2 (by simp only [vsAll, binA, binLitA, intA, aggA, aggV, boolA, nilA2, isConst, unA, loadA, loadRow, partA, partOk, fieldAddrA, indexAddrA, indexA, fieldA, extractA, lenA, nilCheckA, boxA, boxZ, cellA, cellsA, fillA, okParts, buildSliceA, buildMutA, makeSliceA, partIdx, elemsA, lensA, ifaceA, convA, mmA, pickA, okAll, stAll, opsA, partsA, partsOk, opA, allocA, boxMutA, newCells, okCells, storeObj, appendA, guardV, taA, nM, mapUpA, lookA, sliceA, sliceS, boundsA, opO, okO, copyA, dstOk, nilA, quietOk, nilSliceOp, deferV, panA, resA, argFr, retA.eq_1, retA.eq_2, Nat.reduceAdd, Nat.reduceSub, Nat.reduceMul, Nat.reduceLT, Nat.reduceLeDiff, Nat.reduceEqDiff, Nat.reduceBEq, Int.reduceAdd, Int.reduceSub, Int.reduceMul, Int.reduceNeg, Int.reduceLE, Int.reduceLT, Int.reduceEq, Int.reduceNe, Int.reduceToNat, ↓reduceIte, reduceCtorEq, implies_true, forall_const, eq_self, ne_eq, wtAll, Tryd.ntmps12, Tryd.results12, h1, h2, h3, n12, n13, n23, m12, m13, m23, hs8, hs9]) ?_ | refine HSub_keep_eq (by simp only [vsAll, binA, binLitA, intA, aggA, aggV, boolA, nilA2, isConst, unA, loadA, loadRow, partA, partOk, fieldAddrA, indexAddrA, indexA, fieldA, extractA, lenA, nilCheckA, boxA, boxZ, cellA, cellsA, fillA, okParts, buildSliceA, buildMutA, makeSliceA, partIdx, elemsA, lensA, ifaceA, convA, mmA, pickA, okAll, stAll, opsA, partsA, partsOk, opA, allocA, boxMutA, newCells, okCells, storeObj, appendA, guardV, taA, nM, mapUpA, lookA, sliceA, sliceS, boundsA, opO, okO, copyA, dstOk, nilA, quietOk, nilSliceOp, deferV, panA, resA, argFr, retA.eq_1, retA.eq_2, Nat.reduceAdd, Nat.reduceSub, Nat.reduceMul, Nat.reduceLT, Nat.reduceLeDiff, Nat.reduceEqDiff, Nat.reduceBEq, Int.reduceAdd, Int.reduceSub, Int.reduceMul, Int.reduceNeg, Int.reduceLE, Int.reduceLT, Int.reduceEq, Int.reduceNe, Int.reduceToNat, ↓reduceIte, reduceCtorEq, implies_true, forall_const, eq_self, ne_eq, wtAll, Tryd.ntmps12, Tryd.results12, h1, h2, h3, n12, n13, n23, m12, m13, m23, hs8, hs9]) ?_))) ?_)
          refine cutG_ent (Ent.freezeBox (id := is8) (st := 3) (n := (bkL s.sh sh0 s.sh.length).length) (f := shF (bkL s.sh sh0 s.sh.length)) (j := i8) (st' := 2) (n' := 1) (g := fun _ => [spAV s.hs, .sl is8 3 (bkL s.sh sh0 s.sh.length).length]) (g' := fun _ => (turnS s).cs) (by simp only [vsAll, ↓reduceIte, eq_self, hs8, hs9]) (by simp only [vsAll, ↓reduceIte, eq_self, n12, n13]) (fun t => .rfl) (fun _ _ => rfl) (fun q c hq hc => ?_) ?_)
          · match c, hc with
            | 0, _ => exact .rfl
            | 1, _ => exact .hit
          refine cutG_ent (Ent.freezeBox (id := is9) (st := 3) (n := (zrL s s.sh.length).length) (f := shF (zrL s s.sh.length)) (j := i9) (st' := 2) (n' := 1) (g := fun _ => [spAV s.hs, .sl is9 3 (zrL s s.sh.length).length]) (g' := fun _ => (zrS s).cs) ?_ ?_ (fun t => .rfl) (fun _ _ => rfl) (fun q c hq hc => ?_) ?_)
          · rw [Hp.set_ne _ _ (by first | exact hs9.1.1.1 | exact hs9.1.1.2 | simp_all), Hp.del_ne _ (by simp_all)]; simp only [vsAll, ↓reduceIte, eq_self, hs9]
          · rw [Hp.set_ne _ _ (by simp_all), Hp.del_ne _ (by simp_all)]; simp only [vsAll, ↓reduceIte, eq_self, n23]
          · match c, hc with
            | 0, _ => exact .rfl
            | 1, _ => exact .hit
          refine cutG_of () trivial (by simp only [vsAll, Nat.reduceEqDiff, ↓reduceIte, eq_self]) rfl (HSub_eqn fun q => ?_)
          obtain ⟨⟨a1, a2⟩, ⟨a3, a4⟩, ⟨a5, a6⟩, a7⟩ : (¬ is8 = i8 ∧ ¬ i8 = is8) ∧ (¬ is8 = i9 ∧ ¬ i9 = is8) ∧ (¬ is8 = i10 ∧ ¬ i10 = is8) ∧ H is8 = none := by simp_all
          obtain ⟨⟨b1, b2⟩, ⟨b3, b4⟩, ⟨b5, b6⟩, b7, b8, b9⟩ : (¬ is9 = i8 ∧ ¬ i8 = is9) ∧ (¬ is9 = i9 ∧ ¬ i9 = is9) ∧ (¬ is9 = i10 ∧ ¬ i10 = is9) ∧ H is9 = none ∧ ¬ is9 = is8 ∧ ¬ is8 = is9 := by simp_all
          clear hs8 hs9
          simp only [Hp.set, Hp.del]
          by_cases e1 : q = is8
          · subst e1; left; simp only [a1, a3, a5, a7, if_false]
          by_cases e2 : q = is9
          · subst e2; left; simp only [b1, b3, b5, b7, if_false]
          right
          by_cases e10 : q = i10
          · subst e10; simp only [m23, m13, a6, b6, if_true, if_false]
          by_cases e9 : q = i9
          · subst e9; simp only [n23, m12, if_true, if_false]
          by_cases e8 : q = i8
          · subst e8; simp only [n13, n12, b2, if_true, if_false]
          simp only [e1, e2, e10, e9, e8, if_false]
    · refine wps_cutG2 (m := fun _ => false) (σ := Unit) (fun _ => True)
        (fun _ => [(1, boo u), (2, .rsl N 1 (byF b)), (3, .rptr 1 2 (fun _ => s.cs) 0 0), (7, i64 s.sh.length), (8, .ref i8 0 2 0 0), (9, .ref i9 0 2 0 0), (10, .ref i10 0 2 0 0)])
        (fun _ => ((H.set i8 (.box 2 1 fun _ => (turnS s).cs)).set i9 (.box 2 1 fun _ => (zrS s).cs)).set i10 (.box 2 1 fun _ => (rvS (zrS s)).cs)) (fun _ => []) ?_ fun _ _ => ?_
      · simp only [vsAll, loadA, loadRow, partA, partOk, fieldAddrA, lenA, cellA, cellsA, opA, newCells, okCells, storeObj, dstOk, Nat.reduceAdd, Nat.reduceLT, Nat.reduceEqDiff, ↓reduceIte, eq_self, wtAll, Tryd.ntmps12, n23]
        refine vs_entL (Ent.nilBox 2 (spF []) (fun id _ => [.sl id 2 0, shAV (zrS s).sh]) (j := i10) (st' := 2) (n' := 1) (g := fun _ => [.lit (.slice none 0 0), shAV (zrS s).sh]) (by simp only [vsAll, ↓reduceIte, eq_self]; try rfl) (fun _ _ _ => rfl) (fun id q d hq hd => ?_) fun ih hih => ?_)
        · match d, hd with
          | 0, _ => exact .hit
          | 1, _ => exact .rfl
        simp only [Hp.set_none] at hih
        skip
        refine vs_loop (σ := Nat) (fun i => i ≤ s.hs.length) (fun i => [(1, boo u), (2, .rsl N 1 (byF b)), (3, .rptr 1 2 (fun _ => s.cs) 0 0), (7, i64 s.sh.length), (8, .ref i8 0 2 0 0), (9, .ref i9 0 2 0 0), (10, .ref i10 0 2 0 0), (105, spAV s.hs), (106, i64 s.hs.length), (107, i64 i)])
          (fun i => (((H.set i8 (.box 2 1 fun _ => (turnS s).cs)).set i9 (.box 2 1 fun _ => (zrS s).cs)).set ih (.row 2 (bkL s.hs (0, 0) i).length (spF (bkL s.hs (0, 0) i)))).set i10 (.box 2 1 fun _ => [.sl ih 2 (bkL s.hs (0, 0) i).length, shAV (zrS s).sh])) (fun i => s.hs.length - i) 0 (Nat.zero_le _) ?_ ?_ fun i hi => ?_
        · simp only [vsAll, Nat.reduceEqDiff, ↓reduceIte, eq_self, Int.natCast_zero]
        · show Go.V.HSub _ ((((H.set i8 (.box 2 1 fun _ => (turnS s).cs)).set i9 (.box 2 1 fun _ => (zrS s).cs)).set ih (.row 2 0 (spF []))).set i10 (.box 2 1 fun _ => [.sl ih 2 0, shAV (zrS s).sh]))
          (repeat (first | exact HSub_rfl | refine HSub_put_eq (by simp only [vsAll, ↓reduceIte, eq_self, n12, n13, n23, hih]) ?_ | refine HSub_drop2 (by simp only [eq_self, h1, h2, h3, hih]) ?_ | refine HSub_keep_eq (by simp only [vsAll, binA, binLitA, intA, aggA, aggV, boolA, nilA2, isConst, unA, loadA, loadRow, partA, partOk, fieldAddrA, indexAddrA, indexA, fieldA, extractA, lenA, nilCheckA, boxA, boxZ, cellA, cellsA, fillA, okParts, buildSliceA, buildMutA, makeSliceA, partIdx, elemsA, lensA, ifaceA, convA, mmA, pickA, okAll, stAll, opsA, partsA, partsOk, opA, allocA, boxMutA, newCells, okCells, storeObj, appendA, guardV, taA, nM, mapUpA, lookA, sliceA, sliceS, boundsA, opO, okO, copyA, dstOk, nilA, quietOk, nilSliceOp, deferV, panA, resA, argFr, retA.eq_1, retA.eq_2, Nat.reduceAdd, Nat.reduceSub, Nat.reduceMul, Nat.reduceLT, Nat.reduceLeDiff, Nat.reduceEqDiff, Nat.reduceBEq, Int.reduceAdd, Int.reduceSub, Int.reduceMul, Int.reduceNeg, Int.reduceLE, Int.reduceLT, Int.reduceEq, Int.reduceNe, Int.reduceToNat, ↓reduceIte, reduceCtorEq, implies_true, forall_const, eq_self, ne_eq, wtAll, Tryd.ntmps12, Tryd.results12, h1, h2, h3, n12, n13, n23, m12, m13, m23, hih]) ?_))
        · have lb := bkL_len s.hs (0, 0) i
          simp only [vsAll, binA, binLitA, intA, opA, dstOk, Nat.reduceLT, Nat.reduceEqDiff, ↓reduceIte, eq_self]
          refine condD (fun hd => ?_) (fun hd => ?_)
          · have his : i < s.hs.length := by ((try clear h1); (try clear h2); (try clear h3); (try clear n12); (try clear n13); (try clear n23); (try clear m12); (try clear m13); (try clear m23); (try clear hih); omega)
            have eb : bkL s.hs (0, 0) (i + 1) = bkL s.hs (0, 0) i ++ [s.hs.getD (s.hs.length - 1 - i) (0, 0)] := rfl
            have ei : (s.hs.length : Int) - 1 - i = ((s.hs.length - 1 - i : Nat) : Int) := by ((try clear h1); (try clear h2); (try clear h3); (try clear n12); (try clear n13); (try clear n23); (try clear m12); (try clear m13); (try clear m23); (try clear hih); omega)
            simp only [vsAll, opA, dstOk, nilSliceOp, Nat.reduceLT, Nat.reduceEqDiff, ↓reduceIte, eq_self]
            refine vs_draw2 [0, 0, 0, 0, 0, 0, 0, 0, 0, 0, 0, 0, 0, 1, 2, 3] [([0, 1, 2, 3, 4, 5, 6, 7, 8, 9, 10, 11, 12], [], 13), ([14], [], 15)] [] (by decide +kernel) ?_
            simp only [vsAll, binA, binLitA, intA, loadA, loadRow, partA, partOk, fieldAddrA, indexAddrA, lenA, cellA, cellsA, okParts, buildSliceA, partIdx, elemsA, lensA, partsA, partsOk, opA, newCells, okCells, storeObj, appendA, dstOk, Nat.reduceAdd, Nat.reduceMul, Nat.reduceLT, Nat.reduceLeDiff, Nat.reduceEqDiff, ↓reduceIte, eq_self, wtAll, hih, spF_at, ei]
            refine ⟨by simp only [InR_i64]; ((try clear h1); (try clear h2); (try clear h3); (try clear n12); (try clear n13); (try clear n23); (try clear m12); (try clear m13); (try clear m23); (try clear hih); omega), by simp only [InR_i64]; ((try clear h1); (try clear h2); (try clear h3); (try clear n12); (try clear n13); (try clear n23); (try clear m12); (try clear m13); (try clear m23); (try clear hih); omega), by ((try clear h1); (try clear h2); (try clear h3); (try clear n12); (try clear n13); (try clear n23); (try clear m12); (try clear m13); (try clear m23); (try clear hih); omega), by ((try clear h1); (try clear h2); (try clear h3); (try clear n12); (try clear n13); (try clear n23); (try clear m12); (try clear m13); (try clear m23); (try clear hih); omega), fun q hq => by (have : q = 0 := by ((try clear h1); (try clear h2); (try clear h3); (try clear n12); (try clear n13); (try clear n23); (try clear m12); (try clear m13); (try clear m23); (try clear hih); omega)); subst this; exact ⟨rfl, rfl, trivial⟩, by ((try clear h1); (try clear h2); (try clear h3); (try clear n12); (try clear n13); (try clear n23); (try clear m12); (try clear m13); (try clear m23); (try clear hih); omega), by ((try clear h1); (try clear h2); (try clear h3); (try clear n12); (try clear n13); (try clear n23); (try clear m12); (try clear m13); (try clear m23); (try clear hih); omega), by simp only [InR_i64]; ((try clear h1); (try clear h2); (try clear h3); (try clear n12); (try clear n13); (try clear n23); (try clear m12); (try clear m13); (try clear m23); (try clear hih); omega), loop_next (i + 1) (by ((try clear h1); (try clear h2); (try clear h3); (try clear n12); (try clear n13); (try clear n23); (try clear m12); (try clear m13); (try clear m23); (try clear hih); omega)) (by ((try clear h1); (try clear h2); (try clear h3); (try clear n12); (try clear n13); (try clear n23); (try clear m12); (try clear m13); (try clear m23); (try clear hih); omega)) ?_ ?_⟩
            · simp only [vsAll, Nat.reduceEqDiff, ↓reduceIte, eq_self, Int.natCast_add, Int.natCast_one]
            · rw [app_sp _ (s.hs.getD (s.hs.length - 1 - i) (0, 0)) _ rfl, eb]
              simp only [List.length_append, List.length_cons, List.length_nil, Nat.zero_add]
              (repeat (first | exact HSub_rfl | refine HSub_put_eq (by simp only [vsAll, ↓reduceIte, eq_self, n12, n13, n23, hih]) ?_ | refine HSub_drop2 (by simp only [eq_self, h1, h2, h3, hih]) ?_ | refine HSub_keep_eq (by simp only [vsAll, binA, binLitA, intA, aggA, aggV, boolA, nilA2, isConst, unA, loadA, loadRow, partA, partOk, fieldAddrA, indexAddrA, indexA, fieldA, extractA, lenA, nilCheckA, boxA, boxZ, cellA, cellsA, fillA, okParts, buildSliceA, buildMutA, makeSliceA, partIdx, elemsA, lensA, ifaceA, convA, mmA, pickA, okAll, stAll, opsA, partsA, partsOk, opA, allocA, boxMutA, newCells, okCells, storeObj, appendA, guardV, taA, nM, mapUpA, lookA, sliceA, sliceS, boundsA, opO, okO, copyA, dstOk, nilA, quietOk, nilSliceOp, deferV, panA, resA, argFr, retA.eq_1, retA.eq_2, Nat.reduceAdd, Nat.reduceSub, Nat.reduceMul, Nat.reduceLT, Nat.reduceLeDiff, Nat.reduceEqDiff, Nat.reduceBEq, Int.reduceAdd, Int.reduceSub, Int.reduceMul, Int.reduceNeg, Int.reduceLE, Int.reduceLT, Int.reduceEq, Int.reduceNe, Int.reduceToNat, ↓reduceIte, reduceCtorEq, implies_true, forall_const, eq_self, ne_eq, wtAll, Tryd.ntmps12, Tryd.results12, h1, h2, h3, n12, n13, n23, m12, m13, m23, hih]) ?_))
          · have ei : i = s.hs.length := by ((try clear h1); (try clear h2); (try clear h3); (try clear n12); (try clear n13); (try clear n23); (try clear m12); (try clear m13); (try clear m23); (try clear hih); omega)
            subst ei
            simp only [vsAll, ↓reduceIte, eq_self]
            refine cutG_ent (Ent.weak (fun t => AV.Le.refl _) (H' := (((H.set i8 (.box 2 1 fun _ => (turnS s).cs)).set i9 (.box 2 1 fun _ => (zrS s).cs)).set ih (.row 2 (bkL s.hs (0, 0) s.hs.length).length (spF (bkL s.hs (0, 0) s.hs.length)))).set i10 (.box 2 1 fun _ => [.sl ih 2 (bkL s.hs (0, 0) s.hs.length).length, shAV (zrS s).sh])) (by (repeat (first | exact HSub_rfl | refine HSub_put_eq (by simp only [vsAll, binA, binLitA, intA, aggA, aggV, boolA, nilA2, isConst, unA, loadA, loadRow, partA, partOk, fieldAddrA, indexAddrA, indexA, fieldA, extractA, lenA, nilCheckA, boxA, boxZ, cellA, cellsA, fillA, okParts, buildSliceA, buildMutA, makeSliceA, partIdx, elemsA, lensA, ifaceA, convA, mmA, pickA, okAll, stAll, opsA, partsA, partsOk, opA, allocA, boxMutA, newCells, okCells, storeObj, appendA, guardV, taA, nM, mapUpA, lookA, sliceA, sliceS, boundsA, opO, okO, copyA, dstOk, nilA, quietOk, nilSliceOp, deferV, panA, resA, argFr, retA.eq_1, retA.eq_2, Nat.reduceAdd, Nat.reduceSub, Nat.reduceMul, Nat.reduceLT, Nat.reduceLeDiff, Nat.reduceEqDiff, Nat.reduceBEq, Int.reduceAdd, Int.reduceSub, Int.reduceMul, Int.reduceNeg, Int.reduceLE, Int.reduceLT, Int.reduceEq, Int.reduceNe, Int.reduceToNat, ↓reduceIte, reduceCtorEq, implies_true, forall_const, eq_self, ne_eq, wtAll, Tryd.ntmps12, Tryd.results12, h1, h2, h3, n12, n13, n23, m12, m13, m23, hih]) ?_ | refine HSub_drop2 (by simp only [vsAll, binA, binLitA, intA, aggA, aggV, boolA, nilA2, isConst, unA, loadA, loadRow, partA, partOk, fieldAddrA, indexAddrA, indexA, fieldA, extractA, lenA, nilCheckA, boxA, boxZ, cellA, cellsA, fillA, okParts, buildSliceA, buildMutA, makeSliceA, partIdx, elemsA, lensA, ifaceA, convA, mmA, pickA, okAll, stAll, opsA, partsA, partsOk, opA, allocA, boxMutA, newCells, okCells, storeObj, appendA, guardV, taA, nM, mapUpA, lookA, sliceA, sliceS, boundsA, opO, okO, copyA, dstOk, nilA, quietOk, nilSliceOp, deferV, panA, resA, argFr, retA.eq_1, retA.eq_2, Nat.reduceAdd, Nat.reduceSub, Nat.reduceMul, Nat.reduceLT, Nat.reduceLeDiff, Nat.reduceEqDiff, Nat.reduceBEq, Int.reduceAdd, Int.reduceSub, Int.reduceMul, Int.reduceNeg, Int.reduceLE, Int.reduceLT, Int.reduceEq, Int.reduceNe, Int.reduceToNat, ↓reduceIte, reduceCtorEq, implies_true, forall_const, eq_self, ne_eq, wtAll, Tryd.ntmps12, Tryd.results12, h1, h2, h3, n12, n13, n23, m12, m13, m23, hih]) ?_ | refine HSub_keep_eq (by simp only [vsAll, binA, binLitA, intA, aggA, aggV, boolA, nilA2, isConst, unA, loadA, loadRow, partA, partOk, fieldAddrA, indexAddrA, indexA, fieldA, extractA, lenA, nilCheckA, boxA, boxZ, cellA, cellsA, fillA, okParts, buildSliceA, buildMutA, makeSliceA, partIdx, elemsA, lensA, ifaceA, convA, mmA, pickA, okAll, stAll, opsA, partsA, partsOk, opA, allocA, boxMutA, newCells, okCells, storeObj, appendA, guardV, taA, nM, mapUpA, lookA, sliceA, sliceS, boundsA, opO, okO, copyA, dstOk, nilA, quietOk, nilSliceOp, deferV, panA, resA, argFr, retA.eq_1, retA.eq_2, Nat.reduceAdd, Nat.reduceSub, Nat.reduceMul, Nat.reduceLT, Nat.reduceLeDiff, Nat.reduceEqDiff, Nat.reduceBEq, Int.reduceAdd, Int.reduceSub, Int.reduceMul, Int.reduceNeg, Int.reduceLE, Int.reduceLT, Int.reduceEq, Int.reduceNe, Int.reduceToNat, ↓reduceIte, reduceCtorEq, implies_true, forall_const, eq_self, ne_eq, wtAll, Tryd.ntmps12, Tryd.results12, h1, h2, h3, n12, n13, n23, m12, m13, m23, hih]) ?_))) ?_)
            refine cutG_ent (Ent.freezeBox (id := ih) (st := 2) (n := (bkL s.hs (0, 0) s.hs.length).length) (f := spF (bkL s.hs (0, 0) s.hs.length)) (j := i10) (st' := 2) (n' := 1) (g := fun _ => [.sl ih 2 (bkL s.hs (0, 0) s.hs.length).length, shAV (zrS s).sh]) (g' := fun _ => (rvS (zrS s)).cs) (by simp only [vsAll, ↓reduceIte, eq_self, hih]) (by simp only [vsAll, ↓reduceIte, eq_self]) (fun t => .rfl) (fun _ _ => rfl) (fun q c hq hc => ?_) ?_)
            · match c, hc with
              | 0, _ => exact .hit
              | 1, _ => exact .rfl
            refine cutG_of () trivial (by simp only [vsAll, Nat.reduceEqDiff, ↓reduceIte, eq_self]) rfl (HSub_eqn fun q => ?_)
            obtain ⟨⟨a1, a2⟩, ⟨a3, a4⟩, ⟨a5, a6⟩, a7⟩ : (¬ ih = i8 ∧ ¬ i8 = ih) ∧ (¬ ih = i9 ∧ ¬ i9 = ih) ∧ (¬ ih = i10 ∧ ¬ i10 = ih) ∧ H ih = none := by simp_all
            clear hih
            simp only [Hp.set, Hp.del]
            by_cases e1 : q = ih
            · subst e1; left; simp only [a1, a3, a5, a7, if_false]
            right
            by_cases e10 : q = i10
            · subst e10; simp only [if_true]
            simp only [e1, e10, if_false]
      · refine wps_cutG (m := mset [126, 130]) (σ := Unit) (fun _ => True)
          (fun _ => [(14, shAV s.sh), (15, spAV s.hs), (1, boo u), (2, .rsl N 1 (byF b)), (3, .rptr 1 2 (fun _ => s.cs) 0 0), (7, i64 s.sh.length), (8, .ref i8 0 2 0 0), (9, .ref i9 0 2 0 0), (10, .ref i10 0 2 0 0)])
          (fun _ => ((H.set i8 (.box 2 1 fun _ => (turnS s).cs)).set i9 (.box 2 1 fun _ => (zrS s).cs)).set i10 (.box 2 1 fun _ => (rvS (zrS s)).cs)) (fun _ => []) ?_ fun _ _ => ?_
        · simp only [Tryd.ntmps12]
          refine vs_draw3 [0, 3, 4, 7] [([1, 0, 0, 3, 5, 0, 0, 7, 8, 8], [([1, 2, 5, 6], [2, 6], 0), ([], [6], 3), ([], [6], 4), ([], [], 7)], [8, 9]), ([1, 0, 0, 5, 3, 0, 0, 7, 8, 8], [([1, 2, 5, 6], [2, 6], 0), ([], [2, 6], 4), ([], [6], 3), ([], [], 7)], [8, 9]), ([3, 0, 0, 5, 1, 0, 0, 7, 8, 8], [([1, 2, 5, 6], [2, 6], 4), ([], [2, 6], 0), ([], [6], 3), ([], [], 7)], [8, 9])] (by decide +kernel) fun p hp => ?_
          have okH : ∀ i, i < s.hs.length → okCells (spF s.hs i) := fun i _ => ⟨rfl, rfl, trivial⟩
          have okS' : ∀ i, i < s.sh.length → okCells (shF s.sh i) := fun i _ => ⟨rfl, rfl, rfl, trivial⟩
          have leH : Obj.Le (.row 2 s.hs.length (appF 0 s.hs.length (fun _ => []) (spF s.hs))) (.row 2 s.hs.length (spF s.hs)) := row_ext fun q hq => by rw [appF_at (by ((try clear h1); (try clear h2); (try clear h3); (try clear n12); (try clear n13); (try clear n23); (try clear m12); (try clear m13); (try clear m23); omega)), if_neg (by ((try clear h1); (try clear h2); (try clear h3); (try clear n12); (try clear n13); (try clear n23); (try clear m12); (try clear m13); (try clear m23); omega)), Nat.sub_zero]
          have leS : Obj.Le (.row 3 s.sh.length (appF 0 s.sh.length (fun _ => []) (shF s.sh))) (.row 3 s.sh.length (shF s.sh)) := row_ext fun q hq => by rw [appF_at (by ((try clear h1); (try clear h2); (try clear h3); (try clear n12); (try clear n13); (try clear n23); (try clear m12); (try clear m13); (try clear m23); omega)), if_neg (by ((try clear h1); (try clear h2); (try clear h3); (try clear n12); (try clear n13); (try clear n23); (try clear m12); (try clear m13); (try clear m23); omega)), Nat.sub_zero]
          simp only [List.mem_cons, List.not_mem_nil, or_false] at hp
          rcases hp with rfl | rfl | rfl
          · simp only [vsAll, loadA, loadRow, partA, partOk, fieldAddrA, okParts, buildMutA, partIdx, elemsA, lensA, partsA, partsOk, opA, appendA, dstOk, Nat.reduceMul, Nat.reduceLT, Nat.reduceLeDiff, Nat.reduceEqDiff, Nat.reduceBEq, ↓reduceIte, eq_self, wtAll]
            intro is hh_is; (try simp only [ite_none] at hh_is)
            refine ⟨okS', by ((try clear h1); (try clear h2); (try clear h3); (try clear n12); (try clear n13); (try clear n23); (try clear m12); (try clear m13); (try clear m23); (try clear hh_is); omega), by ((try clear h1); (try clear h2); (try clear h3); (try clear n12); (try clear n13); (try clear n23); (try clear m12); (try clear m13); (try clear m23); (try clear hh_is); omega), ?_⟩
            intro ih hh_ih; (try simp only [ite_none] at hh_ih)
            refine ⟨okH, by ((try clear h1); (try clear h2); (try clear h3); (try clear n12); (try clear n13); (try clear n23); (try clear m12); (try clear m13); (try clear m23); (try clear hh_is); (try clear hh_ih); omega), by ((try clear h1); (try clear h2); (try clear h3); (try clear n12); (try clear n13); (try clear n23); (try clear m12); (try clear m13); (try clear m23); (try clear hh_is); (try clear hh_ih); omega), ?_⟩
            refine cut_cp () trivial s is ih (H0 := ((H.set i8 (.box 2 1 fun _ => (turnS s).cs)).set i9 (.box 2 1 fun _ => (zrS s).cs)).set i10 (.box 2 1 fun _ => (rvS (zrS s)).cs)) (by simp_all [Hp.set]) (by simp_all [Hp.set]) (by simp_all) (by simp only [vsAll, Nat.reduceEqDiff, ↓reduceIte, eq_self]) rfl (by simp only [vsAll, Nat.reduceEqDiff, ↓reduceIte, eq_self]) rfl ?_
            exact HSub.trans (B := ((((H.set i8 (.box 2 1 fun _ => (turnS s).cs)).set i9 (.box 2 1 fun _ => (zrS s).cs)).set i10 (.box 2 1 fun _ => (rvS (zrS s)).cs)).set is (.row 3 s.sh.length (appF 0 s.sh.length (fun _ => []) (shF s.sh)))).set ih (.row 2 s.hs.length (appF 0 s.hs.length (fun _ => []) (spF s.hs)))) (by (repeat (first | exact HSub_rfl | refine HSub_put_eq (by simp only [vsAll, ↓reduceIte, eq_self, n12, n13, n23, hh_is, hh_ih]) ?_ | refine HSub_drop2 (by simp only [eq_self, h1, h2, h3, hh_is, hh_ih]) ?_ | refine HSub_keep_eq (by simp only [vsAll, binA, binLitA, intA, aggA, aggV, boolA, nilA2, isConst, unA, loadA, loadRow, partA, partOk, fieldAddrA, indexAddrA, indexA, fieldA, extractA, lenA, nilCheckA, boxA, boxZ, cellA, cellsA, fillA, okParts, buildSliceA, buildMutA, makeSliceA, partIdx, elemsA, lensA, ifaceA, convA, mmA, pickA, okAll, stAll, opsA, partsA, partsOk, opA, allocA, boxMutA, newCells, okCells, storeObj, appendA, guardV, taA, nM, mapUpA, lookA, sliceA, sliceS, boundsA, opO, okO, copyA, dstOk, nilA, quietOk, nilSliceOp, deferV, panA, resA, argFr, retA.eq_1, retA.eq_2, Nat.reduceAdd, Nat.reduceSub, Nat.reduceMul, Nat.reduceLT, Nat.reduceLeDiff, Nat.reduceEqDiff, Nat.reduceBEq, Int.reduceAdd, Int.reduceSub, Int.reduceMul, Int.reduceNeg, Int.reduceLE, Int.reduceLT, Int.reduceEq, Int.reduceNe, Int.reduceToNat, ↓reduceIte, reduceCtorEq, implies_true, forall_const, eq_self, ne_eq, wtAll, Tryd.ntmps12, Tryd.results12, h1, h2, h3, n12, n13, n23, m12, m13, m23, hh_is, hh_ih]) ?_))) (HSub.set (HSub.set (HSub.refl _) leS) leH)
          · simp only [vsAll, loadA, loadRow, partA, partOk, fieldAddrA, okParts, buildMutA, partIdx, elemsA, lensA, partsA, partsOk, opA, appendA, dstOk, Nat.reduceMul, Nat.reduceLT, Nat.reduceLeDiff, Nat.reduceEqDiff, Nat.reduceBEq, ↓reduceIte, eq_self, wtAll]
            intro is hh_is; (try simp only [ite_none] at hh_is); intro ih hh_ih; (try simp only [ite_none] at hh_ih)
            simp only [vsAll, ↓reduceIte, eq_self, hh_ih]
            refine ⟨okS', by ((try clear h1); (try clear h2); (try clear h3); (try clear n12); (try clear n13); (try clear n23); (try clear m12); (try clear m13); (try clear m23); (try clear hh_is); (try clear hh_ih); omega), by ((try clear h1); (try clear h2); (try clear h3); (try clear n12); (try clear n13); (try clear n23); (try clear m12); (try clear m13); (try clear m23); (try clear hh_is); (try clear hh_ih); omega), okH, by ((try clear h1); (try clear h2); (try clear h3); (try clear n12); (try clear n13); (try clear n23); (try clear m12); (try clear m13); (try clear m23); (try clear hh_is); (try clear hh_ih); omega), by ((try clear h1); (try clear h2); (try clear h3); (try clear n12); (try clear n13); (try clear n23); (try clear m12); (try clear m13); (try clear m23); (try clear hh_is); (try clear hh_ih); omega), ?_⟩
            refine cut_cp () trivial s is ih (H0 := ((H.set i8 (.box 2 1 fun _ => (turnS s).cs)).set i9 (.box 2 1 fun _ => (zrS s).cs)).set i10 (.box 2 1 fun _ => (rvS (zrS s)).cs)) (by simp_all [Hp.set]) (by simp_all [Hp.set]) (by simp_all) (by simp only [vsAll, Nat.reduceEqDiff, ↓reduceIte, eq_self]) rfl (by simp only [vsAll, Nat.reduceEqDiff, ↓reduceIte, eq_self]) rfl ?_
            exact HSub.trans (B := ((((H.set i8 (.box 2 1 fun _ => (turnS s).cs)).set i9 (.box 2 1 fun _ => (zrS s).cs)).set i10 (.box 2 1 fun _ => (rvS (zrS s)).cs)).set is (.row 3 s.sh.length (appF 0 s.sh.length (fun _ => []) (shF s.sh)))).set ih (.row 2 s.hs.length (appF 0 s.hs.length (fun _ => []) (spF s.hs)))) (by (repeat (first | exact HSub_rfl | refine HSub_put_eq (by simp only [vsAll, ↓reduceIte, eq_self, n12, n13, n23, hh_is, hh_ih]) ?_ | refine HSub_drop2 (by simp only [eq_self, h1, h2, h3, hh_is, hh_ih]) ?_ | refine HSub_keep_eq (by simp only [vsAll, binA, binLitA, intA, aggA, aggV, boolA, nilA2, isConst, unA, loadA, loadRow, partA, partOk, fieldAddrA, indexAddrA, indexA, fieldA, extractA, lenA, nilCheckA, boxA, boxZ, cellA, cellsA, fillA, okParts, buildSliceA, buildMutA, makeSliceA, partIdx, elemsA, lensA, ifaceA, convA, mmA, pickA, okAll, stAll, opsA, partsA, partsOk, opA, allocA, boxMutA, newCells, okCells, storeObj, appendA, guardV, taA, nM, mapUpA, lookA, sliceA, sliceS, boundsA, opO, okO, copyA, dstOk, nilA, quietOk, nilSliceOp, deferV, panA, resA, argFr, retA.eq_1, retA.eq_2, Nat.reduceAdd, Nat.reduceSub, Nat.reduceMul, Nat.reduceLT, Nat.reduceLeDiff, Nat.reduceEqDiff, Nat.reduceBEq, Int.reduceAdd, Int.reduceSub, Int.reduceMul, Int.reduceNeg, Int.reduceLE, Int.reduceLT, Int.reduceEq, Int.reduceNe, Int.reduceToNat, ↓reduceIte, reduceCtorEq, implies_true, forall_const, eq_self, ne_eq, wtAll, Tryd.ntmps12, Tryd.results12, h1, h2, h3, n12, n13, n23, m12, m13, m23, hh_is, hh_ih]) ?_))) (HSub.set (HSub.set (HSub.refl _) leS) leH)
          · simp only [vsAll, loadA, loadRow, partA, partOk, fieldAddrA, okParts, buildMutA, partIdx, elemsA, lensA, partsA, partsOk, opA, appendA, dstOk, Nat.reduceMul, Nat.reduceLT, Nat.reduceLeDiff, Nat.reduceEqDiff, Nat.reduceBEq, ↓reduceIte, eq_self, wtAll]
            intro ih hh_ih; (try simp only [ite_none] at hh_ih); intro is hh_is; (try simp only [ite_none] at hh_is)
            simp only [vsAll, ↓reduceIte, eq_self, hh_is]
            refine ⟨okS', by ((try clear h1); (try clear h2); (try clear h3); (try clear n12); (try clear n13); (try clear n23); (try clear m12); (try clear m13); (try clear m23); (try clear hh_ih); (try clear hh_is); omega), by ((try clear h1); (try clear h2); (try clear h3); (try clear n12); (try clear n13); (try clear n23); (try clear m12); (try clear m13); (try clear m23); (try clear hh_ih); (try clear hh_is); omega), okH, by ((try clear h1); (try clear h2); (try clear h3); (try clear n12); (try clear n13); (try clear n23); (try clear m12); (try clear m13); (try clear m23); (try clear hh_ih); (try clear hh_is); omega), by ((try clear h1); (try clear h2); (try clear h3); (try clear n12); (try clear n13); (try clear n23); (try clear m12); (try clear m13); (try clear m23); (try clear hh_ih); (try clear hh_is); omega), ?_⟩
            refine cut_cp () trivial s is ih (H0 := ((H.set i8 (.box 2 1 fun _ => (turnS s).cs)).set i9 (.box 2 1 fun _ => (zrS s).cs)).set i10 (.box 2 1 fun _ => (rvS (zrS s)).cs)) (by simp_all [Hp.set]) (by simp_all [Hp.set]) (by simp_all) (by simp only [vsAll, Nat.reduceEqDiff, ↓reduceIte, eq_self]) rfl (by simp only [vsAll, Nat.reduceEqDiff, ↓reduceIte, eq_self]) rfl ?_
            exact HSub.trans (B := ((((H.set i8 (.box 2 1 fun _ => (turnS s).cs)).set i9 (.box 2 1 fun _ => (zrS s).cs)).set i10 (.box 2 1 fun _ => (rvS (zrS s)).cs)).set is (.row 3 s.sh.length (appF 0 s.sh.length (fun _ => []) (shF s.sh)))).set ih (.row 2 s.hs.length (appF 0 s.hs.length (fun _ => []) (spF s.hs)))) (by (repeat (first | exact HSub_rfl | refine HSub_put_eq (by simp only [vsAll, ↓reduceIte, eq_self, n12, n13, n23, hh_ih, hh_is]) ?_ | refine HSub_drop2 (by simp only [eq_self, h1, h2, h3, hh_ih, hh_is]) ?_ | refine HSub_keep_eq (by simp only [vsAll, binA, binLitA, intA, aggA, aggV, boolA, nilA2, isConst, unA, loadA, loadRow, partA, partOk, fieldAddrA, indexAddrA, indexA, fieldA, extractA, lenA, nilCheckA, boxA, boxZ, cellA, cellsA, fillA, okParts, buildSliceA, buildMutA, makeSliceA, partIdx, elemsA, lensA, ifaceA, convA, mmA, pickA, okAll, stAll, opsA, partsA, partsOk, opA, allocA, boxMutA, newCells, okCells, storeObj, appendA, guardV, taA, nM, mapUpA, lookA, sliceA, sliceS, boundsA, opO, okO, copyA, dstOk, nilA, quietOk, nilSliceOp, deferV, panA, resA, argFr, retA.eq_1, retA.eq_2, Nat.reduceAdd, Nat.reduceSub, Nat.reduceMul, Nat.reduceLT, Nat.reduceLeDiff, Nat.reduceEqDiff, Nat.reduceBEq, Int.reduceAdd, Int.reduceSub, Int.reduceMul, Int.reduceNeg, Int.reduceLE, Int.reduceLT, Int.reduceEq, Int.reduceNe, Int.reduceToNat, ↓reduceIte, reduceCtorEq, implies_true, forall_const, eq_self, ne_eq, wtAll, Tryd.ntmps12, Tryd.results12, h1, h2, h3, n12, n13, n23, m12, m13, m23, hh_ih, hh_is]) ?_))) (HSub.set (HSub.set (HSub.refl _) leS) leH)
        · refine wps_cutG3 (m := mset [139]) (σ := List Int) (fun l => PlanM s l)
            (fun l => [(16, intsAV l), (17, .rsl s.sh.length 1 (intF (bk l 0))), (14, shAV s.sh), (15, spAV s.hs), (1, boo u), (2, .rsl N 1 (byF b)), (3, .rptr 1 2 (fun _ => s.cs) 0 0), (7, i64 s.sh.length), (8, .ref i8 0 2 0 0), (9, .ref i9 0 2 0 0), (10, .ref i10 0 2 0 0)])
            (fun _ => ((H.set i8 (.box 2 1 fun _ => (turnS s).cs)).set i9 (.box 2 1 fun _ => (zrS s).cs)).set i10 (.box 2 1 fun _ => (rvS (zrS s)).cs)) (fun _ => []) ?_ fun l hl => ?_
          · simp only [vsAll, loadA, loadRow, partA, partOk, okAll, stAll, opsA, opA, dstOk, Nat.reduceLT, Nat.reduceEqDiff, ↓reduceIte, eq_self, wtAll, Tryd.ntmps12]
            refine made_call k hN hb (fun l hl => ?_)
            simp only [vsAll, lenA, makeSliceA, opA, dstOk, nilSliceOp, Nat.reduceLT, Nat.reduceEqDiff, Nat.reduceBEq, ↓reduceIte, eq_self, wtAll]
            refine ⟨by ((try clear h1); (try clear h2); (try clear h3); (try clear n12); (try clear n13); (try clear n23); (try clear m12); (try clear m13); (try clear m23); omega), by ((try clear h1); (try clear h2); (try clear h3); (try clear n12); (try clear n13); (try clear n23); (try clear m12); (try clear m13); (try clear m23); omega), by ((try clear h1); (try clear h2); (try clear h3); (try clear n12); (try clear n13); (try clear n23); (try clear m12); (try clear m13); (try clear m23); omega), ?_⟩
            intro i17 hh_i17; (try simp only [ite_none] at hh_i17)
            have hll := hl.len
            have hbl : (bk l 0).length = s.sh.length := by rw [bk_len, hll]
            refine vs_loop (σ := Nat) (fun i => i ≤ s.sh.length) (fun i => [(16, intsAV l), (17, .sl i17 1 s.sh.length), (14, shAV s.sh), (15, spAV s.hs), (1, boo u), (2, .rsl N 1 (byF b)), (3, .rptr 1 2 (fun _ => s.cs) 0 0), (7, i64 s.sh.length), (8, .ref i8 0 2 0 0), (9, .ref i9 0 2 0 0), (10, .ref i10 0 2 0 0), (140, intsAV l), (141, i64 l.length), (142, i64 i)])
              (fun i => (((H.set i8 (.box 2 1 fun _ => (turnS s).cs)).set i9 (.box 2 1 fun _ => (zrS s).cs)).set i10 (.box 2 1 fun _ => (rvS (zrS s)).cs)).set i17 (.row 1 s.sh.length fun q => [i64 (if s.sh.length - i ≤ q then l.getD (s.sh.length - 1 - q) 0 else 0)])) (fun i => s.sh.length - i) 0 (Nat.zero_le _) ?_ ?_ fun i hi => ?_
            · simp only [vsAll, Nat.reduceEqDiff, ↓reduceIte, eq_self, Int.natCast_zero]
            · refine HSub.set (HSub.refl _) (row_ext fun q hq => ?_)
              rw [if_neg (by ((try clear h1); (try clear h2); (try clear h3); (try clear n12); (try clear n13); (try clear n23); (try clear m12); (try clear m13); (try clear m23); (try clear hh_i17); omega))]
            · simp only [vsAll, binA, binLitA, intA, opA, dstOk, Nat.reduceLT, Nat.reduceEqDiff, ↓reduceIte, eq_self]
              refine condD (fun hd => ?_) (fun hd => ?_)
              · have his : i < s.sh.length := by ((try clear h1); (try clear h2); (try clear h3); (try clear n12); (try clear n13); (try clear n23); (try clear m12); (try clear m13); (try clear m23); (try clear hh_i17); omega)
                have ei : (s.sh.length : Int) - 1 - i = ((s.sh.length - 1 - i : Nat) : Int) := by ((try clear h1); (try clear h2); (try clear h3); (try clear n12); (try clear n13); (try clear n23); (try clear m12); (try clear m13); (try clear m23); (try clear hh_i17); omega)
                simp only [vsAll, binA, binLitA, intA, loadA, loadRow, partA, partOk, indexAddrA, cellA, cellsA, opA, newCells, okCells, storeObj, dstOk, nilSliceOp, Nat.reduceLT, Nat.reduceEqDiff, Nat.reduceBEq, ↓reduceIte, eq_self, wtAll, ei, intF_at]
                refine ⟨by simp only [InR_i64]; ((try clear h1); (try clear h2); (try clear h3); (try clear n12); (try clear n13); (try clear n23); (try clear m12); (try clear m13); (try clear m23); (try clear hh_i17); omega), by simp only [InR_i64]; ((try clear h1); (try clear h2); (try clear h3); (try clear n12); (try clear n13); (try clear n23); (try clear m12); (try clear m13); (try clear m23); (try clear hh_i17); omega), ⟨by ((try clear h1); (try clear h2); (try clear h3); (try clear n12); (try clear n13); (try clear n23); (try clear m12); (try clear m13); (try clear m23); (try clear hh_i17); omega), by ((try clear h1); (try clear h2); (try clear h3); (try clear n12); (try clear n13); (try clear n23); (try clear m12); (try clear m13); (try clear m23); (try clear hh_i17); omega)⟩, by ((try clear h1); (try clear h2); (try clear h3); (try clear n12); (try clear n13); (try clear n23); (try clear m12); (try clear m13); (try clear m23); (try clear hh_i17); omega), ⟨by ((try clear h1); (try clear h2); (try clear h3); (try clear n12); (try clear n13); (try clear n23); (try clear m12); (try clear m13); (try clear m23); (try clear hh_i17); omega), by ((try clear h1); (try clear h2); (try clear h3); (try clear n12); (try clear n13); (try clear n23); (try clear m12); (try clear m13); (try clear m23); (try clear hh_i17); omega)⟩, by ((try clear h1); (try clear h2); (try clear h3); (try clear n12); (try clear n13); (try clear n23); (try clear m12); (try clear m13); (try clear m23); (try clear hh_i17); omega), by simp only [InR_i64]; ((try clear h1); (try clear h2); (try clear h3); (try clear n12); (try clear n13); (try clear n23); (try clear m12); (try clear m13); (try clear m23); (try clear hh_i17); omega), loop_next (i + 1) (by ((try clear h1); (try clear h2); (try clear h3); (try clear n12); (try clear n13); (try clear n23); (try clear m12); (try clear m13); (try clear m23); (try clear hh_i17); omega)) (by ((try clear h1); (try clear h2); (try clear h3); (try clear n12); (try clear n13); (try clear n23); (try clear m12); (try clear m13); (try clear m23); (try clear hh_i17); omega)) ?_ ?_⟩
                · simp only [vsAll, Nat.reduceEqDiff, ↓reduceIte, eq_self, Int.natCast_add, Int.natCast_one]
                · rw [Hp.set_set]
                  refine HSub.set (HSub.refl _) (row_ext fun q hq => ?_)
                  rw [upd_at (by ((try clear h1); (try clear h2); (try clear h3); (try clear n12); (try clear n13); (try clear n23); (try clear m12); (try clear m13); (try clear m23); (try clear hh_i17); omega)) q hq]
                  split
                  · rename_i e; subst e; rw [if_pos (by ((try clear h1); (try clear h2); (try clear h3); (try clear n12); (try clear n13); (try clear n23); (try clear m12); (try clear m13); (try clear m23); (try clear hh_i17); omega)), show s.sh.length - 1 - (s.sh.length - 1 - i) = i by ((try clear h1); (try clear h2); (try clear h3); (try clear n12); (try clear n13); (try clear n23); (try clear m12); (try clear m13); (try clear m23); (try clear hh_i17); omega)]
                  · have e2 : (s.sh.length - i ≤ q) = (s.sh.length - (i + 1) ≤ q) := propext ⟨fun _ => by ((try clear h1); (try clear h2); (try clear h3); (try clear n12); (try clear n13); (try clear n23); (try clear m12); (try clear m13); (try clear m23); (try clear hh_i17); omega), fun _ => by ((try clear h1); (try clear h2); (try clear h3); (try clear n12); (try clear n13); (try clear n23); (try clear m12); (try clear m13); (try clear m23); (try clear hh_i17); omega)⟩
                    simp only [e2]
              · have ei : i = s.sh.length := by ((try clear h1); (try clear h2); (try clear h3); (try clear n12); (try clear n13); (try clear n23); (try clear m12); (try clear m13); (try clear m23); (try clear hh_i17); omega)
                subst ei
                simp only [vsAll, ↓reduceIte, eq_self]
                refine cutG_ent (Ent.of [(17, .sl i17 1 s.sh.length), (16, intsAV l), (14, shAV s.sh), (15, spAV s.hs), (1, boo u), (2, .rsl N 1 (byF b)), (3, .rptr 1 2 (fun _ => s.cs) 0 0), (7, i64 s.sh.length), (8, .ref i8 0 2 0 0), (9, .ref i9 0 2 0 0), (10, .ref i10 0 2 0 0)] (by simp only [vsAll, Nat.reduceEqDiff, ↓reduceIte, eq_self]) (H' := (((H.set i8 (.box 2 1 fun _ => (turnS s).cs)).set i9 (.box 2 1 fun _ => (zrS s).cs)).set i10 (.box 2 1 fun _ => (rvS (zrS s)).cs)).set i17 (.row 1 s.sh.length (intF (bk l 0)))) ?_ ?_)
                · refine HSub.set (HSub.refl _) (row_ext fun q hq => ?_)
                  rw [if_pos (by ((try clear h1); (try clear h2); (try clear h3); (try clear n12); (try clear n13); (try clear n23); (try clear m12); (try clear m13); (try clear m23); (try clear hh_i17); omega)), intF_at, bk_get _ _ (by ((try clear h1); (try clear h2); (try clear h3); (try clear n12); (try clear n13); (try clear n23); (try clear m12); (try clear m13); (try clear m23); (try clear hh_i17); omega)), hll]
                refine cutG_ent (Ent.freeze (id := i17) (st := 1) (n := s.sh.length) (f := intF (bk l 0)) (s' := Fr.of [(17, .rsl s.sh.length 1 (intF (bk l 0))), (16, intsAV l), (14, shAV s.sh), (15, spAV s.hs), (1, boo u), (2, .rsl N 1 (byF b)), (3, .rptr 1 2 (fun _ => s.cs) 0 0), (7, i64 s.sh.length), (8, .ref i8 0 2 0 0), (9, .ref i9 0 2 0 0), (10, .ref i10 0 2 0 0)]) (Hp.set_same _ _ _) (FzL.frz (.hit (FzL.refl _))) ?_)
                refine cutG_of l hl (by simp only [vsAll, Nat.reduceEqDiff, ↓reduceIte, eq_self]) rfl (HSub_eqn fun q => ?_)
                by_cases e1 : q = i17
                · subst e1; left; simp_all [Hp.set]
                right
                rw [Hp.del_ne _ e1, Hp.set_ne _ _ e1]
          · have hll := hl.len
            have hbl : (bk l 0).length = s.sh.length := by rw [bk_len, hll]
            have e17 : AV.rsl s.sh.length 1 (intF (bk l 0)) = intsAV (bk l 0) := by rw [← hbl]
            simp only [e17]
            have kt := turn_ok k
            have kz := zr_ok k
            have kr := rv_ok kz
            have hPl : (planE s u).length ≤ 5 := by
              unfold planE
              split
              · rename_i h; rw [bestP_len h]; exact nS
              · exact Nat.zero_le _
            have hPe : planE s u = if rgtE s u = 0 then bestP (wm s) s u else [] := rfl
            refine wps_cutG5 (m := fun _ => false) (σ := Nat) (fun id => (¬ id = i8 ∧ ¬ id = i9 ∧ ¬ id = i10) ∧ H id = none)
              (fun id => [(28, .sl id 1 (planE s u).length), (16, intsAV l), (17, intsAV (bk l 0)), (14, shAV s.sh), (15, spAV s.hs), (1, boo u), (2, .rsl N 1 (byF b)), (3, .rptr 1 2 (fun _ => s.cs) 0 0), (7, i64 s.sh.length), (8, .ref i8 0 2 0 0), (9, .ref i9 0 2 0 0), (10, .ref i10 0 2 0 0), (19, i64 (cntV s u : Nat)), (20, i64 (cntE s)), (21, i64 (cntV (turnS s) u : Nat)), (22, i64 (cntE (turnS s))), (23, i64 (cntV (zrS s) u : Nat)), (24, i64 (cntE (zrS s))), (25, i64 (cntV (rvS (zrS s)) u : Nat)), (26, i64 (cntE (rvS (zrS s)))), (27, i64 (bestV (wm s) s u)), (29, i64 (rgtE s u))])
              (fun id => (((H.set i8 (.box 2 1 fun _ => (turnS s).cs)).set i9 (.box 2 1 fun _ => (zrS s).cs)).set i10 (.box 2 1 fun _ => (rvS (zrS s)).cs)).set id (.row 1 (planE s u).length (intF (planE s u)))) (fun _ => []) ?_ fun id hid => ?_
            · simp only [vsAll, loadA, loadRow, partA, partOk, okAll, stAll, opsA, opA, dstOk, Nat.reduceLT, Nat.reduceEqDiff, ↓reduceIte, eq_self, wtAll, Tryd.ntmps12]
              refine callK_pure (pcount_tri s u _ kn) ?_
              simp only [vsAll, loadA, loadRow, partA, partOk, extractA, okAll, stAll, opsA, opA, dstOk, nilSliceOp, Nat.reduceAdd, Nat.reduceLT, Nat.reduceEqDiff, ↓reduceIte, eq_self, wtAll, n12, n13]
              refine callK_pure (pcount_tri (turnS s) u _ kt.near) ?_
              simp only [vsAll, loadA, loadRow, partA, partOk, extractA, okAll, stAll, opsA, opA, dstOk, nilSliceOp, Nat.reduceAdd, Nat.reduceLT, Nat.reduceEqDiff, ↓reduceIte, eq_self, wtAll, n23]
              refine callK_pure (pcount_tri (zrS s) u _ kz.near) ?_
              simp only [vsAll, loadA, loadRow, partA, partOk, extractA, okAll, stAll, opsA, opA, dstOk, nilSliceOp, Nat.reduceAdd, Nat.reduceLT, Nat.reduceEqDiff, ↓reduceIte, eq_self, wtAll]
              refine callK_pure (pcount_tri (rvS (zrS s)) u _ kr.near) ?_
              simp only [vsAll, loadA, loadRow, partA, partOk, extractA, okAll, stAll, opsA, opA, dstOk, nilSliceOp, Nat.reduceAdd, Nat.reduceLT, Nat.reduceEqDiff, ↓reduceIte, eq_self, wtAll]
              refine callK (bestM_tri s u _ k) ?_
              rintro r H' (⟨hn, rfl, rfl⟩ | ⟨id, he, hid, rfl, rfl⟩)
              · rw [if_neg hn] at hPe
                have hb0 : bestV (wm s) s u = 0 := by unfold bestV; rw [if_neg hn]
                simp only [vsAll, extractA, opA, dstOk, nilA, nilSliceOp, Nat.reduceAdd, Nat.reduceLT, Nat.reduceEqDiff, ↓reduceIte, eq_self]
                refine cutG_ent (Ent.of [(28, .lit (.slice none 0 0)), (16, intsAV l), (17, intsAV (bk l 0)), (14, shAV s.sh), (15, spAV s.hs), (1, boo u), (2, .rsl N 1 (byF b)), (3, .rptr 1 2 (fun _ => s.cs) 0 0), (7, i64 s.sh.length), (8, .ref i8 0 2 0 0), (9, .ref i9 0 2 0 0), (10, .ref i10 0 2 0 0), (19, i64 (cntV s u : Nat)), (20, i64 (cntE s)), (21, i64 (cntV (turnS s) u : Nat)), (22, i64 (cntE (turnS s))), (23, i64 (cntV (zrS s) u : Nat)), (24, i64 (cntE (zrS s))), (25, i64 (cntV (rvS (zrS s)) u : Nat)), (26, i64 (cntE (rvS (zrS s)))), (27, i64 (bestV (wm s) s u)), (29, i64 (rgtE s u))] (by simp only [vsAll, Nat.reduceEqDiff, ↓reduceIte, eq_self, hb0]) HSub_rfl ?_)
                refine cutG_ent (Ent.nilFr (s' := fun id => Fr.of [(28, .sl id 1 0), (16, intsAV l), (17, intsAV (bk l 0)), (14, shAV s.sh), (15, spAV s.hs), (1, boo u), (2, .rsl N 1 (byF b)), (3, .rptr 1 2 (fun _ => s.cs) 0 0), (7, i64 s.sh.length), (8, .ref i8 0 2 0 0), (9, .ref i9 0 2 0 0), (10, .ref i10 0 2 0 0), (19, i64 (cntV s u : Nat)), (20, i64 (cntE s)), (21, i64 (cntV (turnS s) u : Nat)), (22, i64 (cntE (turnS s))), (23, i64 (cntV (zrS s) u : Nat)), (24, i64 (cntE (zrS s))), (25, i64 (cntV (rvS (zrS s)) u : Nat)), (26, i64 (cntE (rvS (zrS s)))), (27, i64 (bestV (wm s) s u)), (29, i64 (rgtE s u))]) 1 (intF []) (fun id t => ?_) fun id hid => ?_)
                · exact Fr_nl
                · simp only [Hp.set_none] at hid
                  obtain ⟨⟨c1, _⟩, ⟨c2, _⟩, ⟨c3, _⟩, c4⟩ := hid
                  refine cutG_of id ⟨⟨c3, c2, c1⟩, c4⟩ (by simp only [vsAll, Nat.reduceEqDiff, ↓reduceIte, eq_self, hPe]) rfl ?_
                  rw [hPe]
                  exact HSub_rfl
              · rw [if_pos he] at hPe
                simp only [Hp.set_none] at hid
                obtain ⟨⟨c1, _⟩, ⟨c2, _⟩, ⟨c3, _⟩, c4⟩ := hid
                simp only [vsAll, extractA, opA, dstOk, nilSliceOp, Nat.reduceAdd, Nat.reduceLT, Nat.reduceEqDiff, ↓reduceIte, eq_self]
                refine cutG_of id ⟨⟨c3, c2, c1⟩, c4⟩ (by simp only [vsAll, Nat.reduceEqDiff, ↓reduceIte, eq_self, he, hPe]) rfl ?_
                rw [hPe]
                exact HSub_rfl
            · obtain ⟨⟨c8, c9, c10⟩, c11⟩ := hid
              have d8 : ¬ i8 = id := fun e => c8 e.symm
              have d9 : ¬ i9 = id := fun e => c9 e.symm
              have d10 : ¬ i10 = id := fun e => c10 e.symm
              skip
              refine wps_cutG4 (m := fun _ => false) (σ := Unit) (fun _ => True)
                (fun _ => [(28, .sl id 1 (planE s u).length), (14, shAV s.sh), (15, spAV s.hs), (1, boo u), (2, .rsl N 1 (byF b)), (3, .rptr 1 2 (fun _ => s.cs) 0 0), (7, i64 s.sh.length), (8, .ref i8 0 2 0 0), (9, .ref i9 0 2 0 0), (10, .ref i10 0 2 0 0), (29, i64 (rgtE s u))])
                (fun _ => ((((H.set i8 (.box 2 1 fun _ => (turnS s).cs)).set i9 (.box 2 1 fun _ => (zrS s).cs)).set i10 (.box 2 1 fun _ => (rvS (zrS s)).cs)).set id (.row 1 (planE s u).length (intF (planE s u))))) (fun _ => []) ?_ fun _ _ => ?_
              · simp only [vsAll, loadA, loadRow, partA, partOk, okAll, stAll, opsA, opA, dstOk, Nat.reduceLT, Nat.reduceEqDiff, ↓reduceIte, eq_self, wtAll, Tryd.ntmps12, n12, n13, d8]
                refine callK_pure (pbest_tri (turnS s) u _ kt.near) ?_
                simp only [vsAll, loadA, loadRow, partA, partOk, extractA, okAll, stAll, opsA, opA, dstOk, nilSliceOp, Nat.reduceAdd, Nat.reduceLT, Nat.reduceEqDiff, ↓reduceIte, eq_self, wtAll, bestA_st, bestA_k]
                refine callK_pure (ptotal_tri s u _ kn) ?_
                simp only [vsAll, loadA, loadRow, partA, partOk, extractA, okAll, stAll, opsA, opA, dstOk, nilSliceOp, Nat.reduceAdd, Nat.reduceLT, Nat.reduceEqDiff, ↓reduceIte, eq_self, wtAll, n12, n13, d8, bestA_st, bestA_k]
                refine callK_pure (ptotal_tri (turnS s) u _ kt.near) ?_
                simp only [vsAll, extractA, opA, dstOk, nilSliceOp, Nat.reduceAdd, Nat.reduceLT, Nat.reduceEqDiff, ↓reduceIte, eq_self, bestA_st, bestA_k]
                refine vs_draw2 [0, 0, 0, 0, 0, 0, 0, 0, 0, 0, 0, 0, 0, 0, 0, 0, 0, 0, 0, 0, 0, 0, 0, 0, 0, 0, 0, 0, 0, 0, 0, 0, 0, 0, 0, 0, 0, 0, 0, 0, 0, 0, 0, 0, 0, 0, 0, 0, 0, 0, 0, 0, 0, 0, 0, 0, 0, 0, 0, 0] [] [0, 1, 2, 3, 4, 5, 6, 7, 8, 9, 10, 11, 12, 13, 14, 15, 16, 17, 18, 19, 20, 21, 22, 23, 24, 25, 26, 27, 28, 29, 30, 31, 32, 33, 34, 35, 36, 37, 38, 39, 40, 41, 42, 43, 44, 45, 46, 47, 48, 49, 50, 51, 52, 53, 54, 55, 56, 57, 58, 59] (by decide +kernel) ?_
                obtain ⟨f1, f2⟩ := cntV_ok k u
                obtain ⟨f3, f4⟩ := cntV_ok kt u
                obtain ⟨f5, f6⟩ := cntV_ok kz u
                obtain ⟨f7, f8⟩ := cntV_ok kr u
                have f9 := turn_cnt (u := u) k
                have f10 := rv_cnt (s := zrS s) (u := u) kz fun i hi => by rw [zr_n] at hi; rw [zr_at hi]
                have f11 := (zr_more (u := u) k).cnt k kz
                have f12 := turn_E (u := u) k
                have f13 := turn_best (u := u) k (wm s) (wm (turnS s)) fun l hl => turn_wm k hl
                have f14 := turn_best (u := u) k (ws s) (ws (turnS s)) fun l hl => turn_ws k hl
                have e9 : cntV (turnS s) u = cntV s u := by rw [f4, f2, f9]
                have e10 : cntV (rvS (zrS s)) u = cntV (zrS s) u := by rw [f8, f6, f10]
                have e11 : decide (((cntV (zrS s) u : Nat) : Int) < (cntV s u : Nat)) = false := decide_eq_false (by ((try clear h1); (try clear h2); (try clear h3); (try clear n12); (try clear n13); (try clear n23); (try clear m12); (try clear m13); (try clear m23); (try clear c8); (try clear c9); (try clear c10); (try clear c11); (try clear d8); (try clear d9); (try clear d10); omega))
                have htl : (bk l 0).length ≤ 41 := by ((try clear h1); (try clear h2); (try clear h3); (try clear n12); (try clear n13); (try clear n23); (try clear m12); (try clear m13); (try clear m23); (try clear c8); (try clear c9); (try clear c10); (try clear c11); (try clear d8); (try clear d9); (try clear d10); omega)
                have hpt : planB (turnS s) (bk l 0) = true := PlanM.planB ⟨by rw [hbl, turn_n], fun z hz => by
                  obtain ⟨i, hi, rfl⟩ := getD_mem 0 hz
                  rw [bk_len] at hi
                  rw [bk_get _ _ hi]
                  exact hl.at _⟩
                have hrt := turn_rt (u := u) k hl
                simp only [vsAll, binA, binLitA, intA, loadA, loadRow, partA, partOk, pickA, opA, guardV, dstOk, Nat.reduceLT, Nat.reduceEqDiff, ↓reduceIte, implies_true, eq_self, wtAll, f1, f3, f5, f7, e9, e10, e11, f12, f13, f14]
                refine qgcall _ (fun _ => ⟨trivial, by simp only [vsAll, okAll, opsA, opA, Nat.reduceEqDiff, ↓reduceIte, eq_self], right_tri s u l _ k hl.planB (by ((try clear h1); (try clear h2); (try clear h3); (try clear n12); (try clear n13); (try clear n23); (try clear m12); (try clear m13); (try clear m23); (try clear c8); (try clear c9); (try clear c10); (try clear c11); (try clear d8); (try clear d9); (try clear d10); omega))⟩) ?_
                simp only [vsAll, loadA, loadRow, partA, partOk, opA, guardV, dstOk, Nat.reduceLT, Nat.reduceEqDiff, ↓reduceIte, eq_self, wtAll, n12, n13, d8]
                refine qgcall _ (fun _ => ⟨trivial, by simp only [vsAll, okAll, opsA, opA, Nat.reduceEqDiff, ↓reduceIte, eq_self], right_tri (turnS s) u (bk l 0) _ kt hpt htl⟩) ?_
                simp only [vsAll, binA, binLitA, boolA, pickA, opA, guardV, dstOk, Nat.reduceLT, Nat.reduceEqDiff, ↓reduceIte, implies_true, eq_self, wtAll, hrt]
                refine condV (fun hc => ?_) (fun _ => ?_)
                · exfalso; cases hb2 : rtB s u l <;> rw [hb2] at hc <;> cases hc
                · simp only [vsAll]
                  exact cutG_of () trivial (by simp only [vsAll, Nat.reduceEqDiff, ↓reduceIte, eq_self]) rfl HSub_rfl
              · refine wps_cutG (m := fun _ => false) (σ := Unit) (fun _ => True)
                  (fun _ => [(28, .sl id 1 (planE s u).length), (14, shAV s.sh), (15, spAV s.hs), (1, boo u), (2, .rsl N 1 (byF b)), (3, .rptr 1 2 (fun _ => s.cs) 0 0), (7, i64 s.sh.length), (8, .ref i8 0 2 0 0), (9, .ref i9 0 2 0 0), (10, .ref i10 0 2 0 0), (29, i64 (rgtE s u))])
                  (fun _ => ((((H.set i8 (.box 2 1 fun _ => (turnS s).cs)).set i9 (.box 2 1 fun _ => (zrS s).cs)).set i10 (.box 2 1 fun _ => (rvS (zrS s)).cs)).set id (.row 1 (planE s u).length (intF (planE s u))))) (fun _ => []) ?_ fun _ _ => ?_
                · simp only [vsAll, opA, dstOk, Nat.reduceLT, Nat.reduceEqDiff, ↓reduceIte, eq_self, Tryd.ntmps12]
                  refine vs_loop (σ := Nat) (fun i => i ≤ s.sh.length) (fun i => [(28, .sl id 1 (planE s u).length), (14, shAV s.sh), (15, spAV s.hs), (1, boo u), (2, .rsl N 1 (byF b)), (3, .rptr 1 2 (fun _ => s.cs) 0 0), (7, i64 s.sh.length), (8, .ref i8 0 2 0 0), (9, .ref i9 0 2 0 0), (10, .ref i10 0 2 0 0), (29, i64 (rgtE s u)), (268, i64 s.sh.length), (269, i64 i)]) (fun _ => ((((H.set i8 (.box 2 1 fun _ => (turnS s).cs)).set i9 (.box 2 1 fun _ => (zrS s).cs)).set i10 (.box 2 1 fun _ => (rvS (zrS s)).cs)).set id (.row 1 (planE s u).length (intF (planE s u))))) (fun i => s.sh.length - i) 0 (Nat.zero_le _) ?_ HSub_rfl fun i hi => ?_
                  · simp only [vsAll, Nat.reduceEqDiff, ↓reduceIte, eq_self, Int.natCast_zero]
                  · simp only [vsAll, binA, binLitA, intA, opA, dstOk, Nat.reduceLT, Nat.reduceEqDiff, ↓reduceIte, eq_self]
                    refine condD (fun hd => ?_) (fun hd => ?_)
                    · have his : i < s.sh.length := by ((try clear h1); (try clear h2); (try clear h3); (try clear n12); (try clear n13); (try clear n23); (try clear m12); (try clear m13); (try clear m23); (try clear c8); (try clear c9); (try clear c10); (try clear c11); (try clear d8); (try clear d9); (try clear d10); omega)
                      have ei : (s.sh.length : Int) - 1 - i = ((s.sh.length - 1 - i : Nat) : Int) := by ((try clear h1); (try clear h2); (try clear h3); (try clear n12); (try clear n13); (try clear n23); (try clear m12); (try clear m13); (try clear m23); (try clear c8); (try clear c9); (try clear c10); (try clear c11); (try clear d8); (try clear d9); (try clear d10); omega)
                      obtain ⟨g1, g2⟩ := turn_fav (u := u) k his
                      have g3 := turn_tide (u := u) k his
                      have g4 := tideE_ok k his
                      have g5 := tideE_ok kt (i := s.sh.length - 1 - i) (by rw [turn_n]; ((try clear h1); (try clear h2); (try clear h3); (try clear n12); (try clear n13); (try clear n23); (try clear m12); (try clear m13); (try clear m23); (try clear c8); (try clear c9); (try clear c10); (try clear c11); (try clear d8); (try clear d9); (try clear d10); omega))
                      simp only [vsAll, loadA, loadRow, partA, partOk, okAll, stAll, opsA, opA, dstOk, nilSliceOp, Nat.reduceLT, Nat.reduceEqDiff, ↓reduceIte, eq_self, wtAll]
                      refine callK_pure (pfavour_tri s i u _ kn) ?_
                      simp only [vsAll, binA, binLitA, intA, loadA, loadRow, partA, partOk, extractA, okAll, stAll, opsA, opA, dstOk, nilSliceOp, Nat.reduceAdd, Nat.reduceLT, Nat.reduceEqDiff, ↓reduceIte, eq_self, wtAll, n12, n13, d8, ei]
                      refine ⟨by simp only [InR_i64]; ((try clear h1); (try clear h2); (try clear h3); (try clear n12); (try clear n13); (try clear n23); (try clear m12); (try clear m13); (try clear m23); (try clear c8); (try clear c9); (try clear c10); (try clear c11); (try clear d8); (try clear d9); (try clear d10); omega), by simp only [InR_i64]; ((try clear h1); (try clear h2); (try clear h3); (try clear n12); (try clear n13); (try clear n23); (try clear m12); (try clear m13); (try clear m23); (try clear c8); (try clear c9); (try clear c10); (try clear c11); (try clear d8); (try clear d9); (try clear d10); omega), callK_pure (pfavour_tri (turnS s) ((s.sh.length - 1 - i : Nat) : Int) u _ kt.near) ?_⟩
                      simp only [vsAll, loadA, loadRow, partA, partOk, extractA, okAll, stAll, opsA, opA, dstOk, nilSliceOp, Nat.reduceAdd, Nat.reduceLT, Nat.reduceEqDiff, ↓reduceIte, eq_self, wtAll]
                      refine callK_pure (wtides_tri s i u _ kn) ?_
                      simp only [vsAll, binA, binLitA, intA, loadA, loadRow, partA, partOk, extractA, okAll, stAll, opsA, opA, dstOk, nilSliceOp, Nat.reduceAdd, Nat.reduceLT, Nat.reduceEqDiff, ↓reduceIte, eq_self, wtAll, n12, n13, d8, ei]
                      refine ⟨by simp only [InR_i64]; ((try clear h1); (try clear h2); (try clear h3); (try clear n12); (try clear n13); (try clear n23); (try clear m12); (try clear m13); (try clear m23); (try clear c8); (try clear c9); (try clear c10); (try clear c11); (try clear d8); (try clear d9); (try clear d10); omega), by simp only [InR_i64]; ((try clear h1); (try clear h2); (try clear h3); (try clear n12); (try clear n13); (try clear n23); (try clear m12); (try clear m13); (try clear m23); (try clear c8); (try clear c9); (try clear c10); (try clear c11); (try clear d8); (try clear d9); (try clear d10); omega), callK_pure (wtides_tri (turnS s) ((s.sh.length - 1 - i : Nat) : Int) u _ kt.near) ?_⟩
                      simp only [vsAll, binA, binLitA, intA, extractA, pickA, opA, guardV, dstOk, nilSliceOp, Nat.reduceAdd, Nat.reduceLT, Nat.reduceEqDiff, ↓reduceIte, implies_true, eq_self, g1, g2, g3, g4, g5]
                      refine ⟨by simp only [InR_i64]; ((try clear h1); (try clear h2); (try clear h3); (try clear n12); (try clear n13); (try clear n23); (try clear m12); (try clear m13); (try clear m23); (try clear c8); (try clear c9); (try clear c10); (try clear c11); (try clear d8); (try clear d9); (try clear d10); omega), loop_next (i + 1) (by ((try clear h1); (try clear h2); (try clear h3); (try clear n12); (try clear n13); (try clear n23); (try clear m12); (try clear m13); (try clear m23); (try clear c8); (try clear c9); (try clear c10); (try clear c11); (try clear d8); (try clear d9); (try clear d10); omega)) (by ((try clear h1); (try clear h2); (try clear h3); (try clear n12); (try clear n13); (try clear n23); (try clear m12); (try clear m13); (try clear m23); (try clear c8); (try clear c9); (try clear c10); (try clear c11); (try clear d8); (try clear d9); (try clear d10); omega)) ?_ HSub_rfl⟩
                      simp only [vsAll, Nat.reduceEqDiff, ↓reduceIte, eq_self, Int.natCast_add, Int.natCast_one]
                    · simp only [vsAll, ↓reduceIte, eq_self]
                      exact cutG_of () trivial (by simp only [vsAll, Nat.reduceEqDiff, ↓reduceIte, eq_self]) rfl HSub_rfl
                · refine wps_cutG (m := mset [325]) (σ := Unit) (fun _ => True)
                    (fun _ => [(48, intsAV (planE s u)), (28, .sl id 1 (planE s u).length), (14, shAV s.sh), (15, spAV s.hs), (1, boo u), (2, .rsl N 1 (byF b)), (3, .rptr 1 2 (fun _ => s.cs) 0 0), (7, i64 s.sh.length), (8, .ref i8 0 2 0 0), (9, .ref i9 0 2 0 0), (10, .ref i10 0 2 0 0), (29, i64 (rgtE s u))])
                    (fun _ => ((((H.set i8 (.box 2 1 fun _ => (turnS s).cs)).set i9 (.box 2 1 fun _ => (zrS s).cs)).set i10 (.box 2 1 fun _ => (rvS (zrS s)).cs)).set id (.row 1 (planE s u).length (intF (planE s u))))) (fun _ => []) ?_ fun _ _ => ?_
                  · simp only [vsAll, okParts, buildMutA, partIdx, elemsA, lensA, partsA, partsOk, opA, appendA, dstOk, nilSliceOp, Nat.reduceMul, Nat.reduceLT, Nat.reduceLeDiff, Nat.reduceEqDiff, Nat.reduceBEq, ↓reduceIte, eq_self, wtAll, Tryd.ntmps12]
                    intro ik hh_ik; (try simp only [ite_none] at hh_ik)
                    have d11 : ¬ id = ik := by simp_all []
                    have d12 : (((((H.set i8 (.box 2 1 fun _ => (turnS s).cs)).set i9 (.box 2 1 fun _ => (zrS s).cs)).set i10 (.box 2 1 fun _ => (rvS (zrS s)).cs)).set id (.row 1 (planE s u).length (intF (planE s u))))) ik = none := by simp_all [Hp.set]
                    simp only [vsAll, ↓reduceIte, eq_self, hh_ik]
                    refine ⟨fun q hq => ⟨rfl, trivial⟩, by ((try clear h1); (try clear h2); (try clear h3); (try clear n12); (try clear n13); (try clear n23); (try clear m12); (try clear m13); (try clear m23); (try clear c8); (try clear c9); (try clear c10); (try clear c11); (try clear d8); (try clear d9); (try clear d10); (try clear hh_ik); omega), by ((try clear h1); (try clear h2); (try clear h3); (try clear n12); (try clear n13); (try clear n23); (try clear m12); (try clear m13); (try clear m23); (try clear c8); (try clear c9); (try clear c10); (try clear c11); (try clear d8); (try clear d9); (try clear d10); (try clear hh_ik); omega), ?_⟩
                    refine cutG_ent (Ent.of [(48, .sl ik 1 (planE s u).length), (28, .sl id 1 (planE s u).length), (14, shAV s.sh), (15, spAV s.hs), (1, boo u), (2, .rsl N 1 (byF b)), (3, .rptr 1 2 (fun _ => s.cs) 0 0), (7, i64 s.sh.length), (8, .ref i8 0 2 0 0), (9, .ref i9 0 2 0 0), (10, .ref i10 0 2 0 0), (29, i64 (rgtE s u))] (by simp only [vsAll, Nat.reduceEqDiff, ↓reduceIte, eq_self]) (H' := (((((H.set i8 (.box 2 1 fun _ => (turnS s).cs)).set i9 (.box 2 1 fun _ => (zrS s).cs)).set i10 (.box 2 1 fun _ => (rvS (zrS s)).cs)).set id (.row 1 (planE s u).length (intF (planE s u))))).set ik (.row 1 (planE s u).length (intF (planE s u)))) ?_ ?_)
                    · exact HSub.trans (B := (((((H.set i8 (.box 2 1 fun _ => (turnS s).cs)).set i9 (.box 2 1 fun _ => (zrS s).cs)).set i10 (.box 2 1 fun _ => (rvS (zrS s)).cs)).set id (.row 1 (planE s u).length (intF (planE s u))))).set ik (.row 1 (planE s u).length (appF 0 (planE s u).length (fun _ => []) (intF (planE s u))))) (by (repeat (first | exact HSub_rfl | refine HSub_put_eq (by simp only [vsAll, ↓reduceIte, eq_self, n12, n13, n23, d8, d9, d10, hh_ik]) ?_ | refine HSub_drop2 (by simp only [eq_self, h1, h2, h3, c11, hh_ik]) ?_ | refine HSub_keep_eq (by simp only [vsAll, binA, binLitA, intA, aggA, aggV, boolA, nilA2, isConst, unA, loadA, loadRow, partA, partOk, fieldAddrA, indexAddrA, indexA, fieldA, extractA, lenA, nilCheckA, boxA, boxZ, cellA, cellsA, fillA, okParts, buildSliceA, buildMutA, makeSliceA, partIdx, elemsA, lensA, ifaceA, convA, mmA, pickA, okAll, stAll, opsA, partsA, partsOk, opA, allocA, boxMutA, newCells, okCells, storeObj, appendA, guardV, taA, nM, mapUpA, lookA, sliceA, sliceS, boundsA, opO, okO, copyA, dstOk, nilA, quietOk, nilSliceOp, deferV, panA, resA, argFr, retA.eq_1, retA.eq_2, Nat.reduceAdd, Nat.reduceSub, Nat.reduceMul, Nat.reduceLT, Nat.reduceLeDiff, Nat.reduceEqDiff, Nat.reduceBEq, Int.reduceAdd, Int.reduceSub, Int.reduceMul, Int.reduceNeg, Int.reduceLE, Int.reduceLT, Int.reduceEq, Int.reduceNe, Int.reduceToNat, ↓reduceIte, reduceCtorEq, implies_true, forall_const, eq_self, ne_eq, wtAll, Tryd.ntmps12, Tryd.results12, h1, h2, h3, n12, n13, n23, m12, m13, m23, c8, c9, c10, c11, d8, d9, d10, hh_ik]) ?_))) (HSub.set (HSub.refl _) (row_ext fun q hq => by rw [appF_at (by ((try clear h1); (try clear h2); (try clear h3); (try clear n12); (try clear n13); (try clear n23); (try clear m12); (try clear m13); (try clear m23); (try clear c8); (try clear c9); (try clear c10); (try clear c11); (try clear d8); (try clear d9); (try clear d10); (try clear hh_ik); omega)), if_neg (by ((try clear h1); (try clear h2); (try clear h3); (try clear n12); (try clear n13); (try clear n23); (try clear m12); (try clear m13); (try clear m23); (try clear c8); (try clear c9); (try clear c10); (try clear c11); (try clear d8); (try clear d9); (try clear d10); (try clear hh_ik); omega)), Nat.sub_zero]))
                    refine cutG_ent (Ent.freeze (id := ik) (st := 1) (n := (planE s u).length) (f := intF (planE s u)) (s' := Fr.of [(48, intsAV (planE s u)), (28, .sl id 1 (planE s u).length), (14, shAV s.sh), (15, spAV s.hs), (1, boo u), (2, .rsl N 1 (byF b)), (3, .rptr 1 2 (fun _ => s.cs) 0 0), (7, i64 s.sh.length), (8, .ref i8 0 2 0 0), (9, .ref i9 0 2 0 0), (10, .ref i10 0 2 0 0), (29, i64 (rgtE s u))]) (Hp.set_same _ _ _) (FzL.frz (.hit (FzL.refl _))) ?_)
                    refine cutG_of () trivial (by simp only [vsAll, Nat.reduceEqDiff, ↓reduceIte, eq_self]) rfl (HSub_eqn fun q => ?_)
                    by_cases e1 : q = ik
                    · subst e1; left; exact d12
                    right
                    rw [Hp.del_ne _ e1, Hp.set_ne _ _ e1]
                  · refine wps_cutG (m := fun _ => false) (σ := Unit) (fun _ => True)
                      (fun _ => [(48, intsAV (planE s u)), (14, shAV s.sh), (15, spAV s.hs), (1, boo u), (2, .rsl N 1 (byF b)), (3, .rptr 1 2 (fun _ => s.cs) 0 0), (7, i64 s.sh.length), (8, .ref i8 0 2 0 0), (9, .ref i9 0 2 0 0), (10, .ref i10 0 2 0 0), (29, i64 (rgtE s u))])
                      (fun _ => ((H.set i8 (.box 2 1 fun _ => (turnS s).cs)).set i9 (.box 2 1 fun _ => (zrS s).cs)).set i10 (.box 2 1 fun _ => (rvS (zrS s)).cs)) (fun _ => []) ?_ fun _ _ => ?_
                    · simp only [vsAll, lenA, opA, dstOk, Nat.reduceLT, Nat.reduceEqDiff, Int.reduceNeg, ↓reduceIte, eq_self, wtAll, Tryd.ntmps12]
                      refine vs_loop (σ := Nat) (fun i => i ≤ (planE s u).length) (fun i => [(28, .sl id 1 (planE s u).length), (48, intsAV (planE s u)), (14, shAV s.sh), (15, spAV s.hs), (1, boo u), (2, .rsl N 1 (byF b)), (3, .rptr 1 2 (fun _ => s.cs) 0 0), (7, i64 s.sh.length), (8, .ref i8 0 2 0 0), (9, .ref i9 0 2 0 0), (10, .ref i10 0 2 0 0), (29, i64 (rgtE s u)), (329, i64 (planE s u).length), (330, i64 i)]) (fun i => (((H.set i8 (.box 2 1 fun _ => (turnS s).cs)).set i9 (.box 2 1 fun _ => (zrS s).cs)).set i10 (.box 2 1 fun _ => (rvS (zrS s)).cs)).set id (.row 1 (planE s u).length fun q => [i64 (if q < i then -9 else (planE s u).getD q 0)])) (fun i => (planE s u).length - i) 0 (Nat.zero_le _) ?_ ?_ fun i hi => ?_
                      · simp only [vsAll, Nat.reduceEqDiff, ↓reduceIte, eq_self, Int.natCast_zero]
                      · refine HSub.set (HSub.refl _) (row_ext fun q hq => ?_)
                        rw [if_neg (by ((try clear h1); (try clear h2); (try clear h3); (try clear n12); (try clear n13); (try clear n23); (try clear m12); (try clear m13); (try clear m23); (try clear c8); (try clear c9); (try clear c10); (try clear c11); (try clear d8); (try clear d9); (try clear d10); omega)), intF_at]
                      · simp only [vsAll, binA, binLitA, intA, opA, dstOk, Nat.reduceLT, Nat.reduceEqDiff, Int.reduceNeg, ↓reduceIte, eq_self]
                        refine condD (fun hd => ?_) (fun hd => ?_)
                        · have his : i < (planE s u).length := by ((try clear h1); (try clear h2); (try clear h3); (try clear n12); (try clear n13); (try clear n23); (try clear m12); (try clear m13); (try clear m23); (try clear c8); (try clear c9); (try clear c10); (try clear c11); (try clear d8); (try clear d9); (try clear d10); omega)
                          simp only [vsAll, binA, binLitA, intA, indexAddrA, cellA, cellsA, opA, newCells, okCells, storeObj, dstOk, nilSliceOp, Nat.reduceLT, Nat.reduceEqDiff, Int.reduceNeg, ↓reduceIte, eq_self, wtAll]
                          refine ⟨⟨by ((try clear h1); (try clear h2); (try clear h3); (try clear n12); (try clear n13); (try clear n23); (try clear m12); (try clear m13); (try clear m23); (try clear c8); (try clear c9); (try clear c10); (try clear c11); (try clear d8); (try clear d9); (try clear d10); omega), by ((try clear h1); (try clear h2); (try clear h3); (try clear n12); (try clear n13); (try clear n23); (try clear m12); (try clear m13); (try clear m23); (try clear c8); (try clear c9); (try clear c10); (try clear c11); (try clear d8); (try clear d9); (try clear d10); omega)⟩, his, by simp only [InR_i64]; ((try clear h1); (try clear h2); (try clear h3); (try clear n12); (try clear n13); (try clear n23); (try clear m12); (try clear m13); (try clear m23); (try clear c8); (try clear c9); (try clear c10); (try clear c11); (try clear d8); (try clear d9); (try clear d10); omega), loop_next (i + 1) (by ((try clear h1); (try clear h2); (try clear h3); (try clear n12); (try clear n13); (try clear n23); (try clear m12); (try clear m13); (try clear m23); (try clear c8); (try clear c9); (try clear c10); (try clear c11); (try clear d8); (try clear d9); (try clear d10); omega)) (by ((try clear h1); (try clear h2); (try clear h3); (try clear n12); (try clear n13); (try clear n23); (try clear m12); (try clear m13); (try clear m23); (try clear c8); (try clear c9); (try clear c10); (try clear c11); (try clear d8); (try clear d9); (try clear d10); omega)) ?_ ?_⟩
                          · simp only [vsAll, Nat.reduceEqDiff, ↓reduceIte, eq_self, Int.natCast_add, Int.natCast_one]
                          · rw [Hp.set_set]
                            refine HSub.set (HSub.refl _) (row_ext fun q hq => ?_)
                            rw [upd_at his q hq]
                            split
                            · rename_i e; subst e; rw [if_pos (by ((try clear h1); (try clear h2); (try clear h3); (try clear n12); (try clear n13); (try clear n23); (try clear m12); (try clear m13); (try clear m23); (try clear c8); (try clear c9); (try clear c10); (try clear c11); (try clear d8); (try clear d9); (try clear d10); omega))]
                            · have e2 : (q < i) = (q < i + 1) := propext ⟨fun _ => by ((try clear h1); (try clear h2); (try clear h3); (try clear n12); (try clear n13); (try clear n23); (try clear m12); (try clear m13); (try clear m23); (try clear c8); (try clear c9); (try clear c10); (try clear c11); (try clear d8); (try clear d9); (try clear d10); omega), fun _ => by ((try clear h1); (try clear h2); (try clear h3); (try clear n12); (try clear n13); (try clear n23); (try clear m12); (try clear m13); (try clear m23); (try clear c8); (try clear c9); (try clear c10); (try clear c11); (try clear d8); (try clear d9); (try clear d10); omega)⟩
                              simp only [e2]
                        · simp only [vsAll, Int.reduceNeg, ↓reduceIte, eq_self]
                          exact cutG_of () trivial (by simp only [vsAll, Nat.reduceEqDiff, ↓reduceIte, eq_self]) rfl (HSub_drop2 (by simp_all [Hp.set]) HSub_rfl)
                    · refine wps_vs (m := fun _ => false) ?_
                      have hAP : PTri Tryd.prog (fnA 29) [bestA (wm s) s u, intsAV (planE s u)] (((H.set i8 (.box 2 1 fun _ => (turnS s).cs)).set i9 (.box 2 1 fun _ => (zrS s).cs)).set i10 (.box 2 1 fun _ => (rvS (zrS s)).cs)) (boo true) := by
                        have h2 := lints_tri (planE s u) (planE s u) (((H.set i8 (.box 2 1 fun _ => (turnS s).cs)).set i9 (.box 2 1 fun _ => (zrS s).cs)).set i10 (.box 2 1 fun _ => (rvS (zrS s)).cs)) (by ((try clear h1); (try clear h2); (try clear h3); (try clear n12); (try clear n13); (try clear n23); (try clear m12); (try clear m13); (try clear m23); (try clear c8); (try clear c9); (try clear c10); (try clear c11); (try clear d8); (try clear d9); (try clear d10); omega)) (by ((try clear h1); (try clear h2); (try clear h3); (try clear n12); (try clear n13); (try clear n23); (try clear m12); (try clear m13); (try clear m23); (try clear c8); (try clear c9); (try clear c10); (try clear c11); (try clear d8); (try clear d9); (try clear d10); omega))
                        rw [decide_eq_true rfl] at h2
                        by_cases h : rgtE s u = 0
                        · rw [bestA_ok h, ← show planE s u = bestP (wm s) s u from if_pos h]
                          exact h2
                        · have e : bestA (wm s) s u = nilA := if_neg h
                          rw [e]
                          refine Tri.args h2 rfl fun k hk => ?_
                          rw [show planE s u = [] from if_neg h]
                          match k, hk with
                          | 0, _ => exact AV.Le.nil 1 _
                          | 1, _ => exact AV.Le.refl _
                      simp only [vsAll, loadA, loadRow, partA, partOk, okAll, stAll, opsA, opA, dstOk, Nat.reduceLT, Nat.reduceEqDiff, ↓reduceIte, eq_self, wtAll, Tryd.ntmps12]
                      refine callK_pure (pbest_tri s u _ kn) ?_
                      simp only [vsAll, binA, binLitA, intA, extractA, opA, guardV, dstOk, nilSliceOp, Nat.reduceAdd, Nat.reduceLT, Nat.reduceEqDiff, ↓reduceIte, eq_self, bestA_st, bestA_k]
                      refine gcall _ (fun _ => ⟨by simp only [vsAll, opA], by simp only [vsAll, okAll, opsA, opA, Nat.reduceEqDiff, ↓reduceIte, eq_self], hAP⟩) ?_
                      simp only [vsAll, unA, lenA, pickA, opA, guardV, dstOk, Nat.reduceLT, Nat.reduceEqDiff, ↓reduceIte, implies_true, eq_self, wtAll]
                      refine vs_loop (σ := Nat) (fun i => i ≤ s.sh.length) (fun i => [(14, shAV s.sh), (15, spAV s.hs), (1, boo u), (2, .rsl N 1 (byF b)), (3, .rptr 1 2 (fun _ => s.cs) 0 0), (7, i64 s.sh.length), (8, .ref i8 0 2 0 0), (9, .ref i9 0 2 0 0), (10, .ref i10 0 2 0 0), (353, shAV s.sh), (354, i64 s.sh.length), (355, i64 i)]) (fun _ => ((H.set i8 (.box 2 1 fun _ => (turnS s).cs)).set i9 (.box 2 1 fun _ => (zrS s).cs)).set i10 (.box 2 1 fun _ => (rvS (zrS s)).cs)) (fun i => s.sh.length - i) 0 (Nat.zero_le _) ?_ HSub_rfl fun i hi => ?_
                      · simp only [vsAll, Nat.reduceEqDiff, ↓reduceIte, eq_self, Int.natCast_zero]
                      · simp only [vsAll, binA, binLitA, intA, opA, dstOk, Nat.reduceLT, Nat.reduceEqDiff, ↓reduceIte, eq_self]
                        refine condD (fun hd => ?_) (fun hd => ?_)
                        · have his : i < s.sh.length := by ((try clear h1); (try clear h2); (try clear h3); (try clear n12); (try clear n13); (try clear n23); (try clear m12); (try clear m13); (try clear m23); (try clear c8); (try clear c9); (try clear c10); (try clear c11); (try clear d8); (try clear d9); (try clear d10); omega)
                          simp only [vsAll, opA, dstOk, nilSliceOp, Nat.reduceLT, Nat.reduceEqDiff, ↓reduceIte, eq_self]
                          refine vs_draw2 [0, 0, 0, 0, 0, 0, 0, 0, 0, 0] [] [0, 1, 2, 3, 4, 5, 6, 7, 8, 9] (by decide +kernel) ?_
                          simp only [vsAll, binA, binLitA, intA, aggA, loadA, loadRow, partA, partOk, fieldAddrA, indexAddrA, opA, dstOk, Nat.reduceAdd, Nat.reduceLT, Nat.reduceEqDiff, ↓reduceIte, eq_self, wtAll, shF_at]
                          refine ⟨⟨by ((try clear h1); (try clear h2); (try clear h3); (try clear n12); (try clear n13); (try clear n23); (try clear m12); (try clear m13); (try clear m23); (try clear c8); (try clear c9); (try clear c10); (try clear c11); (try clear d8); (try clear d9); (try clear d10); omega), by ((try clear h1); (try clear h2); (try clear h3); (try clear n12); (try clear n13); (try clear n23); (try clear m12); (try clear m13); (try clear m23); (try clear c8); (try clear c9); (try clear c10); (try clear c11); (try clear d8); (try clear d9); (try clear d10); omega)⟩, his, ⟨by ((try clear h1); (try clear h2); (try clear h3); (try clear n12); (try clear n13); (try clear n23); (try clear m12); (try clear m13); (try clear m23); (try clear c8); (try clear c9); (try clear c10); (try clear c11); (try clear d8); (try clear d9); (try clear d10); omega), by ((try clear h1); (try clear h2); (try clear h3); (try clear n12); (try clear n13); (try clear n23); (try clear m12); (try clear m13); (try clear m23); (try clear c8); (try clear c9); (try clear c10); (try clear c11); (try clear d8); (try clear d9); (try clear d10); omega)⟩, his, eq_sh, by simp only [InR_i64]; ((try clear h1); (try clear h2); (try clear h3); (try clear n12); (try clear n13); (try clear n23); (try clear m12); (try clear m13); (try clear m23); (try clear c8); (try clear c9); (try clear c10); (try clear c11); (try clear d8); (try clear d9); (try clear d10); omega), loop_next (i + 1) (by ((try clear h1); (try clear h2); (try clear h3); (try clear n12); (try clear n13); (try clear n23); (try clear m12); (try clear m13); (try clear m23); (try clear c8); (try clear c9); (try clear c10); (try clear c11); (try clear d8); (try clear d9); (try clear d10); omega)) (by ((try clear h1); (try clear h2); (try clear h3); (try clear n12); (try clear n13); (try clear n23); (try clear m12); (try clear m13); (try clear m23); (try clear c8); (try clear c9); (try clear c10); (try clear c11); (try clear d8); (try clear d9); (try clear d10); omega)) ?_ HSub_rfl⟩
                          simp only [vsAll, Nat.reduceEqDiff, ↓reduceIte, eq_self, Int.natCast_add, Int.natCast_one]
                        · simp only [vsAll, lenA, opA, dstOk, Nat.reduceLT, Nat.reduceEqDiff, ↓reduceIte, eq_self, wtAll]
                          refine vs_loop (σ := Nat) (fun i => i ≤ s.hs.length) (fun i => [(14, shAV s.sh), (15, spAV s.hs), (1, boo u), (2, .rsl N 1 (byF b)), (3, .rptr 1 2 (fun _ => s.cs) 0 0), (7, i64 s.sh.length), (8, .ref i8 0 2 0 0), (9, .ref i9 0 2 0 0), (10, .ref i10 0 2 0 0), (369, spAV s.hs), (370, i64 s.hs.length), (371, i64 i)]) (fun _ => ((H.set i8 (.box 2 1 fun _ => (turnS s).cs)).set i9 (.box 2 1 fun _ => (zrS s).cs)).set i10 (.box 2 1 fun _ => (rvS (zrS s)).cs)) (fun i => s.hs.length - i) 0 (Nat.zero_le _) ?_ HSub_rfl fun i hi => ?_
                          · simp only [vsAll, Nat.reduceEqDiff, ↓reduceIte, eq_self, Int.natCast_zero]
                          · simp only [vsAll, binA, binLitA, intA, opA, dstOk, Nat.reduceLT, Nat.reduceEqDiff, ↓reduceIte, eq_self]
                            refine condD (fun hd => ?_) (fun hd => ?_)
                            · have his : i < s.hs.length := by ((try clear h1); (try clear h2); (try clear h3); (try clear n12); (try clear n13); (try clear n23); (try clear m12); (try clear m13); (try clear m23); (try clear c8); (try clear c9); (try clear c10); (try clear c11); (try clear d8); (try clear d9); (try clear d10); omega)
                              simp only [vsAll, opA, dstOk, nilSliceOp, Nat.reduceLT, Nat.reduceEqDiff, ↓reduceIte, eq_self]
                              refine vs_draw2 [0, 0, 0, 0, 0, 0, 0, 0, 0, 0] [] [0, 1, 2, 3, 4, 5, 6, 7, 8, 9] (by decide +kernel) ?_
                              simp only [vsAll, binA, binLitA, intA, aggA, loadA, loadRow, partA, partOk, fieldAddrA, indexAddrA, opA, dstOk, Nat.reduceAdd, Nat.reduceLT, Nat.reduceEqDiff, ↓reduceIte, eq_self, wtAll, spF_at]
                              refine ⟨⟨by ((try clear h1); (try clear h2); (try clear h3); (try clear n12); (try clear n13); (try clear n23); (try clear m12); (try clear m13); (try clear m23); (try clear c8); (try clear c9); (try clear c10); (try clear c11); (try clear d8); (try clear d9); (try clear d10); omega), by ((try clear h1); (try clear h2); (try clear h3); (try clear n12); (try clear n13); (try clear n23); (try clear m12); (try clear m13); (try clear m23); (try clear c8); (try clear c9); (try clear c10); (try clear c11); (try clear d8); (try clear d9); (try clear d10); omega)⟩, his, ⟨by ((try clear h1); (try clear h2); (try clear h3); (try clear n12); (try clear n13); (try clear n23); (try clear m12); (try clear m13); (try clear m23); (try clear c8); (try clear c9); (try clear c10); (try clear c11); (try clear d8); (try clear d9); (try clear d10); omega), by ((try clear h1); (try clear h2); (try clear h3); (try clear n12); (try clear n13); (try clear n23); (try clear m12); (try clear m13); (try clear m23); (try clear c8); (try clear c9); (try clear c10); (try clear c11); (try clear d8); (try clear d9); (try clear d10); omega)⟩, his, eq_sp, by simp only [InR_i64]; ((try clear h1); (try clear h2); (try clear h3); (try clear n12); (try clear n13); (try clear n23); (try clear m12); (try clear m13); (try clear m23); (try clear c8); (try clear c9); (try clear c10); (try clear c11); (try clear d8); (try clear d9); (try clear d10); omega), loop_next (i + 1) (by ((try clear h1); (try clear h2); (try clear h3); (try clear n12); (try clear n13); (try clear n23); (try clear m12); (try clear m13); (try clear m23); (try clear c8); (try clear c9); (try clear c10); (try clear c11); (try clear d8); (try clear d9); (try clear d10); omega)) (by ((try clear h1); (try clear h2); (try clear h3); (try clear n12); (try clear n13); (try clear n23); (try clear m12); (try clear m13); (try clear m23); (try clear c8); (try clear c9); (try clear c10); (try clear c11); (try clear d8); (try clear d9); (try clear d10); omega)) ?_ HSub_rfl⟩
                              simp only [vsAll, Nat.reduceEqDiff, ↓reduceIte, eq_self, Int.natCast_add, Int.natCast_one]
                            · simp only [vsAll, okAll, stAll, opsA, opA, dstOk, Nat.reduceLT, ↓reduceIte, eq_self]
                              refine callK_pure (alive_tri _) ?_
                              simp only [vsAll, opA, dstOk, nilSliceOp, resA, retA.eq_1, Nat.reduceLT, ↓reduceIte, eq_self, Tryd.results12]
                              exact dropR_pure rfl (by (repeat (first | exact HSub_rfl | refine HSub_put_eq (by simp only [vsAll, binA, binLitA, intA, aggA, aggV, boolA, nilA2, isConst, unA, loadA, loadRow, partA, partOk, fieldAddrA, indexAddrA, indexA, fieldA, extractA, lenA, nilCheckA, boxA, boxZ, cellA, cellsA, fillA, okParts, buildSliceA, buildMutA, makeSliceA, partIdx, elemsA, lensA, ifaceA, convA, mmA, pickA, okAll, stAll, opsA, partsA, partsOk, opA, allocA, boxMutA, newCells, okCells, storeObj, appendA, guardV, taA, nM, mapUpA, lookA, sliceA, sliceS, boundsA, opO, okO, copyA, dstOk, nilA, quietOk, nilSliceOp, deferV, panA, resA, argFr, retA.eq_1, retA.eq_2, Nat.reduceAdd, Nat.reduceSub, Nat.reduceMul, Nat.reduceLT, Nat.reduceLeDiff, Nat.reduceEqDiff, Nat.reduceBEq, Int.reduceAdd, Int.reduceSub, Int.reduceMul, Int.reduceNeg, Int.reduceLE, Int.reduceLT, Int.reduceEq, Int.reduceNe, Int.reduceToNat, ↓reduceIte, reduceCtorEq, implies_true, forall_const, eq_self, ne_eq, wtAll, Tryd.ntmps12, Tryd.results12, h1, h2, h3, n12, n13, n23, m12, m13, m23, c8, c9, c10, c11, d8, d9, d10]) ?_ | refine HSub_drop2 (by simp only [eq_self, h1, h2, h3]) ?_ | refine HSub_keep_eq (by simp only [vsAll, binA, binLitA, intA, aggA, aggV, boolA, nilA2, isConst, unA, loadA, loadRow, partA, partOk, fieldAddrA, indexAddrA, indexA, fieldA, extractA, lenA, nilCheckA, boxA, boxZ, cellA, cellsA, fillA, okParts, buildSliceA, buildMutA, makeSliceA, partIdx, elemsA, lensA, ifaceA, convA, mmA, pickA, okAll, stAll, opsA, partsA, partsOk, opA, allocA, boxMutA, newCells, okCells, storeObj, appendA, guardV, taA, nM, mapUpA, lookA, sliceA, sliceS, boundsA, opO, okO, copyA, dstOk, nilA, quietOk, nilSliceOp, deferV, panA, resA, argFr, retA.eq_1, retA.eq_2, Nat.reduceAdd, Nat.reduceSub, Nat.reduceMul, Nat.reduceLT, Nat.reduceLeDiff, Nat.reduceEqDiff, Nat.reduceBEq, Int.reduceAdd, Int.reduceSub, Int.reduceMul, Int.reduceNeg, Int.reduceLE, Int.reduceLT, Int.reduceEq, Int.reduceNe, Int.reduceToNat, ↓reduceIte, reduceCtorEq, implies_true, forall_const, eq_self, ne_eq, wtAll, Tryd.ntmps12, Tryd.results12, h1, h2, h3, n12, n13, n23, m12, m13, m23, c8, c9, c10, c11, d8, d9, d10]) ?_)))
theorem turned_l (s : Sl) (u : Bool) (N : Nat) (b : Nat → Int) (H : Hp) (h0 : s.hs.length < 2 ^ 63 ∧ s.sh.length < 2 ^ 63) (hb : N < 2 ^ 63 ∧ ∀ i, i < N → 0 ≤ b i ∧ b i ≤ 255) :
    PTri Tryd.prog (fnA 12) [s.av, boo u, .rsl N 1 (byF b)] H (boo true) := turned_law s u N b H hb.1 hb.2
end Go.Proofs.YtnmgegodkmgdeaaDoor
end
section
set_option linter.unusedVariables false
set_option linter.unusedSimpArgs false
set_option maxRecDepth 100000
namespace Go.Proofs.YtnmgegodkmgdeaaDoor
open Go.V Go.ChangeShapes Go.WideShapes Go.ChangeAt Go.RowKit
theorem slipTurned_lifted (os : Os) (started : os.Started) (H : Type) (enc : TypeId × Value → H) :
    ReturnsInHanded {} Tryd.checked os 12 .any (fun w args => (Rows.slipTurnedSpec.pre enc Tryd.prog Tryd.f12 [] false w args ∧ laidMetH Tryd.prog lSlip w) ∧ sizedMet enc Tryd.prog Tryd.f12 (OpenSpec.ofChange Rows.slipTurnedSpec) false w args)
      (Rows.slipTurnedSpec.post enc Tryd.prog Tryd.f12 false true false false) := by
  refine returnsInHanded_of_change_and (C := Tryd.checked) (X := fun w _ => laidMetH Tryd.prog lSlip w) (fun _ _ _ hh h => h.of_heap hh) Tryd.own started (by kernel_rfl) Tryd.func12
    (ChangeSpec.witness_at (enc := enc) (C := Tryd.checked) (os := os) (X := fun w _ => laidMetH Tryd.prog lSlip w) false (laidWorld os) #[.agg #[.slice none 0 0, .slice none 0 0], .bool false, .slice none 0 0] 8 rfl (by kernel_rfl) (by kernel_rfl) (by kernel_rfl) (by kernel_rfl) (by kernel_rfl) (laidWorld_met os _)) ?_
  intro W base args ds gs before hval hW hcnd _ hL _
  have hW' := hW
  obtain ⟨p, q, hA, hV, rfl, hfz, hnd⟩ := hW
  obtain ⟨rfl, rfl⟩ := trodVars_none hV
  rw [show Tryd.f12.params.toList = [25, 4, 42] from by kernel_rfl] at hA
  obtain ⟨v0, v1, v2, d0, d1, d2, p0, p1, p2, rfl, rfl, rfl, h0, h1, h2⟩ := trodAll_three hA
  have hval : ∀ (j : Nat) t v, Tryd.f12.params[j]? = some t → (#[v0, v1, v2] : Array Value)[j]? = some v → Value.okWide Tryd.prog W .any base t v := hval
  rw [show Tryd.f12.params = #[25, 4, 42] from by kernel_rfl] at hval
  obtain ⟨x0, b0, r0⟩ := slip_rel (hval 0 25 v0 rfl rfl) h0
  obtain ⟨x1, rfl, rfl, rfl⟩ := open_bool u4 (hval 1 4 v1 rfl rfl) h1
  obtain ⟨N2, x2, b2, r2⟩ := by_rel (hval 2 42 v2 rfl rfl) h2
  refine (law_calls (W := W) (args := #[v0, .bool x1, v2]) Tryd.func12 (by kernel_rfl) rfl (Tri.mono (turned_l x0 x1 N2 x2 H0 b0 b2) ?_) (giv_of_laid hL) ⟨rfl, fun k hk => match k, hk with | 0, _ => r0 | 1, _ => .lit _ | 2, _ => r2⟩).mono fun e W' he => ?_
  · rintro r H' ⟨rfl, _⟩; rfl
  · obtain ⟨rfl, hh, ho, hp⟩ := he
    exact ⟨_, rfl, law_post (d := 6) rfl (tb := 4) (by kernel_rfl) u4 (by decide +kernel) hW' rfl hh ho hp⟩

theorem slipTurned_row : Rows.SlipTurnedSaid :=
  OpenClaim.holds_of_wide 12 Tryd.f12 rfl rfl rfl rfl rfl rfl rfl ⟨rfl, rfl, rfl, rfl, rfl⟩ rfl rfl rfl rfl rfl (by kernel_rfl) Tryd.func12 (by kernel_rfl)
    (of_decide_eq_true (by kernel_rfl)) (by unfold Func.isWrapper; first | (rw [if_pos (by decide +kernel)]; kernel_rfl) | (rw [if_neg (by decide +kernel)]; exact ⟨rfl, rfl⟩))
    (fun os started H enc _ => slipTurned_lifted os started H enc)

theorem slipTurned_holds : Rows.SlipTurnedCardSaid :=
  Claim7.holds_tied_plain_at .later [] [.data, .data] true (true, "35477dcbd51abce31e2037b7b22eab23991c623f17c820fe62b7e760d96395d7") true
    slipTurned_row (fun _ h => by cases h) (by kernel_rfl) (fun _ h => by cases h) slipTurned_row_tie rfl ⟨rfl, rfl⟩ (by kernel_rfl) rfl
    (fun f fn hf hfn => by
      obtain rfl : f = 12 := Option.some.inj ((show Tryd.prog.funcNamed Rows.slipTurnedRow.func = some 12 by kernel_rfl).symm.trans hf) |>.symm
      obtain rfl : fn = Tryd.f12 := (Option.some.inj (Tryd.func12.symm.trans hfn)).symm
      refine ⟨by kernel_rfl, fun j t ht => ?_⟩
      have hall : ∀ t ∈ Tryd.f12.params.toList, Tryd.prog.wantsStandIn t = false := by
        rw [show Tryd.f12.params.toList = [25, 4, 42] from by kernel_rfl]
        intro t ht
        simp only [List.mem_cons, List.not_mem_nil, or_false] at ht
        rcases ht with rfl | rfl | rfl <;> kernel_rfl
      exact hall t (List.mem_of_getElem? (by rw [Array.getElem?_toList]; exact ht)))
    (by kernel_rfl)

end Go.Proofs.YtnmgegodkmgdeaaDoor
end
