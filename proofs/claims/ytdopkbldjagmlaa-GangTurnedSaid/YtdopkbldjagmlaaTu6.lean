/- WHAT IS PROVED: the given statement of this claim. Conditions: none beyond the given row. -/
import Derived.Test.YtdopkbldjagmlaaRows
import Derived.ChangeVars
import Derived.Test.YtdopkbldjagmlaaTu5
section
set_option linter.unusedVariables false
set_option linter.unusedSimpArgs false
set_option maxHeartbeats 4000000
set_option maxRecDepth 100000
namespace Go.Proofs.Ytdopkbldjagmlaa
open Go.V
def rvS (g : Gg) (i : Nat) : List Sm := (List.range i).map fun j => g.seam (g.N - 1 - j)
def rvC (g : Gg) (i : Nat) : List Cw := (List.range i).map fun c => ⟨(g.crew (g.cw.length - 1 - c)).lo, (g.crew (g.cw.length - 1 - c)).hi, (oth g.N (g.crew (g.cw.length - 1 - c)).st.toNat : Nat)⟩
theorem rvS_len (g : Gg) (i : Nat) : (rvS g i).length = i := by simp [rvS]
theorem rvC_len (g : Gg) (i : Nat) : (rvC g i).length = i := by simp [rvC]
theorem rvS_succ (g : Gg) (i : Nat) : rvS g (i + 1) = rvS g i ++ [g.seam (g.N - 1 - i)] := by simp [rvS, List.range_succ]
theorem rvC_succ (g : Gg) (i : Nat) : rvC g (i + 1) = rvC g i ++ [⟨(g.crew (g.cw.length - 1 - i)).lo, (g.crew (g.cw.length - 1 - i)).hi, (oth g.N (g.crew (g.cw.length - 1 - i)).st.toNat : Nat)⟩] := by simp [rvC, List.range_succ]
abbrev tbC (g : Gg) (a b : AV) : List AV := [a, b, i64 g.pt.hr, i64 g.pt.fro, i64 g.pt.per, intsAV g.pt.fs, psAV g.pt.ps]
inductive FzL (id st n : Nat) (f : Nat → List AV) : List (Nat × AV) → List (Nat × AV) → Prop
 | nil : FzL id st n f [] []
 | same {t : Nat} {v : AV} {l l' : List (Nat × AV)} : FzL id st n f l l' → FzL id st n f ((t, v) :: l) ((t, v) :: l')
 | hit {t : Nat} {l l' : List (Nat × AV)} : FzL id st n f l l' → FzL id st n f ((t, .sl id st n) :: l) ((t, .rsl n st f) :: l')
theorem FzL.frz {id st n : Nat} {f : Nat → List AV} {l l' : List (Nat × AV)} (h : FzL id st n f l l') : ∀ t, Fr.of l' t = Fr.of l t ∨ (Fr.of l t = .sl id st n ∧ Fr.of l' t = .rsl n st f) := by
 intro t
 induction h with
 | nil => exact .inl rfl
 | same _ ih =>
   simp only [Fr.of]
   split
   ·exact .inl rfl
   ·exact ih
 | hit _ ih =>
   simp only [Fr.of]
   split
   ·exact .inr ⟨rfl, rfl⟩
   ·exact ih
theorem HSub_eqn {A B : Hp} (h : ∀ q, B q = none ∨ A q = B q) : Go.V.HSub A B := fun q o hq => by
 rcases h q with e | e
 ·rw [e] at hq; cases hq
 ·exact ⟨o, by rw [e]; exact hq, .refl _⟩
theorem Fr_nl {id st k t : Nat} {L : List (Nat × AV)} : Nld id st (Fr.of ((k, .lit (.slice none 0 0)) :: L) t) (Fr.of ((k, .sl id st 0) :: L) t) := by
 simp only [Fr.of]
 split
 ·exact .hit
 ·exact .rfl
theorem FzL.refl {id st n : Nat} {f : Nat → List AV} : ∀ l : List (Nat × AV), FzL id st n f l l
 | [] => .nil
 | (t, v) :: l => .same (FzL.refl l)
/-- Behind the copying nothing is written into the copies. -/
theorem cut_cp {σ : Type} {inv : σ → Prop} {fr : σ → List (Nat × AV)} {hp : σ → Hp} {dsf : σ → List AD} {Q : Post} {sF : Fr} {A H0 : Hp} {B : List (Nat × AV)} (x : σ) (hx : inv x) (g : Gg) (ih is : Nat) (h1 : H0 ih = none) (h2 : H0 is = none) (n12 : ¬ is = ih)
  (hS : Slots sF ((16, .sl ih 4 g.sm.length) :: (17, .sl is 3 g.cw.length) :: B)) (hf : fr x = (16, smAV g.sm) :: (17, cwAV g.cw) :: B) (hS2 : Slots (Fr.of ((16, smAV g.sm) :: (17, cwAV g.cw) :: B)) ((16, smAV g.sm) :: (17, cwAV g.cw) :: B)) (hh : hp x = H0)
  (hH : Go.V.HSub A ((H0.set ih (.row 4 g.sm.length (smF g.sm))).set is (.row 3 g.cw.length (cwF g.cw)))) : CutG inv fr hp dsf Q .normal sF (dsf x) A := by
 refine cutG_ent (Ent.of _ hS hH ?_)
 refine cutG_ent (Ent.freeze (id := ih) (st := 4) (n := g.sm.length) (f := smF g.sm) (s' := Fr.of ((16, smAV g.sm) :: (17, .sl is 3 g.cw.length) :: B)) ?_ (FzL.frz (.hit (.same (FzL.refl _)))) ?_)
 ·rw [Hp.set_ne _ _ (fun e => n12 e.symm), Hp.set_same]
 refine cutG_ent (Ent.freeze (id := is) (st := 3) (n := g.cw.length) (f := cwF g.cw) (s' := Fr.of ((16, smAV g.sm) :: (17, cwAV g.cw) :: B)) ?_ (FzL.frz (.same (.hit (FzL.refl _)))) ?_)
 ·rw [Hp.del_ne _ n12, Hp.set_same]
 refine cutG_of x hx ?_ rfl (HSub_eqn fun q => ?_)
 ·rw [hf]; exact hS2
 ·rw [hh]
  by_cases e1 : q = ih
  ·subst e1; left; exact h1
  by_cases e2 : q = is
  ·subst e2; left; exact h2
  right
  rw [Hp.del_ne _ e2, Hp.del_ne _ e1, Hp.set_ne _ _ e2, Hp.set_ne _ _ e1]
theorem rowV_len (g : Gg) (c : Int) (l : List Int) : (rowV g c l).length ≤ l.length := by
 unfold rowV
 split
 ·rw [rwH_len]; exact Nat.le_refl _
 ·exact Nat.zero_le _
theorem chkV_bd {g : Gg} {c : Int} {l : List Int} (h : rowB g l = true) : 0 ≤ chkV g c l ∧ chkV g c l ≤ g.N := by
 have h0 : ∀ j, 0 ≤ l.getD j 0 ∧ l.getD j 0 ≤ g.N := fun j => by
  by_cases e : j < l.length
  ·obtain ⟨n, e1, hn⟩ := row_inG h j e
   omega
  ·rw [List.getD_eq_getElem?_getD, List.getElem?_eq_none (by omega)]
   exact ⟨Int.le_refl _, Int.natCast_nonneg _⟩
 unfold chkV
 split
 ·exact h0 _
 ·exact ⟨Int.le_refl _, Int.natCast_nonneg _⟩
theorem grd_len (g : Gg) (m : Int) : ∀ n b, (grdD g m n b).length ≤ b.length + n
 | 0, b => Nat.le_refl _
 | n + 1, b => by
   unfold grdD
   split
   ·rename_i c _
    have := grd_len g m n (b ++ [(c : Int)])
    simp only [List.length_append, List.length_cons, List.length_nil] at this
    omega
   ·omega
def bdL (g : Gg) (l : List Int) (i : Nat) : List Int := if i = 0 then [(g.N : Int)] else if i = 1 then [-1] else l ++ l
theorem bdL_len {g : Gg} {l : List Int} (h : l.length ≤ 5) (i : Nat) : (bdL g l i).length ≤ 10 := by
 unfold bdL
 split
 ·simp
 split
 ·simp
 ·simp; omega
/-- Bad rows are refused. -/
theorem bd_row {g : Gg} {l : List Int} (hl : rowB g l = true) (i : Nat) (hi : i < 3) : rowB g (bdL g l i) = !decide (0 < (bdL g l i).length) := by
 have h1 : ∀ x : Int, (x < 0 ∨ (g.N : Int) ≤ x) → rowB g [x] = false := fun x hx => by
  rw [← Bool.not_eq_true]
  intro h
  have := (rowB_iff.1 h).1 0 (by simp)
  simp at this
  omega
 match i, hi with
 | 0, _ => show rowB g [(g.N : Int)] = _; rw [h1 _ (.inr (Int.le_refl _))]; rfl
 | 1, _ => show rowB g [-1] = _; rw [h1 _ (.inl (by omega))]; rfl
 | 2, _ =>
   show rowB g (l ++ l) = !decide (0 < (l ++ l).length)
   by_cases e : l = []
   ·subst e; exact hl
   ·have hp : 0 < l.length := List.length_pos_iff.2 e
    rw [decide_eq_true (by simp; omega), Bool.not_true, ← Bool.not_eq_true]
    intro h
    refine (rowB_iff.1 h).2 0 l.length hp (by simp; omega) ?_
    rw [List.getD_eq_getElem?_getD, List.getD_eq_getElem?_getD, List.getElem?_append_left hp, List.getElem?_append_right (Nat.le_refl _), Nat.sub_self]
theorem bd_err {g : Gg} (k : OkG g) {c : Nat} (hc : c < g.cw.length) {l : List Int} (hl : rowB g l = true) (i : Nat) (hi : i < 3) : decide (rowE g (c : Int) (bdL g l i) = 2) = decide (0 < (bdL g l i).length) := by
 have hb := bd_row hl i hi
 have hcw := (isCw_iff g (c : Int)).2 (by omega)
 by_cases e : 0 < (bdL g l i).length
 ·rw [decide_eq_true e, Bool.not_true] at hb
  have hv : vRow g (c : Int) (bdL g l i) = false := by unfold vRow; rw [hb, hcw]; rfl
  have : rowE g (c : Int) (bdL g l i) = 2 := by
   have he : errG g (vRow g (c : Int) (bdL g l i)) = 2 := by rw [hv]; exact errG_bad k
   unfold rowE
   rw [he, if_neg (by decide)]
  rw [decide_eq_true this, decide_eq_true e]
 ·rw [decide_eq_false e, Bool.not_false] at hb
  have hv : vRow g (c : Int) (bdL g l i) = true := by unfold vRow; rw [hb, hcw]; rfl
  have : rowE g (c : Int) (bdL g l i) ≠ 2 := by
   unfold rowE
   rw [hv, errG_ok k, if_pos rfl]
   split <;> decide
  rw [decide_eq_false this, decide_eq_false e]
theorem set2_none {H : Hp} {i j k : Nat} {o o' : Go.V.Obj} (h : ((H.set i o).set j o') k = none) : H k = none ∧ ¬ k = j ∧ ¬ k = i := by
 simp only [Hp.set] at h
 split at h
 ·cases h
 ·split at h
  ·cases h
  ·rename_i h1 h2
   exact ⟨h, h1, h2⟩
theorem eq38 : eqT Try.prog 38 4 := eqT_of (by kernel_rfl) (by kernel_rfl) (by kernel_rfl) (by kernel_rfl) (by kernel_rfl)
theorem eq51 : eqT Try.prog 51 3 := by
 exact eqT_nest (n0 := 2) ((Try.prog.fieldsOf 51).toList.head (by decide +kernel)) ((Try.prog.fieldsOf 51).toList.tail) (by kernel_rfl) (by kernel_rfl) (by kernel_rfl) (by kernel_rfl) (by kernel_rfl) (by kernel_rfl) (by kernel_rfl) (by kernel_rfl) (by kernel_rfl) (by kernel_rfl) (by kernel_rfl) (by kernel_rfl)
structure TurA (g : Gg) (H : Hp) (y : Nat × Nat) : Prop where
 h9 : H y.1 = none
 h12 : H y.2 = none
 n : ¬ y.1 = y.2
 k : OkG g
 h0 : 0 < g.cw.length
theorem turned_law (g : Gg) (wh bt : Int) (N : Nat) (b : Nat → Int) (H : Hp) (hwh : 0 ≤ wh ∧ wh ≤ 255) (hbt : 0 ≤ bt ∧ bt ≤ 255) (hB : N < 2 ^ 63 ∧ ∀ i, i < N → 0 ≤ b i ∧ b i ≤ 255) :
  PTri Try.prog (fnA 8) [g.av, .lit (.int .u8 wh), .lit (.int .u8 bt), .rsl N 1 (byF b)] H (boo true) := by
 refine Tri.drop ?_
 refine tri_w0 Try.func8 (by kernel_rfl) rfl (by simp only [List.length_append, List.length_cons, List.length_nil, Try.ntmps8]; decide) ?_
 refine wps_cutG7 (m := fun _ => false) (σ := Nat × Nat) (fun y => TurA g H y)
  (fun y => [(1, .lit (.int .u8 wh)), (2, .lit (.int .u8 bt)), (3, .rsl N 1 (byF b)), (4, gptr g), (9, .ref y.1 0 1 0 0), (10, i64 g.cw.length), (11, .func (.func 32) [] [.ref y.1 0 1 0 0]), (12, .ref y.2 0 7 0 0)])
  (fun y => (H.set y.1 (.box 1 1 fun _ => [i64 g.N])).set y.2 (.box 7 1 fun _ => tbC g (smAV (rvS g g.N)) (.lit (.slice none 0 0)))) (fun _ => []) ?_ fun y hy => ?_
 ·simp only [vsAll, loadA, loadRow, partA, partOk, boxA, boxZ, okAll, stAll, opsA, opA, dstOk, nilSliceOp, argFr, Nat.reduceAdd, Nat.reduceLT, Nat.reduceEqDiff, ↓reduceIte, eq_self, wtAll, Try.ntmps8]
  refine callK_pure (gfine_tri g _) ?_
  simp only [vsAll, binA, binLitA, intA, unA, loadA, loadRow, partA, partOk, fieldAddrA, lenA, pickA, opA, guardV, dstOk, Nat.reduceLT, Nat.reduceEqDiff, ↓reduceIte, implies_true, eq_self, wtAll]
  refine condV (fun hc => ?_) (fun hc => ?_)
  ·simp only [vsAll, okAll, stAll, opsA, opA, dstOk, Nat.reduceLT]
   refine callK_pure (awake_tri _) ?_
   simp only [vsAll, opA, dstOk, nilSliceOp, resA, retA.eq_1, Nat.reduceLT, ↓reduceIte, eq_self, Try.results8, CutG_ret]
   exact dropR_pure rfl (by (repeat (first | exact HSub_rfl | refine HSub_put_eq (by simp only [vsAll, ↓reduceIte, eq_self, reduceCtorEq, Nat.reduceEqDiff]) ?_ | refine HSub_drop2 (by simp only [vsAll, ↓reduceIte, eq_self, reduceCtorEq, Nat.reduceEqDiff]) ?_ | refine HSub_keep_eq (by simp only [vsAll, ↓reduceIte, eq_self, reduceCtorEq, Nat.reduceEqDiff]) ?_)))
  ·rw [Bool.or_eq_false_iff, decide_eq_false_iff_not] at hc
   obtain ⟨hc1, hc2⟩ := hc
   obtain ⟨k, kn⟩ := fineG_ok hc1
   have nS := k.nS
   have nC := k.nC
   have hNe : g.N = g.sm.length := rfl
   have h0 : 0 < g.cw.length := by omega
   simp only [vsAll]
   refine vs_draw2 [0, 0, 0, 0, 0, 0, 1, 3, 4] [([0, 1, 2, 3, 4, 5], [1, 4], 6), ([], [4], 7)] [8] (by decide +kernel) ?_
   simp only [vsAll, loadA, loadRow, partA, partOk, fieldAddrA, lenA, cellA, cellsA, okAll, stAll, opsA, opA, allocA, newCells, okCells, storeObj, dstOk, nilSliceOp, Nat.reduceAdd, Nat.reduceLT, Nat.reduceLeDiff, Nat.reduceEqDiff, ↓reduceIte, eq_self, wtAll]
   intro i9 hh_i9; (try simp only [Hp.set_none, ite_none] at hh_i9)
   intro i12 hh_i12; (try simp only [ite_none] at hh_i12)
   refine vs_entL (Ent.nilBox 4 (smF []) (fun id _ => tbC g (.sl id 4 0) (.lit (.slice none 0 0))) (j := i12) (st' := 7) (n' := 1) (g := fun _ => tbC g (.lit (.slice none 0 0)) (.lit (.slice none 0 0))) (by simp only [vsAll, ↓reduceIte, eq_self]; try rfl) (fun _ _ _ => rfl) (fun id q d hq hd => ?_) fun ih hih => ?_)
   ·match d, hd with
    | 0, _ => exact .hit
    | 1, _ => exact .rfl
    | 2, _ => exact .rfl
    | 3, _ => exact .rfl
    | 4, _ => exact .rfl
    | 5, _ => exact .rfl
    | 6, _ => exact .rfl
   simp only [Hp.set_none] at hih
   skip
   refine vs_loop (σ := Nat) (fun i => i ≤ g.N) (fun i => [(1, .lit (.int .u8 wh)), (2, .lit (.int .u8 bt)), (3, .rsl N 1 (byF b)), (4, gptr g), (9, .ref i9 0 1 0 0), (10, i64 g.cw.length), (11, .func (.func 32) [] [.ref i9 0 1 0 0]), (12, .ref i12 0 7 0 0), (88, i64 g.N), (89, i64 i)])
    (fun i => (((H.set i9 (.box 1 1 fun _ => [i64 g.N])).set ih (.row 4 i (smF (rvS g i)))).set i12 (.box 7 1 fun _ => tbC g (.sl ih 4 i) (.lit (.slice none 0 0))))) (fun i => g.N - i) 0 (Nat.zero_le _) ?_ ?_ fun i hi => ?_
   ·simp only [vsAll, argFr, Nat.reduceEqDiff, ↓reduceIte, eq_self, Int.natCast_zero]
    exact AV.Le.refl _
   ·show Go.V.HSub _ (((H.set i9 (.box 1 1 fun _ => [i64 g.sm.length])).set ih (.row 4 0 (smF []))).set i12 (.box 7 1 fun _ => tbC g (.sl ih 4 0) (.lit (.slice none 0 0))))
    (repeat (first | exact HSub_rfl | refine HSub_put_eq (by simp only [vsAll, ↓reduceIte, eq_self, hh_i12, hih]) ?_ | refine HSub_drop2 (by simp only [eq_self, hh_i9, hh_i12, hih]) ?_ | refine HSub_keep_eq (by simp only [vsAll, ↓reduceIte, eq_self, reduceCtorEq, Nat.reduceEqDiff, hh_i9, hh_i12, hih]) ?_))
   ·simp only [vsAll, binA, binLitA, intA, opA, dstOk, Nat.reduceLT, Nat.reduceEqDiff, ↓reduceIte, eq_self]
    refine condD (fun hd => ?_) (fun hd => ?_)
    ·have his : i < g.N := by ((try clear hh_i9); (try clear hh_i12); (try clear hih); omega)
     have ei : (g.N : Int) - 1 - i = ((g.N - 1 - i : Nat) : Int) := by ((try clear hh_i9); (try clear hh_i12); (try clear hih); omega)
     have eS : g.sm.getD (g.N - 1 - i) sm0 = g.seam (g.N - 1 - i) := rfl
     simp only [vsAll, opA, dstOk, nilSliceOp, Nat.reduceLT, Nat.reduceEqDiff, ↓reduceIte, eq_self]
     refine vs_draw2 [0, 0, 0, 0, 0, 0, 0, 0, 0, 0, 0, 1, 2, 3] [([0, 1, 2, 3, 4, 5, 6, 7, 8, 9, 10], [], 11), ([12], [], 13)] [] (by decide +kernel) ?_
     simp only [vsAll, binA, binLitA, intA, loadA, loadRow, partA, partOk, fieldAddrA, indexAddrA, cellA, cellsA, okParts, buildSliceA, partIdx, elemsA, lensA, partsA, partsOk, opA, newCells, okCells, storeObj, appendA, dstOk, Nat.reduceAdd, Nat.reduceMul, Nat.reduceLT, Nat.reduceLeDiff, Nat.reduceEqDiff, ↓reduceIte, eq_self, wtAll, hh_i12, hih, smF_at, ei, eS]
     refine ⟨by simp only [InR_i64]; ((try clear hh_i9); (try clear hh_i12); (try clear hih); omega), by simp only [InR_i64]; ((try clear hh_i9); (try clear hh_i12); (try clear hih); omega), ⟨by ((try clear hh_i9); (try clear hh_i12); (try clear hih); omega), by ((try clear hh_i9); (try clear hh_i12); (try clear hih); omega)⟩, by ((try clear hh_i9); (try clear hh_i12); (try clear hih); omega), fun q hq => by (have : q = 0 := by ((try clear hh_i9); (try clear hh_i12); (try clear hih); omega)); subst this; exact ⟨rfl, rfl, rfl, rfl, trivial⟩, by ((try clear hh_i9); (try clear hh_i12); (try clear hih); omega), by ((try clear hh_i9); (try clear hh_i12); (try clear hih); omega), by simp only [InR_i64]; ((try clear hh_i9); (try clear hh_i12); (try clear hih); omega), loop_next (i + 1) his (by ((try clear hh_i9); (try clear hh_i12); (try clear hih); omega)) ?_ ?_⟩
     ·simp only [vsAll, Nat.reduceEqDiff, ↓reduceIte, eq_self, Int.natCast_add, Int.natCast_one]
     ·have eap : appF i 1 (smF (rvS g i)) (fun q => [[i64 (g.seam (g.N - 1 - i)).fa, i64 (g.seam (g.N - 1 - i)).dr, i64 (g.seam (g.N - 1 - i)).fl, i64 (g.seam (g.N - 1 - i)).po]].getD q []) = smF (rvS g (i + 1)) := by
       have h := app_lF Sm.cs sm0 (rvS g i) (g.seam (g.N - 1 - i)) (fun q => [[i64 (g.seam (g.N - 1 - i)).fa, i64 (g.seam (g.N - 1 - i)).dr, i64 (g.seam (g.N - 1 - i)).fl, i64 (g.seam (g.N - 1 - i)).po]].getD q []) rfl
       rw [rvS_len, ← rvS_succ] at h
       exact h
      rw [eap]
      (repeat (first | exact HSub_rfl | refine HSub_put_eq (by simp only [vsAll, ↓reduceIte, eq_self, hh_i12, hih]) ?_ | refine HSub_drop2 (by simp only [eq_self, hh_i9, hh_i12, hih]) ?_ | refine HSub_keep_eq (by simp only [vsAll, ↓reduceIte, eq_self, reduceCtorEq, Nat.reduceEqDiff, hh_i9, hh_i12, hih]) ?_))
    ·have ei : i = g.N := by ((try clear hh_i9); (try clear hh_i12); (try clear hih); omega)
     subst ei
     simp only [vsAll, ↓reduceIte, eq_self]
     have etl : AV.rsl g.N 4 (smF (rvS g g.N)) = smAV (rvS g g.N) := by
      show _ = AV.rsl (rvS g g.N).length 4 _
      rw [rvS_len]
     refine cutG_ent (Ent.weak (fun t => AV.Le.refl _) (H' := (((H.set i9 (.box 1 1 fun _ => [i64 g.N])).set ih (.row 4 g.N (smF (rvS g g.N)))).set i12 (.box 7 1 fun _ => tbC g (.sl ih 4 g.N) (.lit (.slice none 0 0))))) HSub_rfl ?_)
     refine cutG_ent (Ent.freezeBox (id := ih) (st := 4) (n := g.N) (f := smF (rvS g g.N)) (j := i12) (st' := 7) (n' := 1) (g := fun _ => tbC g (.sl ih 4 g.N) (.lit (.slice none 0 0))) (g' := fun _ => tbC g (smAV (rvS g g.N)) (.lit (.slice none 0 0))) (by simp only [vsAll, ↓reduceIte, eq_self, hih]) (by simp only [vsAll, ↓reduceIte, eq_self]) (fun t => .rfl) (fun _ _ => rfl) (fun q c hq hc => ?_) ?_)
     ·rw [← etl]
      match c, hc with
      | 0, _ => exact .hit
      | 1, _ => exact .rfl
      | 2, _ => exact .rfl
      | 3, _ => exact .rfl
      | 4, _ => exact .rfl
      | 5, _ => exact .rfl
      | 6, _ => exact .rfl
     obtain ⟨⟨a1, a2⟩, a3, a4, a5⟩ : (¬ ih = i12 ∧ ¬ i12 = ih) ∧ H ih = none ∧ ¬ i9 = i12 ∧ ¬ ih = i9 := by simp_all
     refine cutG_of (i9, i12) ⟨hh_i9, by simp_all, a4, k, h0⟩ (by simp only [vsAll, Nat.reduceEqDiff, ↓reduceIte, eq_self]) rfl (HSub_eqn fun q => ?_)
     clear hih
     simp only [Hp.set, Hp.del]
     by_cases e1 : q = ih
     ·subst e1; left; simp only [a1, a3, a5, if_false]
     right
     by_cases e7 : q = i12
     ·subst e7; simp only [if_true]
     simp only [e1, e7, if_false]
 ·obtain ⟨i9, i12⟩ := y
  obtain ⟨h9, h12, n912, k, h0⟩ := hy
  simp only [] at h9 h12 n912
  have n129 : ¬ i12 = i9 := fun e => n912 e.symm
  skip
  have kn := k.near
  have nS := k.nS
  have nC := k.nC
  have hNe : g.N = g.sm.length := rfl
  have hN5 : g.N ≤ 5 := nS
  refine wps_cutG (m := fun _ => false) (σ := Unit) (fun _ => True) (fun _ => [(1, .lit (.int .u8 wh)), (2, .lit (.int .u8 bt)), (3, .rsl N 1 (byF b)), (4, gptr g), (9, .ref i9 0 1 0 0), (10, i64 g.cw.length), (11, .func (.func 32) [] [.ref i9 0 1 0 0]), (12, .ref i12 0 7 0 0)]) (fun _ => (H.set i9 (.box 1 1 fun _ => [i64 g.N])).set i12 (.box 7 1 fun _ => (turG g).cs)) (fun _ => []) ?_ fun _ _ => ?_
  ·simp only [vsAll, loadA, loadRow, partA, partOk, fieldAddrA, lenA, opA, dstOk, Nat.reduceLT, Nat.reduceEqDiff, ↓reduceIte, eq_self, wtAll, Try.ntmps8]
   refine vs_entL (Ent.nilBox 3 (cwF []) (fun id _ => tbC g (smAV (rvS g g.N)) (.sl id 3 0)) (j := i12) (st' := 7) (n' := 1) (g := fun _ => tbC g (smAV (rvS g g.N)) (.lit (.slice none 0 0))) (by simp only [vsAll, ↓reduceIte, eq_self]; try rfl) (fun _ _ _ => rfl) (fun id q d hq hd => ?_) fun ih hih => ?_)
   ·match d, hd with
    | 0, _ => exact .rfl
    | 1, _ => exact .hit
    | 2, _ => exact .rfl
    | 3, _ => exact .rfl
    | 4, _ => exact .rfl
    | 5, _ => exact .rfl
    | 6, _ => exact .rfl
   simp only [Hp.set_none] at hih
   skip
   refine vs_loop (σ := Nat) (fun i => i ≤ g.cw.length) (fun i => [(1, .lit (.int .u8 wh)), (2, .lit (.int .u8 bt)), (3, .rsl N 1 (byF b)), (4, gptr g), (9, .ref i9 0 1 0 0), (10, i64 g.cw.length), (11, .func (.func 32) [] [.ref i9 0 1 0 0]), (12, .ref i12 0 7 0 0), (108, i64 g.cw.length), (109, i64 i)])
    (fun i => (((H.set i9 (.box 1 1 fun _ => [i64 g.N])).set ih (.row 3 i (cwF (rvC g i)))).set i12 (.box 7 1 fun _ => tbC g (smAV (rvS g g.N)) (.sl ih 3 i)))) (fun i => g.cw.length - i) 0 (Nat.zero_le _) ?_ ?_ fun i hi => ?_
   ·simp only [vsAll, Nat.reduceEqDiff, ↓reduceIte, eq_self, Int.natCast_zero]
   ·show Go.V.HSub _ (((H.set i9 (.box 1 1 fun _ => [i64 g.N])).set ih (.row 3 0 (cwF []))).set i12 (.box 7 1 fun _ => tbC g (smAV (rvS g g.N)) (.sl ih 3 0)))
    (repeat (first | exact HSub_rfl | refine HSub_put_eq (by simp only [vsAll, ↓reduceIte, eq_self, n912, hih]) ?_ | refine HSub_drop2 (by simp only [eq_self, h9, h12, hih]) ?_ | refine HSub_keep_eq (by simp only [vsAll, ↓reduceIte, eq_self, reduceCtorEq, Nat.reduceEqDiff, h9, h12, n912, n129, hih]) ?_))
   ·simp only [vsAll, binA, binLitA, intA, opA, dstOk, Nat.reduceLT, Nat.reduceEqDiff, ↓reduceIte, eq_self]
    refine condD (fun hd => ?_) (fun hd => ?_)
    ·have his : i < g.cw.length := by ((try clear h9); (try clear h12); (try clear n912); (try clear n129); (try clear hih); omega)
     have ei : (g.cw.length : Int) - 1 - i = ((g.cw.length - 1 - i : Nat) : Int) := by ((try clear h9); (try clear h12); (try clear n912); (try clear n129); (try clear hih); omega)
     have eS : g.cw.getD (g.cw.length - 1 - i) cw0 = g.crew (g.cw.length - 1 - i) := rfl
     have hcc := k.crew (i := g.cw.length - 1 - i) (by ((try clear h9); (try clear h12); (try clear n912); (try clear n129); (try clear hih); omega))
     have hst := st_lt k (c := g.cw.length - 1 - i) (by ((try clear h9); (try clear h12); (try clear n912); (try clear n129); (try clear hih); omega))
     have est : (g.crew (g.cw.length - 1 - i)).st = (((g.crew (g.cw.length - 1 - i)).st.toNat : Nat) : Int) := by
      have := hcc.2.2.2.1
      ((try clear h9); (try clear h12); (try clear n912); (try clear n129); (try clear hih); omega)
     obtain ⟨z, hz⟩ : ∃ z : Nat, (g.crew (g.cw.length - 1 - i)).st = (z : Int) := ⟨_, est⟩
     have hz2 : z < 32 := by have := hst.2.2; ((try clear h9); (try clear h12); (try clear n912); (try clear n129); (try clear hih); omega)
     have hol := oth_lt g.N z
     have hpn : 2 ^ g.N ≤ 2 ^ 5 := Nat.pow_le_pow_right (by decide) hN5
     simp only [vsAll, binA, binLitA, intA, loadA, loadRow, partA, partOk, fieldAddrA, indexAddrA, cellA, okAll, stAll, opsA, opA, allocA, newCells, okCells, storeObj, dstOk, nilSliceOp, Nat.reduceAdd, Nat.reduceLT, Nat.reduceEqDiff, ↓reduceIte, eq_self, wtAll, cwF_at, ei, eS, hz]
     refine ⟨by simp only [InR_i64]; ((try clear h9); (try clear h12); (try clear n912); (try clear n129); (try clear hih); omega), by simp only [InR_i64]; ((try clear h9); (try clear h12); (try clear n912); (try clear n129); (try clear hih); omega), ⟨by ((try clear h9); (try clear h12); (try clear n912); (try clear n129); (try clear hih); omega), by ((try clear h9); (try clear h12); (try clear n912); (try clear n129); (try clear hih); omega)⟩, by ((try clear h9); (try clear h12); (try clear n912); (try clear n129); (try clear hih); omega), ?_⟩
     intro i15 hh_i15; (try simp only [ite_none] at hh_i15)
     refine callK_pure (oth_tri g.N z i9 _ hN5 (by ((try clear h9); (try clear h12); (try clear n912); (try clear n129); (try clear hih); (try clear hh_i15); omega)) (by simp only [vsAll, ↓reduceIte, eq_self, n912, hih, hh_i15])) ?_
     simp only [vsAll, binA, binLitA, intA, loadA, loadRow, partA, partOk, fieldAddrA, cellA, cellsA, okParts, buildSliceA, partIdx, elemsA, lensA, partsA, partsOk, opA, newCells, okCells, storeObj, appendA, dstOk, Nat.reduceAdd, Nat.reduceMul, Nat.reduceLT, Nat.reduceLeDiff, Nat.reduceEqDiff, ↓reduceIte, eq_self, wtAll, hih, hh_i15]
     have eap : appF i 1 (cwF (rvC g i)) (fun q => [[i64 (g.crew (g.cw.length - 1 - i)).lo, i64 (g.crew (g.cw.length - 1 - i)).hi, i64 (oth g.N z : Nat)]].getD q []) = cwF (rvC g (i + 1)) := by
      have h := app_lF Cw.cs cw0 (rvC g i) ⟨(g.crew (g.cw.length - 1 - i)).lo, (g.crew (g.cw.length - 1 - i)).hi, (oth g.N z : Nat)⟩ (fun q => [[i64 (g.crew (g.cw.length - 1 - i)).lo, i64 (g.crew (g.cw.length - 1 - i)).hi, i64 (oth g.N z : Nat)]].getD q []) rfl
      rw [rvC_len] at h
      rw [rvC_succ, hz, Int.toNat_natCast]
      exact h
     rw [eap]
     refine ⟨fun q hq => by (have : q = 0 := by ((try clear h9); (try clear h12); (try clear n912); (try clear n129); (try clear hih); (try clear hh_i15); omega)); subst this; exact ⟨rfl, rfl, rfl, trivial⟩, by ((try clear h9); (try clear h12); (try clear n912); (try clear n129); (try clear hih); (try clear hh_i15); omega), by ((try clear h9); (try clear h12); (try clear n912); (try clear n129); (try clear hih); (try clear hh_i15); omega), by simp only [InR_i64]; ((try clear h9); (try clear h12); (try clear n912); (try clear n129); (try clear hih); (try clear hh_i15); omega), loop_next (i + 1) his (by ((try clear h9); (try clear h12); (try clear n912); (try clear n129); (try clear hih); (try clear hh_i15); omega)) ?_ ?_⟩
     ·simp only [vsAll, Nat.reduceEqDiff, ↓reduceIte, eq_self, Int.natCast_add, Int.natCast_one]
     ·(repeat (first | exact HSub_rfl | refine HSub_put_eq (by simp only [vsAll, ↓reduceIte, eq_self, n912, hih, hh_i15]) ?_ | refine HSub_drop2 (by simp only [eq_self, h9, h12, hih, hh_i15]) ?_ | refine HSub_keep_eq (by simp only [vsAll, ↓reduceIte, eq_self, reduceCtorEq, Nat.reduceEqDiff, h9, h12, n912, n129, hih, hh_i15]) ?_))
    ·have ei : i = g.cw.length := by ((try clear h9); (try clear h12); (try clear n912); (try clear n129); (try clear hih); omega)
     subst ei
     simp only [vsAll, ↓reduceIte, eq_self]
     have etl : AV.rsl g.cw.length 3 (cwF (rvC g g.cw.length)) = cwAV (turG g).cw := by
      show _ = AV.rsl (rvC g g.cw.length).length 3 (cwF (rvC g g.cw.length))
      rw [rvC_len]
     refine cutG_ent (Ent.weak (fun t => AV.Le.refl _) (H' := (((H.set i9 (.box 1 1 fun _ => [i64 g.N])).set ih (.row 3 g.cw.length (cwF (rvC g g.cw.length)))).set i12 (.box 7 1 fun _ => tbC g (smAV (rvS g g.N)) (.sl ih 3 g.cw.length)))) HSub_rfl ?_)
     refine cutG_ent (Ent.freezeBox (id := ih) (st := 3) (n := g.cw.length) (f := cwF (rvC g g.cw.length)) (j := i12) (st' := 7) (n' := 1) (g := fun _ => tbC g (smAV (rvS g g.N)) (.sl ih 3 g.cw.length)) (g' := fun _ => (turG g).cs) (by simp only [vsAll, ↓reduceIte, eq_self, hih]) (by simp only [vsAll, ↓reduceIte, eq_self]) (fun t => .rfl) (fun _ _ => rfl) (fun q c hq hc => ?_) ?_)
     ·simp only [Gg.cs]
      rw [← etl]
      match c, hc with
      | 0, _ => exact .rfl
      | 1, _ => exact .hit
      | 2, _ => exact .rfl
      | 3, _ => exact .rfl
      | 4, _ => exact .rfl
      | 5, _ => exact .rfl
      | 6, _ => exact .rfl
     obtain ⟨⟨a1, a2⟩, a3, a5⟩ : (¬ ih = i12 ∧ ¬ i12 = ih) ∧ H ih = none ∧ ¬ ih = i9 := by simp_all
     refine cutG_of () trivial (by simp only [vsAll, Nat.reduceEqDiff, ↓reduceIte, eq_self]) rfl (HSub_eqn fun q => ?_)
     clear hih
     simp only [Hp.set, Hp.del]
     by_cases e1 : q = ih
     ·subst e1; left; simp only [a1, a3, a5, if_false]
     right
     by_cases e7 : q = i12
     ·subst e7; simp only [if_true]
     simp only [e1, e7, if_false]
  ·refine wps_cutG (m := mset [132, 136]) (σ := Unit) (fun _ => True) (fun _ => [(16, smAV g.sm), (17, cwAV g.cw), (1, .lit (.int .u8 wh)), (2, .lit (.int .u8 bt)), (3, .rsl N 1 (byF b)), (4, gptr g), (9, .ref i9 0 1 0 0), (10, i64 g.cw.length), (11, .func (.func 32) [] [.ref i9 0 1 0 0]), (12, .ref i12 0 7 0 0)]) (fun _ => (H.set i9 (.box 1 1 fun _ => [i64 g.N])).set i12 (.box 7 1 fun _ => (turG g).cs)) (fun _ => []) ?_ fun _ _ => ?_
   ·simp only [Try.ntmps8]
    refine vs_draw3 [0, 3, 4, 7] [([1, 0, 0, 3, 5, 0, 0, 7, 8, 8], [([1, 2, 5, 6], [2, 6], 0), ([], [6], 3), ([], [6], 4), ([], [], 7)], [8, 9]), ([1, 0, 0, 5, 3, 0, 0, 7, 8, 8], [([1, 2, 5, 6], [2, 6], 0), ([], [2, 6], 4), ([], [6], 3), ([], [], 7)], [8, 9]), ([3, 0, 0, 5, 1, 0, 0, 7, 8, 8], [([1, 2, 5, 6], [2, 6], 4), ([], [2, 6], 0), ([], [6], 3), ([], [], 7)], [8, 9])] (by decide +kernel) fun pn hpn => ?_
    have okF : ∀ i, i < g.sm.length → okCells (smF g.sm i) := fun i _ => ⟨rfl, rfl, rfl, rfl, trivial⟩
    have okS' : ∀ i, i < g.cw.length → okCells (cwF g.cw i) := fun i _ => ⟨rfl, rfl, rfl, trivial⟩
    have leF : Obj.Le (.row 4 g.sm.length (appF 0 g.sm.length (fun _ => []) (smF g.sm))) (.row 4 g.sm.length (smF g.sm)) := row_ext fun q hq => by rw [appF_at (by ((try clear h9); (try clear h12); (try clear n912); (try clear n129); omega)), if_neg (by ((try clear h9); (try clear h12); (try clear n912); (try clear n129); omega)), Nat.sub_zero]
    have leS : Obj.Le (.row 3 g.cw.length (appF 0 g.cw.length (fun _ => []) (cwF g.cw))) (.row 3 g.cw.length (cwF g.cw)) := row_ext fun q hq => by rw [appF_at (by ((try clear h9); (try clear h12); (try clear n912); (try clear n129); omega)), if_neg (by ((try clear h9); (try clear h12); (try clear n912); (try clear n129); omega)), Nat.sub_zero]
    simp only [List.mem_cons, List.not_mem_nil, or_false] at hpn
    rcases hpn with rfl | rfl | rfl
    ·simp only [vsAll, loadA, loadRow, partA, partOk, fieldAddrA, okParts, buildMutA, partIdx, elemsA, lensA, partsA, partsOk, opA, appendA, dstOk, Nat.reduceMul, Nat.reduceLT, Nat.reduceLeDiff, Nat.reduceEqDiff, Nat.reduceBEq, ↓reduceIte, eq_self, wtAll]
     intro ih hh_ih; (try simp only [ite_none] at hh_ih)
     refine ⟨okF, by ((try clear h9); (try clear h12); (try clear n912); (try clear n129); (try clear hh_ih); omega), by ((try clear h9); (try clear h12); (try clear n912); (try clear n129); (try clear hh_ih); omega), ?_⟩
     intro is hh_is; (try simp only [ite_none] at hh_is)
     refine ⟨okS', by ((try clear h9); (try clear h12); (try clear n912); (try clear n129); (try clear hh_ih); (try clear hh_is); omega), by ((try clear h9); (try clear h12); (try clear n912); (try clear n129); (try clear hh_ih); (try clear hh_is); omega), ?_⟩
     refine cut_cp () trivial g ih is (H0 := ((H.set i9 (.box 1 1 fun _ => [i64 g.N])).set i12 (.box 7 1 fun _ => (turG g).cs))) (by simp_all [Hp.set]) (by simp_all [Hp.set]) (by simp_all) (by simp only [vsAll, Nat.reduceEqDiff, ↓reduceIte, eq_self]) rfl (by simp only [vsAll, Nat.reduceEqDiff, ↓reduceIte, eq_self]) rfl ?_
     exact HSub.trans (B := (((H.set i9 (.box 1 1 fun _ => [i64 g.N])).set i12 (.box 7 1 fun _ => (turG g).cs)).set ih (.row 4 g.sm.length (appF 0 g.sm.length (fun _ => []) (smF g.sm)))).set is (.row 3 g.cw.length (appF 0 g.cw.length (fun _ => []) (cwF g.cw)))) (by (repeat (first | exact HSub_rfl | refine HSub_put_eq (by simp only [vsAll, ↓reduceIte, eq_self, n912, hh_ih, hh_is]) ?_ | refine HSub_drop2 (by simp only [eq_self, h9, h12, hh_ih, hh_is]) ?_ | refine HSub_keep_eq (by simp only [vsAll, ↓reduceIte, eq_self, reduceCtorEq, Nat.reduceEqDiff, h9, h12, n912, n129, hh_ih, hh_is]) ?_))) (HSub.set (HSub.set (HSub.refl _) leF) leS)
    ·simp only [vsAll, loadA, loadRow, partA, partOk, fieldAddrA, okParts, buildMutA, partIdx, elemsA, lensA, partsA, partsOk, opA, appendA, dstOk, Nat.reduceMul, Nat.reduceLT, Nat.reduceLeDiff, Nat.reduceEqDiff, Nat.reduceBEq, ↓reduceIte, eq_self, wtAll]
     intro ih hh_ih; (try simp only [ite_none] at hh_ih); intro is hh_is; (try simp only [ite_none] at hh_is)
     simp only [vsAll, ↓reduceIte, eq_self, hh_is]
     refine ⟨okF, by ((try clear h9); (try clear h12); (try clear n912); (try clear n129); (try clear hh_ih); (try clear hh_is); omega), by ((try clear h9); (try clear h12); (try clear n912); (try clear n129); (try clear hh_ih); (try clear hh_is); omega), okS', by ((try clear h9); (try clear h12); (try clear n912); (try clear n129); (try clear hh_ih); (try clear hh_is); omega), by ((try clear h9); (try clear h12); (try clear n912); (try clear n129); (try clear hh_ih); (try clear hh_is); omega), ?_⟩
     refine cut_cp () trivial g ih is (H0 := ((H.set i9 (.box 1 1 fun _ => [i64 g.N])).set i12 (.box 7 1 fun _ => (turG g).cs))) (by simp_all [Hp.set]) (by simp_all [Hp.set]) (by simp_all) (by simp only [vsAll, Nat.reduceEqDiff, ↓reduceIte, eq_self]) rfl (by simp only [vsAll, Nat.reduceEqDiff, ↓reduceIte, eq_self]) rfl ?_
     exact HSub.trans (B := (((H.set i9 (.box 1 1 fun _ => [i64 g.N])).set i12 (.box 7 1 fun _ => (turG g).cs)).set ih (.row 4 g.sm.length (appF 0 g.sm.length (fun _ => []) (smF g.sm)))).set is (.row 3 g.cw.length (appF 0 g.cw.length (fun _ => []) (cwF g.cw)))) (by (repeat (first | exact HSub_rfl | refine HSub_put_eq (by simp only [vsAll, ↓reduceIte, eq_self, n912, hh_ih, hh_is]) ?_ | refine HSub_drop2 (by simp only [eq_self, h9, h12, hh_ih, hh_is]) ?_ | refine HSub_keep_eq (by simp only [vsAll, ↓reduceIte, eq_self, reduceCtorEq, Nat.reduceEqDiff, h9, h12, n912, n129, hh_ih, hh_is]) ?_))) (HSub.set (HSub.set (HSub.refl _) leF) leS)
    ·simp only [vsAll, loadA, loadRow, partA, partOk, fieldAddrA, okParts, buildMutA, partIdx, elemsA, lensA, partsA, partsOk, opA, appendA, dstOk, Nat.reduceMul, Nat.reduceLT, Nat.reduceLeDiff, Nat.reduceEqDiff, Nat.reduceBEq, ↓reduceIte, eq_self, wtAll]
     intro is hh_is; (try simp only [ite_none] at hh_is); intro ih hh_ih; (try simp only [ite_none] at hh_ih)
     simp only [vsAll, ↓reduceIte, eq_self, hh_ih]
     refine ⟨okF, by ((try clear h9); (try clear h12); (try clear n912); (try clear n129); (try clear hh_is); (try clear hh_ih); omega), by ((try clear h9); (try clear h12); (try clear n912); (try clear n129); (try clear hh_is); (try clear hh_ih); omega), okS', by ((try clear h9); (try clear h12); (try clear n912); (try clear n129); (try clear hh_is); (try clear hh_ih); omega), by ((try clear h9); (try clear h12); (try clear n912); (try clear n129); (try clear hh_is); (try clear hh_ih); omega), ?_⟩
     refine cut_cp () trivial g ih is (H0 := ((H.set i9 (.box 1 1 fun _ => [i64 g.N])).set i12 (.box 7 1 fun _ => (turG g).cs))) (by simp_all [Hp.set]) (by simp_all [Hp.set]) (by simp_all) (by simp only [vsAll, Nat.reduceEqDiff, ↓reduceIte, eq_self]) rfl (by simp only [vsAll, Nat.reduceEqDiff, ↓reduceIte, eq_self]) rfl ?_
     exact HSub.trans (B := (((H.set i9 (.box 1 1 fun _ => [i64 g.N])).set i12 (.box 7 1 fun _ => (turG g).cs)).set ih (.row 4 g.sm.length (appF 0 g.sm.length (fun _ => []) (smF g.sm)))).set is (.row 3 g.cw.length (appF 0 g.cw.length (fun _ => []) (cwF g.cw)))) (by (repeat (first | exact HSub_rfl | refine HSub_put_eq (by simp only [vsAll, ↓reduceIte, eq_self, n912, hh_is, hh_ih]) ?_ | refine HSub_drop2 (by simp only [eq_self, h9, h12, hh_is, hh_ih]) ?_ | refine HSub_keep_eq (by simp only [vsAll, ↓reduceIte, eq_self, reduceCtorEq, Nat.reduceEqDiff, h9, h12, n912, n129, hh_is, hh_ih]) ?_))) (HSub.set (HSub.set (HSub.refl _) leF) leS)
   ·refine wps_cutG4 (m := mset [20]) (σ := Nat × List Int) (fun y => y.1 < g.cw.length ∧ rowB g y.2 = true) (fun y => [(18, i64 y.1), (19, intsAV y.2), (20, intsAV (bkL g y.2)), (16, smAV g.sm), (17, cwAV g.cw), (1, .lit (.int .u8 wh)), (2, .lit (.int .u8 bt)), (3, .rsl N 1 (byF b)), (4, gptr g), (9, .ref i9 0 1 0 0), (10, i64 g.cw.length), (11, .func (.func 32) [] [.ref i9 0 1 0 0]), (12, .ref i12 0 7 0 0)]) (fun _ => (H.set i9 (.box 1 1 fun _ => [i64 g.N])).set i12 (.box 7 1 fun _ => (turG g).cs)) (fun _ => []) ?_ fun y hy => ?_
    ·have hm0 : 0 ≤ wh.tmod (g.cw.length : Int) := Int.tmod_nonneg _ hwh.1
     have hm1 : wh.tmod (g.cw.length : Int) < g.cw.length := Int.tmod_lt_of_pos _ (by ((try clear h9); (try clear h12); (try clear n912); (try clear n129); omega))
     obtain ⟨c, hcw⟩ : ∃ i : Nat, wh.tmod (g.cw.length : Int) = (i : Int) := ⟨(wh.tmod (g.cw.length : Int)).toNat, by ((try clear h9); (try clear h12); (try clear n912); (try clear n129); omega)⟩
     have hc : c < g.cw.length := by ((try clear h9); (try clear h12); (try clear n912); (try clear n129); omega)
     have hpw : 2 ^ g.N ≤ 2 ^ 5 := Nat.pow_le_pow_right (by ((try clear h9); (try clear h12); (try clear n912); (try clear n129); omega)) hN5
     have hp0 : 0 < 2 ^ g.N := Nat.two_pow_pos _
     have ep : (1 : Int) * 2 ^ g.N = ((2 ^ g.N : Nat) : Int) := by rw [Int.one_mul]; simp
     have eTN : (((2 ^ g.N : Nat) : Int) - 1).toNat = 2 ^ g.N - 1 := by ((try clear h9); (try clear h12); (try clear n912); (try clear n129); omega)
     simp only [vsAll, binA, binLitA, intA, convA, opA, dstOk, nilSliceOp, Nat.reduceLT, Nat.reduceEqDiff, Nat.reduceBEq, ↓reduceIte, eq_self, ne_eq, wtAll, Try.ntmps8, hcw]
     refine ⟨by simp only [InR_i64]; ((try clear h9); (try clear h12); (try clear n912); (try clear n129); omega), by ((try clear h9); (try clear h12); (try clear n912); (try clear n129); omega), ?_⟩
     refine vs_draw2 [0, 0, 0, 0, 0, 0, 0, 0, 1, 2] [([0, 1, 2, 3, 4, 5, 6, 7], [], 8)] [9] (by decide +kernel) ?_
     simp only [vsAll, binA, binLitA, intA, loadA, loadRow, partA, partOk, convA, okAll, stAll, opsA, opA, dstOk, Nat.reduceLT, Nat.reduceEqDiff, ↓reduceIte, eq_self, wtAll, n912, ep, eTN]
     refine ⟨by simp only [InR_i64]; ((try clear h9); (try clear h12); (try clear n912); (try clear n129); omega), ⟨by ((try clear h9); (try clear h12); (try clear n912); (try clear n129); omega), by ((try clear h9); (try clear h12); (try clear n912); (try clear n129); omega), by simp only [InR_i64]; ((try clear h9); (try clear h12); (try clear n912); (try clear n129); omega)⟩, by simp only [InR_i64]; ((try clear h9); (try clear h12); (try clear n912); (try clear n129); omega), ⟨by ((try clear h9); (try clear h12); (try clear n912); (try clear n129); omega), by ((try clear h9); (try clear h12); (try clear n912); (try clear n129); omega), by simp only [InR_i64]; ((try clear h9); (try clear h12); (try clear n912); (try clear n129); omega), by simp only [InR_i64]; ((try clear h9); (try clear h12); (try clear n912); (try clear n129); omega)⟩, ?_⟩
     have hSle : bt.toNat &&& (2 ^ g.N - 1) < 2 ^ g.N := by
      have := Nat.and_le_right (n := bt.toNat) (m := 2 ^ g.N - 1)
      ((try clear h9); (try clear h12); (try clear n912); (try clear n129); omega)
     generalize bt.toNat &&& (2 ^ g.N - 1) = S at hSle ⊢
     refine callK (drawn_tri g S N b _ k hSle hB.1 hB.2) ?_
     rintro r H' ⟨rfl, l, hro, hlen, rfl⟩
     have hrb := rowB_of hSle hro
     have hll := row_len k hrb
     have hil := row_inG hrb
     have hbl : (bkL g l).length = l.length := mpL_len _ _
     simp only [vsAll, opA, dstOk, Nat.reduceLT, Nat.reduceBEq, ↓reduceIte, eq_self]
     intro i20 hh_i20; (try simp only [Hp.set_none] at hh_i20)
     simp only [vsAll, lenA, opA, dstOk, Nat.reduceLT, Nat.reduceEqDiff, ↓reduceIte, eq_self, wtAll]
     refine vs_loop (σ := Nat) (fun i => i ≤ l.length) (fun i => [(18, i64 c), (19, intsAV l), (20, .sl i20 1 i), (16, smAV g.sm), (17, cwAV g.cw), (1, .lit (.int .u8 wh)), (2, .lit (.int .u8 bt)), (3, .rsl N 1 (byF b)), (4, gptr g), (9, .ref i9 0 1 0 0), (10, i64 g.cw.length), (11, .func (.func 32) [] [.ref i9 0 1 0 0]), (12, .ref i12 0 7 0 0), (153, intsAV l), (154, i64 l.length), (155, i64 i)])
      (fun i => ((H.set i9 (.box 1 1 fun _ => [i64 g.N])).set i12 (.box 7 1 fun _ => (turG g).cs)).set i20 (.row 1 i (intF ((bkL g l).take i)))) (fun i => l.length - i) 0 (Nat.zero_le _) ?_ ?_ fun i hi => ?_
     ·simp only [vsAll, Nat.reduceEqDiff, ↓reduceIte, eq_self, Int.natCast_zero]
      exact AV.Le.refl _
     ·exact HSub.set (HSub.refl _) (row_ext fun q hq => absurd hq (by ((try clear h9); (try clear h12); (try clear n912); (try clear n129); (try clear hh_i20); omega)))
     ·simp only [vsAll, binA, binLitA, intA, opA, dstOk, Nat.reduceLT, Nat.reduceEqDiff, ↓reduceIte, eq_self]
      refine condD (fun hd => ?_) (fun hd => ?_)
      ·have his : i < l.length := by ((try clear h9); (try clear h12); (try clear n912); (try clear n129); (try clear hh_i20); omega)
       obtain ⟨n, e, hn⟩ := hil i his
       have ei : (g.N : Int) - 1 - n = ((g.N - 1 - n : Nat) : Int) := by ((try clear h9); (try clear h12); (try clear n912); (try clear n129); (try clear hh_i20); omega)
       have hbt : ((bkL g l).take i).length = i := by rw [List.length_take]; ((try clear h9); (try clear h12); (try clear n912); (try clear n129); (try clear hh_i20); omega)
       have hbs : (bkL g l).take (i + 1) = (bkL g l).take i ++ [((g.N - 1 - n : Nat) : Int)] := by
        rw [List.take_add_one, List.getElem?_eq_getElem (by ((try clear h9); (try clear h12); (try clear n912); (try clear n129); (try clear hh_i20); omega))]
        have h : (bkL g l).getD i 0 = ((g.N - 1 - n : Nat) : Int) := by
         unfold bkL
         rw [mpL_at (fun n => g.N - 1 - n) l his, e, Int.toNat_natCast]
        rw [List.getD_eq_getElem?_getD, List.getElem?_eq_getElem (show i < (bkL g l).length by ((try clear h9); (try clear h12); (try clear n912); (try clear n129); (try clear hh_i20); omega))] at h
        show _ ++ [_] = _
        exact congrArg (fun z => (bkL g l).take i ++ [z]) h
       have eap : appF i 1 (intF ((bkL g l).take i)) (fun q => [[AV.lit (.int .i64 ((g.N - 1 - n : Nat) : Int))]].getD q []) = intF ((bkL g l).take (i + 1)) := by
        have h := app_ints ((bkL g l).take i) ((g.N - 1 - n : Nat) : Int) (fun q => [[AV.lit (.int .i64 ((g.N - 1 - n : Nat) : Int))]].getD q []) rfl
        rw [hbt] at h
        rw [hbs]
        exact h
       simp only [vsAll, binA, binLitA, intA, loadA, loadRow, partA, partOk, indexAddrA, cellA, cellsA, okParts, buildSliceA, partIdx, elemsA, lensA, partsA, partsOk, opA, appendA, dstOk, nilSliceOp, Nat.reduceMul, Nat.reduceLT, Nat.reduceLeDiff, Nat.reduceEqDiff, Nat.reduceBEq, ↓reduceIte, eq_self, wtAll, n912, hh_i20, intF_at, e, ei]
       rw [eap]
       refine ⟨⟨by ((try clear h9); (try clear h12); (try clear n912); (try clear n129); (try clear hh_i20); omega), by ((try clear h9); (try clear h12); (try clear n912); (try clear n129); (try clear hh_i20); omega)⟩, his, by simp only [InR_i64]; ((try clear h9); (try clear h12); (try clear n912); (try clear n129); (try clear hh_i20); omega), by simp only [InR_i64]; ((try clear h9); (try clear h12); (try clear n912); (try clear n129); (try clear hh_i20); omega), fun q hq => by (have : q = 0 := by ((try clear h9); (try clear h12); (try clear n912); (try clear n129); (try clear hh_i20); omega)); subst this; exact ⟨rfl, trivial⟩, by ((try clear h9); (try clear h12); (try clear n912); (try clear n129); (try clear hh_i20); omega), by ((try clear h9); (try clear h12); (try clear n912); (try clear n129); (try clear hh_i20); omega), by simp only [InR_i64]; ((try clear h9); (try clear h12); (try clear n912); (try clear n129); (try clear hh_i20); omega), loop_next (i + 1) his (by ((try clear h9); (try clear h12); (try clear n912); (try clear n129); (try clear hh_i20); omega)) ?_ ?_⟩
       ·simp only [vsAll, Nat.reduceEqDiff, ↓reduceIte, eq_self, Int.natCast_add, Int.natCast_one]
       ·rw [Hp.set_set]; exact HSub_rfl
      ·have ei : i = l.length := by ((try clear h9); (try clear h12); (try clear n912); (try clear n129); (try clear hh_i20); omega)
       subst ei
       have etk : (bkL g l).take l.length = bkL g l := by rw [← hbl]; exact List.take_length
       have ebk : AV.rsl l.length 1 (intF (bkL g l)) = intsAV (bkL g l) := by
        show _ = AV.rsl (bkL g l).length 1 _
        rw [hbl]
       simp only [vsAll, ↓reduceIte, eq_self, etk]
       have hn20 : ((H.set i9 (.box 1 1 fun _ => [i64 g.N])).set i12 (.box 7 1 fun _ => (turG g).cs)) i20 = none := by simp_all [Hp.set]
       refine cutG_ent (Ent.of [(20, .sl i20 1 l.length), (18, i64 c), (19, intsAV l), (16, smAV g.sm), (17, cwAV g.cw), (1, .lit (.int .u8 wh)), (2, .lit (.int .u8 bt)), (3, .rsl N 1 (byF b)), (4, gptr g), (9, .ref i9 0 1 0 0), (10, i64 g.cw.length), (11, .func (.func 32) [] [.ref i9 0 1 0 0]), (12, .ref i12 0 7 0 0)] (by simp only [vsAll, Nat.reduceEqDiff, ↓reduceIte, eq_self]) (H' := ((H.set i9 (.box 1 1 fun _ => [i64 g.N])).set i12 (.box 7 1 fun _ => (turG g).cs)).set i20 (.row 1 l.length (intF (bkL g l)))) HSub_rfl ?_)
       refine cutG_ent (Ent.freeze (id := i20) (st := 1) (n := l.length) (f := intF (bkL g l)) (s' := Fr.of [(20, .rsl l.length 1 (intF (bkL g l))), (18, i64 c), (19, intsAV l), (16, smAV g.sm), (17, cwAV g.cw), (1, .lit (.int .u8 wh)), (2, .lit (.int .u8 bt)), (3, .rsl N 1 (byF b)), (4, gptr g), (9, .ref i9 0 1 0 0), (10, i64 g.cw.length), (11, .func (.func 32) [] [.ref i9 0 1 0 0]), (12, .ref i12 0 7 0 0)]) (Hp.set_same _ _ _) (FzL.frz (.hit (FzL.refl _))) ?_)
       rw [ebk]
       refine cutG_of (c, l) ⟨hc, hrb⟩ (by simp only [vsAll, Nat.reduceEqDiff, ↓reduceIte, eq_self]) rfl (HSub_eqn fun q => ?_)
       by_cases e1 : q = i20
       ·subst e1; left; exact hn20
       right
       rw [Hp.del_ne _ e1, Hp.set_ne _ _ e1]
    ·obtain ⟨c, l⟩ := y
     obtain ⟨hc, hrb⟩ := hy
     simp only [] at hc hrb
     have hll := row_len k hrb
     have hil := row_inG hrb
     have hbl : (bkL g l).length = l.length := mpL_len _ _
     have kx := turG_ok k
     have knx := kx.near
     have exN := turG_N g
     have exM := turG_len g
     obtain ⟨t1, t2, t3, t4⟩ := tur_row k hc hrb
     have ed : (g.cw.length : Int) - 1 - c = ((g.cw.length - 1 - c : Nat) : Int) := by ((try clear h9); (try clear h12); (try clear n912); (try clear n129); omega)
     generalize hd : g.cw.length - 1 - c = d at t1 t2 t3 t4 ed
     refine wps_cutG12 (m := fun _ => false) (σ := Unit) (fun _ => True) (fun _ => [(40, .func (.func 26) [] []), (18, i64 c), (19, intsAV l), (16, smAV g.sm), (17, cwAV g.cw), (1, .lit (.int .u8 wh)), (2, .lit (.int .u8 bt)), (3, .rsl N 1 (byF b)), (4, gptr g), (9, .ref i9 0 1 0 0), (10, i64 g.cw.length), (11, .func (.func 32) [] [.ref i9 0 1 0 0]), (12, .ref i12 0 7 0 0)]) (fun _ => (H.set i9 (.box 1 1 fun _ => [i64 g.N])).set i12 (.box 7 1 fun _ => (turG g).cs)) (fun _ => []) ?_ fun _ _ => ?_
     ·simp only [vsAll, loadA, loadRow, partA, partOk, okAll, stAll, opsA, opA, dstOk, Nat.reduceLT, Nat.reduceEqDiff, ↓reduceIte, eq_self, wtAll, Try.ntmps8]
      refine callK_pure (wrow_tri g (c : Int) l _ kn (by ((try clear h9); (try clear h12); (try clear n912); (try clear n129); omega))) ?_
      simp only [vsAll, binA, binLitA, intA, loadA, loadRow, partA, partOk, extractA, okAll, stAll, opsA, opA, dstOk, nilSliceOp, Nat.reduceAdd, Nat.reduceLT, Nat.reduceEqDiff, ↓reduceIte, eq_self, wtAll, ed]
      refine ⟨by simp only [InR_i64]; ((try clear h9); (try clear h12); (try clear n912); (try clear n129); omega), by simp only [InR_i64]; ((try clear h9); (try clear h12); (try clear n912); (try clear n129); omega), ?_⟩
      refine callK_pure (wrow_tri (turG g) (d : Int) (bkL g l) _ knx (by ((try clear h9); (try clear h12); (try clear n912); (try clear n129); omega))) ?_
      simp only [vsAll, loadA, loadRow, partA, partOk, extractA, okAll, stAll, opsA, opA, dstOk, nilSliceOp, Nat.reduceAdd, Nat.reduceLT, Nat.reduceEqDiff, ↓reduceIte, eq_self, wtAll]
      refine callK_pure (wchk_tri g (c : Int) l _ kn (by ((try clear h9); (try clear h12); (try clear n912); (try clear n129); omega))) ?_
      simp only [vsAll, binA, binLitA, intA, loadA, loadRow, partA, partOk, extractA, okAll, stAll, opsA, opA, dstOk, nilSliceOp, Nat.reduceAdd, Nat.reduceLT, Nat.reduceEqDiff, ↓reduceIte, eq_self, wtAll, ed]
      refine ⟨by simp only [InR_i64]; ((try clear h9); (try clear h12); (try clear n912); (try clear n129); omega), by simp only [InR_i64]; ((try clear h9); (try clear h12); (try clear n912); (try clear n129); omega), ?_⟩
      refine callK_pure (wchk_tri (turG g) (d : Int) (bkL g l) _ knx (by ((try clear h9); (try clear h12); (try clear n912); (try clear n129); omega))) ?_
      rw [t1, t2, t3]
      simp only [vsAll, extractA, okAll, stAll, opsA, opA, dstOk, nilSliceOp, Nat.reduceAdd, Nat.reduceLT, Nat.reduceEqDiff, ↓reduceIte, eq_self]
      refine callK_pure (gspans_tri (rowV g (c : Int) l) (rowV g (c : Int) l) _ (by have := rowV_len g (c : Int) l; ((try clear h9); (try clear h12); (try clear n912); (try clear n129); omega)) (by have := rowV_len g (c : Int) l; ((try clear h9); (try clear h12); (try clear n912); (try clear n129); omega))) ?_
      rw [decide_eq_true rfl]
      have hq : chkE g (c : Int) l = 0 → chkV g (c : Int) l = (g.N : Int) - 1 - chkV (turG g) (d : Int) (bkL g l) := t4
      have hvv : (decide (chkE g (c : Int) l = 0) && !decide (chkV g (c : Int) l = (g.N : Int) - 1 - chkV (turG g) (d : Int) (bkL g l))) = false := by
       by_cases h : chkE g (c : Int) l = 0
       ·rw [decide_eq_true (hq h), Bool.not_true, Bool.and_false]
       ·rw [decide_eq_false h, Bool.false_and]
      have hcb := chkV_bd (g := turG g) (c := (d : Int)) (bk_row hrb)
      rw [exN] at hcb
      simp only [vsAll, binA, binLitA, intA, unA, loadA, loadRow, partA, partOk, pickA, okAll, stAll, opsA, opA, guardV, dstOk, Nat.reduceLT, Nat.reduceEqDiff, ↓reduceIte, implies_true, eq_self, wtAll, n912, hvv]
      refine ⟨fun h => ⟨h, by simp only [InR_i64]; ((try clear h9); (try clear h12); (try clear n912); (try clear n129); omega)⟩, fun h => ⟨h, h, by simp only [InR_i64]; ((try clear h9); (try clear h12); (try clear n912); (try clear n129); omega)⟩, ?_⟩
      obtain ⟨s1, s2⟩ := sets_at k hc
      obtain ⟨s3, s4⟩ := sets_at kx (c := d) (by ((try clear h9); (try clear h12); (try clear n912); (try clear n129); omega))
      rw [exN] at s4
      obtain ⟨u1, u2⟩ := tur_sets k hc
      rw [hd] at u1 u2
      refine callK_pure (wsets_tri g (c : Int) _ kn) ?_
      rw [s1, s2]
      simp only [vsAll, binA, binLitA, intA, loadA, loadRow, partA, partOk, extractA, okAll, stAll, opsA, opA, dstOk, nilSliceOp, Nat.reduceAdd, Nat.reduceLT, Nat.reduceEqDiff, ↓reduceIte, eq_self, wtAll, ed]
      refine ⟨by simp only [InR_i64]; ((try clear h9); (try clear h12); (try clear n912); (try clear n129); omega), by simp only [InR_i64]; ((try clear h9); (try clear h12); (try clear n912); (try clear n129); omega), ?_⟩
      refine callK_pure (wsets_tri (turG g) (d : Int) _ knx) ?_
      rw [s3, s4]
      have hpw : 2 ^ g.N ≤ 2 ^ 5 := Nat.pow_le_pow_right (by ((try clear h9); (try clear h12); (try clear n912); (try clear n129); omega)) hN5
      have hsl := stsN_len (turG g) d (2 ^ g.N)
      have hsl1 := stsN_len g c (2 ^ g.N)
      have hsa := fun i h => sts_at (g := g) (c := c) (n := 2 ^ g.N) (i := i) h
      have hsb := fun i h => sts_at (g := turG g) (c := d) (n := 2 ^ g.N) (i := i) h
      have hsm := fun q => sts_mem (g := turG g) (c := d) (n := 2 ^ g.N) (x := q)
      have hes1 : ∀ q, q < 2 ^ g.N → (endO g c q).isSome = true → ((stsN (turG g) d (2 ^ g.N)).map fun z => ((oth g.N z.toNat : Nat) : Int)).contains (q : Int) = true := fun q hq hq2 => by
       have h1 : (stsN (turG g) d (2 ^ g.N)).contains ((oth g.N q : Nat) : Int) = true := by
        rw [hsm, decide_eq_true (oth_lt _ _), u2 _ (oth_lt _ _), oth_oth hq, hq2]; rfl
       rw [List.contains_iff_mem, List.mem_map]
       rw [List.contains_iff_mem] at h1
       exact ⟨_, h1, by rw [Int.toNat_natCast, oth_oth hq]⟩
      generalize stsN (turG g) d (2 ^ g.N) = L2 at hsb hsl u1 hes1 ⊢
      generalize stsN g c (2 ^ g.N) = L1 at hsl1 hsa u1 ⊢
      have hsI : ∀ x ∈ L2.map (fun z => ((oth g.N z.toNat : Nat) : Int)), InR .i64 x := fun x hx => by
       rw [List.mem_map] at hx
       obtain ⟨z, _, e⟩ := hx
       have := oth_lt g.N z.toNat
       simp only [InR_i64]
       ((try clear h9); (try clear h12); (try clear n912); (try clear n129); omega)
      simp only [vsAll, extractA, lenA, opA, nM, dstOk, nilSliceOp, Nat.reduceAdd, Nat.reduceLT, Nat.reduceEqDiff, ↓reduceIte, eq_self, wtAll]
      intro im hh_im; (try simp only [ite_none] at hh_im)
      refine vs_loop (σ := Nat × Array MapEntry × Nat) (fun y => y.1 ≤ L2.length ∧ MapIs (thrF ((L2.map fun z => ((oth g.N z.toNat : Nat) : Int)).take y.1)) y.2.1) (fun y => [(18, i64 c), (19, intsAV l), (16, smAV g.sm), (17, cwAV g.cw), (1, .lit (.int .u8 wh)), (2, .lit (.int .u8 bt)), (3, .rsl N 1 (byF b)), (4, gptr g), (9, .ref i9 0 1 0 0), (10, i64 g.cw.length), (11, .func (.func 32) [] [.ref i9 0 1 0 0]), (12, .ref i12 0 7 0 0), (31, intsAV L1), (33, intsAV L2), (32, i64 0), (34, i64 0), (35, .map im), (243, intsAV L2), (244, i64 L2.length), (245, i64 y.1)]) (fun y => ((H.set i9 (.box 1 1 fun _ => [i64 g.N])).set i12 (.box 7 1 fun _ => (turG g).cs)).set im (.raw (.map y.2.1 y.2.2))) (fun y => L2.length - y.1) (0, #[], 0) ⟨Nat.zero_le _, by rw [List.take_zero, thrF_nil]; exact MapIs.empty⟩ ?_ HSub_rfl fun y hy => ?_
      ·simp only [vsAll, Nat.reduceEqDiff, ↓reduceIte, eq_self, Int.natCast_zero]
      ·obtain ⟨i, es, ck⟩ := y
       obtain ⟨hi, hes⟩ := hy
       simp only [] at hi hes
       simp only [vsAll, binA, binLitA, intA, opA, dstOk, Nat.reduceLT, Nat.reduceEqDiff, ↓reduceIte, eq_self]
       refine condD (fun hd => ?_) (fun hd => ?_)
       ·have his : i < L2.length := by ((try clear h9); (try clear h12); (try clear n912); (try clear n129); (try clear hh_im); omega)
        obtain ⟨z, z1, z2, _, _⟩ := hsb i his
        have hol := oth_lt g.N z
        have htk : (L2.map fun z => ((oth g.N z.toNat : Nat) : Int)).take (i + 1) = (L2.map fun z => ((oth g.N z.toNat : Nat) : Int)).take i ++ [((oth g.N z : Nat) : Int)] := by
         rw [List.getD_eq_getElem?_getD, List.getElem?_eq_getElem his, Option.getD_some] at z1
         rw [List.take_add_one, List.getElem?_map, List.getElem?_eq_getElem his, z1, Option.map_some, Int.toNat_natCast]
         rfl
        obtain ⟨o, f1, f2, f3, f4, f5⟩ := hes.find und64 key3 (key := .int .i64 ((oth g.N z : Nat) : Int)) (key_int (by simp only [InR_i64]; ((try clear h9); (try clear h12); (try clear n912); (try clear n129); (try clear hh_im); omega))) (fun q v hq => thrF_key (fun x hx => hsI x (List.mem_of_mem_take hx)) hq)
        have hi' := f5 (.bool true) ck
        rw [thrF_upd, ← htk] at hi'
        simp only [vsAll, loadA, loadRow, partA, partOk, indexAddrA, okAll, stAll, opsA, opA, dstOk, nilSliceOp, Nat.reduceLT, Nat.reduceEqDiff, ↓reduceIte, eq_self, wtAll, intF_at, z1]
        refine ⟨⟨by ((try clear h9); (try clear h12); (try clear n912); (try clear n129); (try clear hh_im); omega), by ((try clear h9); (try clear h12); (try clear n912); (try clear n129); (try clear hh_im); omega)⟩, his, ?_⟩
        refine callK_pure (oth_tri g.N z i9 _ hN5 (by ((try clear h9); (try clear h12); (try clear n912); (try clear n129); (try clear hh_im); omega)) (by simp only [vsAll, ↓reduceIte, eq_self, n912, hh_im])) ?_
        simp only [vsAll, binA, binLitA, intA, opA, mapUpA, dstOk, Nat.reduceLT, Nat.reduceEqDiff, ↓reduceIte, eq_self]
        refine ⟨o, f2, by simp only [InR_i64]; ((try clear h9); (try clear h12); (try clear n912); (try clear n129); (try clear hh_im); omega), loop_next (i + 1, updM es (.int .i64 ((oth g.N z : Nat) : Int)) (.bool true) ck o, updC ck o) ⟨his, hi'⟩ (by simp only []; ((try clear h9); (try clear h12); (try clear n912); (try clear n129); (try clear hh_im); omega)) ?_ ?_⟩
        ·simp only [vsAll, Nat.reduceEqDiff, ↓reduceIte, eq_self, Int.natCast_add, Int.natCast_one]
        ·rw [Hp.set_set]; exact HSub_rfl
       ·have ei : i = L2.length := by ((try clear h9); (try clear h12); (try clear n912); (try clear n129); (try clear hh_im); omega)
        subst ei
        rw [show L2.length = (L2.map fun z => ((oth g.N z.toNat : Nat) : Int)).length from (List.length_map _).symm, List.take_length] at hes
        have hlk : ∀ q : Nat, q < 32 → ∃ o, (∀ em, FoundAt Try.prog 64 em es (.int .i64 (q : Int)) o) ∧ gotV (.bool false) o = .bool ((L2.map fun z => ((oth g.N z.toNat : Nat) : Int)).contains (q : Int)) := fun q hq => by
         obtain ⟨o, f1, f2, f3, f4, f5⟩ := hes.find und64 key3 (key := .int .i64 (q : Int)) (key_int (by simp only [InR_i64]; ((try clear h9); (try clear h12); (try clear n912); (try clear n129); (try clear hh_im); omega))) (fun q v hq => thrF_key hsI hq)
         exact ⟨o, f1, by rw [f3, thr_val]⟩
        have hne : decide ((L1.length : Int) = (L2.length : Int)) = true := decide_eq_true (by ((try clear h9); (try clear h12); (try clear n912); (try clear n129); (try clear hh_im); omega))
        simp only [vsAll, binA, binLitA, intA, lenA, pickA, opA, guardV, dstOk, Nat.reduceLT, Nat.reduceEqDiff, ↓reduceIte, implies_true, eq_self, wtAll, hne]
        refine vs_loop (σ := Nat) (fun i => i ≤ L1.length) (fun i => [(18, i64 c), (19, intsAV l), (16, smAV g.sm), (17, cwAV g.cw), (1, .lit (.int .u8 wh)), (2, .lit (.int .u8 bt)), (3, .rsl N 1 (byF b)), (4, gptr g), (9, .ref i9 0 1 0 0), (10, i64 g.cw.length), (11, .func (.func 32) [] [.ref i9 0 1 0 0]), (12, .ref i12 0 7 0 0), (35, .map im), (268, intsAV L1), (269, i64 L1.length), (270, i64 i)]) (fun _ => ((H.set i9 (.box 1 1 fun _ => [i64 g.N])).set i12 (.box 7 1 fun _ => (turG g).cs)).set im (.raw (.map es ck))) (fun i => L1.length - i) 0 (Nat.zero_le _) ?_ HSub_rfl fun i hi => ?_
        ·simp only [vsAll, Nat.reduceEqDiff, ↓reduceIte, eq_self, Int.natCast_zero]
        ·simp only [vsAll, binA, binLitA, intA, opA, dstOk, Nat.reduceLT, Nat.reduceEqDiff, ↓reduceIte, eq_self]
         refine condD (fun hd => ?_) (fun hd => ?_)
         ·have his : i < L1.length := by ((try clear h9); (try clear h12); (try clear n912); (try clear n129); (try clear hh_im); omega)
          obtain ⟨s, e1, e2, e3, _⟩ := hsa i his
          obtain ⟨o, o1, o2⟩ := hlk s (by ((try clear h9); (try clear h12); (try clear n912); (try clear n129); (try clear hh_im); omega))
          rw [hes1 s e2 e3] at o2
          simp only [vsAll, unA, loadA, loadRow, partA, partOk, indexAddrA, opA, lookA, dstOk, nilSliceOp, Nat.reduceLT, Nat.reduceEqDiff, ↓reduceIte, eq_self, wtAll, intF_at, e1, mapZ64]
          refine ⟨⟨by ((try clear h9); (try clear h12); (try clear n912); (try clear n129); (try clear hh_im); omega), by ((try clear h9); (try clear h12); (try clear n912); (try clear n129); (try clear hh_im); omega)⟩, his, o, o1 _, ?_⟩
          rw [o2]
          simp only [vsAll, binA, binLitA, intA, opA, dstOk, Nat.reduceLT, Nat.reduceEqDiff, ↓reduceIte, eq_self]
          refine ⟨by simp only [InR_i64]; ((try clear h9); (try clear h12); (try clear n912); (try clear n129); (try clear hh_im); omega), loop_next (i + 1) his (by ((try clear h9); (try clear h12); (try clear n912); (try clear n129); (try clear hh_im); omega)) ?_ HSub_rfl⟩
          simp only [vsAll, Nat.reduceEqDiff, ↓reduceIte, eq_self, Int.natCast_add, Int.natCast_one]
         ·have ei : i = L1.length := by ((try clear h9); (try clear h12); (try clear n912); (try clear n129); (try clear hh_im); omega)
          subst ei
          simp only [vsAll, opA, dstOk, nilSliceOp, Nat.reduceLT, ↓reduceIte, eq_self]
          exact cutG_of () trivial (by simp only [vsAll, Nat.reduceEqDiff, ↓reduceIte, eq_self]) rfl (HSub_drop2 (by simp_all [Hp.set]) HSub_rfl)
     ·have he0 : errG g true = 0 := errG_ok k
      have he0x : errG (turG g) true = 0 := errG_ok kx
      have hdt := tur_deal k
      have dE : dealE (turG g) = dealE g := by unfold dealE; rw [he0, he0x, hdt]
      have dH : dealH (turG g) = dealH g := by unfold dealH; rw [dE, hdt]
      have hDl : (dealL g).length ≤ 5 := by
       unfold dealL
       split
       ·have := grd_len g (dealH g) g.N []; simp only [List.length_nil] at this; ((try clear h9); (try clear h12); (try clear n912); (try clear n129); omega)
       ·exact Nat.zero_le _
      refine wps_cutG (m := fun _ => false) (σ := Nat) (fun id => H id = none ∧ ¬ id = i12 ∧ ¬ id = i9) (fun id => [(42, .sl id 1 (dealL g).length), (43, i64 (dealE g)), (40, .func (.func 26) [] []), (41, i64 (dealH g)), (18, i64 c), (19, intsAV l), (16, smAV g.sm), (17, cwAV g.cw), (1, .lit (.int .u8 wh)), (2, .lit (.int .u8 bt)), (3, .rsl N 1 (byF b)), (4, gptr g), (9, .ref i9 0 1 0 0), (10, i64 g.cw.length), (11, .func (.func 32) [] [.ref i9 0 1 0 0]), (12, .ref i12 0 7 0 0)]) (fun id => ((H.set i9 (.box 1 1 fun _ => [i64 g.N])).set i12 (.box 7 1 fun _ => (turG g).cs)).set id (.row 1 (dealL g).length (intF (dealL g)))) (fun _ => []) ?_ fun id hid => ?_
      ·simp only [vsAll, loadA, loadRow, partA, partOk, okAll, stAll, opsA, opA, dstOk, Nat.reduceLT, Nat.reduceEqDiff, ↓reduceIte, eq_self, wtAll, Try.ntmps8]
       refine callK (wdealM_tri g _ kn) ?_
       rintro r H' (⟨e1, rfl, rfl⟩ | ⟨e1, id, hid, rfl, rfl⟩)
       ·have eH : dealH g = 0 := if_neg e1
        have eL : dealL g = [] := if_neg e1
        simp only [vsAll, extractA, opA, dstOk, nilSliceOp, Nat.reduceAdd, Nat.reduceLT, Nat.reduceEqDiff, ↓reduceIte, eq_self]
        refine cutG_ent (Ent.of [(42, .lit (.slice none 0 0)), (43, i64 (dealE g)), (40, .func (.func 26) [] []), (41, i64 0), (18, i64 c), (19, intsAV l), (16, smAV g.sm), (17, cwAV g.cw), (1, .lit (.int .u8 wh)), (2, .lit (.int .u8 bt)), (3, .rsl N 1 (byF b)), (4, gptr g), (9, .ref i9 0 1 0 0), (10, i64 g.cw.length), (11, .func (.func 32) [] [.ref i9 0 1 0 0]), (12, .ref i12 0 7 0 0)] (by simp only [vsAll, Nat.reduceEqDiff, ↓reduceIte, eq_self]) HSub_rfl ?_)
        refine cutG_ent (Ent.nilFr (s' := fun id => Fr.of [(42, .sl id 1 0), (43, i64 (dealE g)), (40, .func (.func 26) [] []), (41, i64 0), (18, i64 c), (19, intsAV l), (16, smAV g.sm), (17, cwAV g.cw), (1, .lit (.int .u8 wh)), (2, .lit (.int .u8 bt)), (3, .rsl N 1 (byF b)), (4, gptr g), (9, .ref i9 0 1 0 0), (10, i64 g.cw.length), (11, .func (.func 32) [] [.ref i9 0 1 0 0]), (12, .ref i12 0 7 0 0)]) 1 (intF []) (fun id t => ?_) fun id hid => ?_)
        ·exact Fr_nl
        ·have q := set2_none hid
         refine cutG_of id q (by simp only [vsAll, Nat.reduceEqDiff, ↓reduceIte, eq_self, eL, eH]) rfl ?_
         rw [eL]
         exact HSub_rfl
       ·have q := set2_none hid
        simp only [vsAll, extractA, opA, dstOk, nilSliceOp, Nat.reduceAdd, Nat.reduceLT, Nat.reduceEqDiff, ↓reduceIte, eq_self]
        refine cutG_of id q (by simp only [vsAll, Nat.reduceEqDiff, ↓reduceIte, eq_self, e1]) rfl HSub_rfl
      ·obtain ⟨hid0, hid12, hid9⟩ := hid
       have hid12' : ¬ i12 = id := fun e => hid12 e.symm
       have hid9' : ¬ i9 = id := fun e => hid9 e.symm
       skip
       have ft := few_tur (f := genB g) (f' := genB (turG g)) (m := g.cw.length) (by ((try clear h9); (try clear h12); (try clear n912); (try clear n129); (try clear hid0); (try clear hid12); (try clear hid9); (try clear hid12'); (try clear hid9'); omega)) (fun C hC => tur_gen k)
       have fl := few_tur (f := leaB g) (f' := leaB (turG g)) (m := g.N) hN5 (fun S hS => tur_lea k hS)
       have pe : pop (enoV (turG g)) = pop (enoV g) := by
        unfold enoV
        rw [he0, he0x, exM]
        cases h1 : fewV (genB g) g.cw.length with
        | none =>
          have h2 : fewV (genB (turG g)) g.cw.length = none := by
           rw [← Option.isNone_iff_eq_none, ← Option.not_isSome, ft.1, h1]; rfl
          rw [h2]
        | some s =>
          obtain ⟨s', h2⟩ := Option.isSome_iff_exists.1 (ft.1.trans (by rw [h1]; rfl))
          rw [h2]
          exact (ft.2 s s' h1 h2).symm
       have pl : pop (leaV (turG g)) = pop (leaV g) := by
        have a1 : leaE g = 0 := he0
        have a3 : leaE (turG g) = 0 := he0x
        unfold leaV
        rw [a1, a3, exN, if_pos rfl, if_pos rfl]
        cases h1 : fewV (leaB g) g.N with
        | none =>
          have h2 : fewV (leaB (turG g)) g.N = none := by
           rw [← Option.isNone_iff_eq_none, ← Option.not_isSome, fl.1, h1]; rfl
          rw [h2]
        | some s =>
          obtain ⟨s', h2⟩ := Option.isSome_iff_exists.1 (fl.1.trans (by rw [h1]; rfl))
          rw [h2]
          exact (fl.2 s s' h1 h2).symm
       have hpC : 2 ^ g.cw.length ≤ 2 ^ 3 := Nat.pow_le_pow_right (by ((try clear h9); (try clear h12); (try clear n912); (try clear n129); (try clear hid0); (try clear hid12); (try clear hid9); (try clear hid12'); (try clear hid9'); omega)) nC
       have hpN : 2 ^ g.N ≤ 2 ^ 5 := Nat.pow_le_pow_right (by ((try clear h9); (try clear h12); (try clear n912); (try clear n129); (try clear hid0); (try clear hid12); (try clear hid9); (try clear hid12'); (try clear hid9'); omega)) hN5
       have bE : ∀ f : Nat → Bool, ∀ m : Nat, m ≤ 5 → setV 0 (fewV f m) < 2 ^ 5 := fun f m hm => by
        have h1 := fewV_lt f m
        have h2 : 2 ^ m ≤ 2 ^ 5 := Nat.pow_le_pow_right (by ((try clear h9); (try clear h12); (try clear n912); (try clear n129); (try clear hid0); (try clear hid12); (try clear hid9); (try clear hid12'); (try clear hid9'); omega)) hm
        unfold setV
        split
        ·((try clear h9); (try clear h12); (try clear n912); (try clear n129); (try clear hid0); (try clear hid12); (try clear hid9); (try clear hid12'); (try clear hid9'); omega)
        ·exact Nat.two_pow_pos 5
       have b1 : enoV g < 2 ^ 5 := by unfold enoV; rw [he0]; exact bE _ _ (by ((try clear h9); (try clear h12); (try clear n912); (try clear n129); (try clear hid0); (try clear hid12); (try clear hid9); (try clear hid12'); (try clear hid9'); omega))
       have b2 : enoV (turG g) < 2 ^ 5 := by unfold enoV; rw [he0x]; exact bE _ _ (by ((try clear h9); (try clear h12); (try clear n912); (try clear n129); (try clear hid0); (try clear hid12); (try clear hid9); (try clear hid12'); (try clear hid9'); omega))
       have b3 : leaV g < 2 ^ 5 := by
        have := fewV_lt (leaB g) g.N
        unfold leaV
        split
        ·((try clear h9); (try clear h12); (try clear n912); (try clear n129); (try clear hid0); (try clear hid12); (try clear hid9); (try clear hid12'); (try clear hid9'); omega)
        ·exact Nat.two_pow_pos 5
       have b4 : leaV (turG g) < 2 ^ 5 := by
        have := fewV_lt (leaB (turG g)) (turG g).N
        rw [exN] at this
        unfold leaV
        rw [exN]
        split
        ·((try clear h9); (try clear h12); (try clear n912); (try clear n129); (try clear hid0); (try clear hid12); (try clear hid9); (try clear hid12'); (try clear hid9'); omega)
        ·exact Nat.two_pow_pos 5
       have a1 : leaE g = 0 := he0
       have a3 : leaE (turG g) = 0 := he0x
       refine wps_cutG6 (m := fun _ => false) (σ := Unit) (fun _ => True) (fun _ => [(42, .sl id 1 (dealL g).length), (43, i64 (dealE g)), (18, i64 c), (19, intsAV l), (16, smAV g.sm), (17, cwAV g.cw), (1, .lit (.int .u8 wh)), (2, .lit (.int .u8 bt)), (3, .rsl N 1 (byF b)), (4, gptr g), (9, .ref i9 0 1 0 0), (10, i64 g.cw.length), (11, .func (.func 32) [] [.ref i9 0 1 0 0]), (12, .ref i12 0 7 0 0)]) (fun _ => (((H.set i9 (.box 1 1 fun _ => [i64 g.N])).set i12 (.box 7 1 fun _ => (turG g).cs)).set id (.row 1 (dealL g).length (intF (dealL g))))) (fun _ => []) ?_ fun _ _ => ?_
       ·generalize hv1 : enoV g = v1 at pe b1
        generalize hv2 : enoV (turG g) = v2 at pe b2
        generalize hv3 : leaV g = v3 at pl b3
        generalize hv4 : leaV (turG g) = v4 at pl b4
        have c1 : decide ((v1 : Int) < 0) = false := decide_eq_false (by ((try clear h9); (try clear h12); (try clear n912); (try clear n129); (try clear hid0); (try clear hid12); (try clear hid9); (try clear hid12'); (try clear hid9'); omega))
        have c2 : decide ((v2 : Int) < 0) = false := decide_eq_false (by ((try clear h9); (try clear h12); (try clear n912); (try clear n129); (try clear hid0); (try clear hid12); (try clear hid9); (try clear hid12'); (try clear hid9'); omega))
        have c3 : decide ((v3 : Int) < 0) = false := decide_eq_false (by ((try clear h9); (try clear h12); (try clear n912); (try clear n129); (try clear hid0); (try clear hid12); (try clear hid9); (try clear hid12'); (try clear hid9'); omega))
        have c4 : decide ((v4 : Int) < 0) = false := decide_eq_false (by ((try clear h9); (try clear h12); (try clear n912); (try clear n129); (try clear hid0); (try clear hid12); (try clear hid9); (try clear hid12'); (try clear hid9'); omega))
        simp only [vsAll, loadA, loadRow, partA, partOk, okAll, stAll, opsA, opA, dstOk, Nat.reduceLT, Nat.reduceEqDiff, ↓reduceIte, eq_self, wtAll, Try.ntmps8, hid12']
        refine callK_pure (wdeal_tri (turG g) _ knx) ?_
        rw [dE, dH]
        simp only [vsAll, loadA, loadRow, partA, partOk, extractA, okAll, stAll, opsA, opA, dstOk, nilSliceOp, Nat.reduceAdd, Nat.reduceLT, Nat.reduceEqDiff, ↓reduceIte, eq_self, wtAll]
        refine callK_pure (wenough_tri g _ kn) ?_
        simp only [vsAll, loadA, loadRow, partA, partOk, extractA, okAll, stAll, opsA, opA, dstOk, nilSliceOp, Nat.reduceAdd, Nat.reduceLT, Nat.reduceEqDiff, ↓reduceIte, eq_self, wtAll, hid12', hv1]
        refine callK_pure (wenough_tri (turG g) _ knx) ?_
        simp only [vsAll, loadA, loadRow, partA, partOk, extractA, okAll, stAll, opsA, opA, dstOk, nilSliceOp, Nat.reduceAdd, Nat.reduceLT, Nat.reduceEqDiff, ↓reduceIte, eq_self, wtAll, hv2]
        refine callK_pure (wleave_tri g _ kn) ?_
        simp only [vsAll, loadA, loadRow, partA, partOk, extractA, okAll, stAll, opsA, opA, dstOk, nilSliceOp, Nat.reduceAdd, Nat.reduceLT, Nat.reduceEqDiff, ↓reduceIte, eq_self, wtAll, hid12', a1, hv3]
        refine callK_pure (wleave_tri (turG g) _ knx) ?_
        simp only [vsAll, binA, binLitA, intA, extractA, pickA, opA, guardV, dstOk, nilSliceOp, Nat.reduceAdd, Nat.reduceLT, Nat.reduceEqDiff, ↓reduceIte, implies_true, eq_self, a3, hv4, c1, c2]
        refine gcall (i64 (pop v1 : Nat)) (fun hg => ⟨by simp only [vsAll, opA, Nat.reduceEqDiff, ↓reduceIte, eq_self], by simp only [vsAll, okAll, opsA, opA, ↓reduceIte, eq_self], gsize_tri v1 _ (by ((try clear h9); (try clear h12); (try clear n912); (try clear n129); (try clear hid0); (try clear hid12); (try clear hid9); (try clear hid12'); (try clear hid9'); omega))⟩) ?_
        simp only [vsAll, opA, guardV, dstOk, Nat.reduceLT, Nat.reduceEqDiff, ↓reduceIte, eq_self]
        refine gcall (i64 (pop v2 : Nat)) (fun hg => ⟨by simp only [vsAll, opA, Nat.reduceEqDiff, ↓reduceIte, eq_self], by simp only [vsAll, okAll, opsA, opA, ↓reduceIte, eq_self], gsize_tri v2 _ (by ((try clear h9); (try clear h12); (try clear n912); (try clear n129); (try clear hid0); (try clear hid12); (try clear hid9); (try clear hid12'); (try clear hid9'); omega))⟩) ?_
        simp only [vsAll, binA, binLitA, intA, pickA, opA, guardV, dstOk, Nat.reduceLT, Nat.reduceEqDiff, ↓reduceIte, implies_true, eq_self, pe, c3, c4]
        refine gcall (i64 (pop v3 : Nat)) (fun hg => ⟨by simp only [vsAll, opA, Nat.reduceEqDiff, ↓reduceIte, eq_self], by simp only [vsAll, okAll, opsA, opA, ↓reduceIte, eq_self], gsize_tri v3 _ (by ((try clear h9); (try clear h12); (try clear n912); (try clear n129); (try clear hid0); (try clear hid12); (try clear hid9); (try clear hid12'); (try clear hid9'); omega))⟩) ?_
        simp only [vsAll, opA, guardV, dstOk, Nat.reduceLT, Nat.reduceEqDiff, ↓reduceIte, eq_self]
        refine gcall (i64 (pop v4 : Nat)) (fun hg => ⟨by simp only [vsAll, opA, Nat.reduceEqDiff, ↓reduceIte, eq_self], by simp only [vsAll, okAll, opsA, opA, ↓reduceIte, eq_self], gsize_tri v4 _ (by ((try clear h9); (try clear h12); (try clear n912); (try clear n129); (try clear hid0); (try clear hid12); (try clear hid9); (try clear hid12'); (try clear hid9'); omega))⟩) ?_
        simp only [vsAll, binA, binLitA, intA, pickA, opA, guardV, dstOk, Nat.reduceLT, Nat.reduceEqDiff, ↓reduceIte, implies_true, eq_self, pl]
        exact cutG_of () trivial (by simp only [vsAll, Nat.reduceEqDiff, ↓reduceIte, eq_self]) rfl HSub_rfl
       ·refine wps_cutG (m := mset [365]) (σ := Unit) (fun _ => True) (fun _ => [(42, .sl id 1 (dealL g).length), (43, i64 (dealE g)), (18, i64 c), (19, intsAV l), (16, smAV g.sm), (17, cwAV g.cw), (1, .lit (.int .u8 wh)), (2, .lit (.int .u8 bt)), (3, .rsl N 1 (byF b)), (4, gptr g), (9, .ref i9 0 1 0 0), (10, i64 g.cw.length), (11, .func (.func 32) [] [.ref i9 0 1 0 0]), (12, .ref i12 0 7 0 0)]) (fun _ => (((H.set i9 (.box 1 1 fun _ => [i64 g.N])).set i12 (.box 7 1 fun _ => (turG g).cs)).set id (.row 1 (dealL g).length (intF (dealL g))))) (fun _ => []) ?_ fun _ _ => ?_
        ·simp only [vsAll, Int.reduceNeg, Try.ntmps8]
         refine vs_draw2 [0, 0, 0, 1, 0, 3, 0, 5, 6, 6, 0] [([0, 1, 2, 4, 6, 10], [0], 3), ([], [0], 5), ([], [0], 7)] [8, 9] (by decide +kernel) ?_
         simp only [vsAll, loadA, loadRow, partA, partOk, lenA, cellA, cellsA, okParts, buildSliceA, buildMutA, partIdx, elemsA, lensA, partsA, partsOk, opA, appendA, dstOk, Nat.reduceAdd, Nat.reduceMul, Nat.reduceLT, Nat.reduceLeDiff, Nat.reduceEqDiff, Nat.reduceBEq, Int.reduceNeg, ↓reduceIte, eq_self, wtAll, n912, hid9']
         intro ir hh_ir; (try simp only [ite_none] at hh_ir)
         simp only [vsAll, Nat.reduceLT, Int.reduceNeg, ↓reduceIte, eq_self, hh_ir]
         refine ⟨fun q hq => ⟨rfl, trivial⟩, by ((try clear h9); (try clear h12); (try clear n912); (try clear n129); (try clear hid0); (try clear hid12); (try clear hid9); (try clear hid12'); (try clear hid9'); (try clear hh_ir); omega), by ((try clear h9); (try clear h12); (try clear n912); (try clear n129); (try clear hid0); (try clear hid12); (try clear hid9); (try clear hid12'); (try clear hid9'); (try clear hh_ir); omega), fun q hq => ⟨rfl, trivial⟩, by ((try clear h9); (try clear h12); (try clear n912); (try clear n129); (try clear hid0); (try clear hid12); (try clear hid9); (try clear hid12'); (try clear hid9'); (try clear hh_ir); omega), by ((try clear h9); (try clear h12); (try clear n912); (try clear n129); (try clear hid0); (try clear hid12); (try clear hid9); (try clear hid12'); (try clear hid9'); (try clear hh_ir); omega), ?_⟩
         have hirn : (((H.set i9 (.box 1 1 fun _ => [i64 g.N])).set i12 (.box 7 1 fun _ => (turG g).cs)).set id (.row 1 (dealL g).length (intF (dealL g)))) ir = none := by simp only [Hp.set]; simp_all
         refine vs_entL (Ent.of [(42, .sl id 1 (dealL g).length), (43, i64 (dealE g)), (18, i64 c), (19, intsAV l), (16, smAV g.sm), (17, cwAV g.cw), (1, .lit (.int .u8 wh)), (2, .lit (.int .u8 bt)), (3, .rsl N 1 (byF b)), (4, gptr g), (9, .ref i9 0 1 0 0), (10, i64 g.cw.length), (11, .func (.func 32) [] [.ref i9 0 1 0 0]), (12, .ref i12 0 7 0 0), (370, .rsl 3 1 fun i => [[.rsl 1 1 fun i => [[i64 (g.N : Int)]].getD i []], [.rsl 1 1 fun i => [[i64 (-1)]].getD i []], [.sl ir 1 (l.length + l.length)]].getD i []), (371, i64 ((3 : Nat) : Int)), (372, i64 0)] (by simp only [vsAll, Nat.reduceEqDiff, Int.reduceNeg, ↓reduceIte, eq_self]) (H' := (((H.set i9 (.box 1 1 fun _ => [i64 g.N])).set i12 (.box 7 1 fun _ => (turG g).cs)).set id (.row 1 (dealL g).length (intF (dealL g)))).set ir (.row 1 (l.length + l.length) (intF (l ++ l)))) ?_ ?_)
         ·refine HSub.trans (B := (((H.set i9 (.box 1 1 fun _ => [i64 g.N])).set i12 (.box 7 1 fun _ => (turG g).cs)).set id (.row 1 (dealL g).length (intF (dealL g)))).set ir (.row 1 (l.length + l.length) (appF l.length l.length (appF 0 l.length (fun i => []) (intF l)) (intF l)))) (by (repeat (first | exact HSub_rfl | refine HSub_put_eq (by simp only [vsAll, ↓reduceIte, eq_self, n912, hid12', hid9', hh_ir]) ?_ | refine HSub_drop2 (by simp only [eq_self, h9, h12, hid0, hh_ir]) ?_ | refine HSub_keep_eq (by simp only [vsAll, ↓reduceIte, eq_self, reduceCtorEq, Nat.reduceEqDiff, h9, h12, n912, n129, hid0, hid12, hid9, hid12', hid9', hh_ir]) ?_))) (HSub.set (HSub.refl _) (row_ext fun q hq => ?_))
          rw [appF_at (by ((try clear h9); (try clear h12); (try clear n912); (try clear n129); (try clear hid0); (try clear hid12); (try clear hid9); (try clear hid12'); (try clear hid9'); (try clear hh_ir); omega))]
          split
          ·rename_i e
           rw [appF_at (by ((try clear h9); (try clear h12); (try clear n912); (try clear n129); (try clear hid0); (try clear hid12); (try clear hid9); (try clear hid12'); (try clear hid9'); (try clear hh_ir); omega)), if_neg (by ((try clear h9); (try clear h12); (try clear n912); (try clear n129); (try clear hid0); (try clear hid12); (try clear hid9); (try clear hid12'); (try clear hid9'); (try clear hh_ir); omega)), Nat.sub_zero, intF_at, intF_at, List.getD_eq_getElem?_getD, List.getD_eq_getElem?_getD, List.getElem?_append_left e]
          ·rename_i e
           rw [intF_at, intF_at, List.getD_eq_getElem?_getD, List.getD_eq_getElem?_getD, List.getElem?_append_right (by ((try clear h9); (try clear h12); (try clear n912); (try clear n129); (try clear hid0); (try clear hid12); (try clear hid9); (try clear hid12'); (try clear hid9'); (try clear hh_ir); omega))]
         refine vs_entL (Ent.freezeS (id := ir) (st := 1) (n := l.length + l.length) (f := intF (l ++ l)) (s' := Fr.of [(42, .sl id 1 (dealL g).length), (43, i64 (dealE g)), (18, i64 c), (19, intsAV l), (16, smAV g.sm), (17, cwAV g.cw), (1, .lit (.int .u8 wh)), (2, .lit (.int .u8 bt)), (3, .rsl N 1 (byF b)), (4, gptr g), (9, .ref i9 0 1 0 0), (10, i64 g.cw.length), (11, .func (.func 32) [] [.ref i9 0 1 0 0]), (12, .ref i12 0 7 0 0), (370, .rsl 3 1 fun i => [intsAV (bdL g l i)]), (371, i64 ((3 : Nat) : Int)), (372, i64 0)]) (Hp.set_same _ _ _) (FrzL.fr (.cons (.same _) (.cons (.same _) (.cons (.same _) (.cons (.same _) (.cons (.same _) (.cons (.same _) (.cons (.same _) (.cons (.same _) (.cons (.same _) (.cons (.same _) (.cons (.same _) (.cons (.same _) (.cons (.same _) (.cons (.same _) (.cons (.rsl (fun q hq h => rfl) fun q j hq hj => ?_) (FrzL.refl _))))))))))))))))) ?_)
         ·obtain rfl : j = 0 := by ((try clear h9); (try clear h12); (try clear n912); (try clear n129); (try clear hid0); (try clear hid12); (try clear hid9); (try clear hid12'); (try clear hid9'); (try clear hh_ir); omega)
          match q, hq with
          | 0, _ =>
            refine .rsl (fun _ _ _ => rfl) fun a b ha hb => ?_
            obtain rfl : a = 0 := by ((try clear h9); (try clear h12); (try clear n912); (try clear n129); (try clear hid0); (try clear hid12); (try clear hid9); (try clear hid12'); (try clear hid9'); (try clear hh_ir); omega)
            obtain rfl : b = 0 := by ((try clear h9); (try clear h12); (try clear n912); (try clear n129); (try clear hid0); (try clear hid12); (try clear hid9); (try clear hid12'); (try clear hid9'); (try clear hh_ir); omega)
            exact .same _
          | 1, _ =>
            refine .rsl (fun _ _ _ => rfl) fun a b ha hb => ?_
            obtain rfl : a = 0 := by ((try clear h9); (try clear h12); (try clear n912); (try clear n129); (try clear hid0); (try clear hid12); (try clear hid9); (try clear hid12'); (try clear hid9'); (try clear hh_ir); omega)
            obtain rfl : b = 0 := by ((try clear h9); (try clear h12); (try clear n912); (try clear n129); (try clear hid0); (try clear hid12); (try clear hid9); (try clear hid12'); (try clear hid9'); (try clear hh_ir); omega)
            exact .same _
          | 2, _ =>
            show FrzS _ (.sl ir 1 (l.length + l.length)) (.rsl (l ++ l).length 1 (intF (l ++ l)))
            rw [List.length_append]; exact .leaf ⟨rfl, _, fun _ _ => rfl, rfl⟩
         refine vs_entL (Ent.of [(42, .sl id 1 (dealL g).length), (43, i64 (dealE g)), (18, i64 c), (19, intsAV l), (16, smAV g.sm), (17, cwAV g.cw), (1, .lit (.int .u8 wh)), (2, .lit (.int .u8 bt)), (3, .rsl N 1 (byF b)), (4, gptr g), (9, .ref i9 0 1 0 0), (10, i64 g.cw.length), (11, .func (.func 32) [] [.ref i9 0 1 0 0]), (12, .ref i12 0 7 0 0), (370, .rsl 3 1 fun i => [intsAV (bdL g l i)]), (371, i64 ((3 : Nat) : Int)), (372, i64 0)] (by simp only [vsAll, Nat.reduceEqDiff, ↓reduceIte, eq_self]) (H' := (((H.set i9 (.box 1 1 fun _ => [i64 g.N])).set i12 (.box 7 1 fun _ => (turG g).cs)).set id (.row 1 (dealL g).length (intF (dealL g))))) (HSub_eqn fun q => ?_) ?_)
         ·by_cases e1 : q = ir
          ·subst e1; left; exact hirn
          right
          rw [Hp.del_ne _ e1, Hp.set_ne _ _ e1]
         refine vs_loop (σ := Nat) (fun i => i ≤ 3) (fun i => [(42, .sl id 1 (dealL g).length), (43, i64 (dealE g)), (18, i64 c), (19, intsAV l), (16, smAV g.sm), (17, cwAV g.cw), (1, .lit (.int .u8 wh)), (2, .lit (.int .u8 bt)), (3, .rsl N 1 (byF b)), (4, gptr g), (9, .ref i9 0 1 0 0), (10, i64 g.cw.length), (11, .func (.func 32) [] [.ref i9 0 1 0 0]), (12, .ref i12 0 7 0 0), (370, .rsl 3 1 fun i => [intsAV (bdL g l i)]), (371, i64 ((3 : Nat) : Int)), (372, i64 i)]) (fun _ => (((H.set i9 (.box 1 1 fun _ => [i64 g.N])).set i12 (.box 7 1 fun _ => (turG g).cs)).set id (.row 1 (dealL g).length (intF (dealL g))))) (fun i => 3 - i) 0 (Nat.zero_le _) ?_ HSub_rfl fun i hi => ?_
         ·simp only [vsAll, Nat.reduceEqDiff, ↓reduceIte, eq_self, Int.natCast_zero]
         ·simp only [vsAll, binA, binLitA, intA, opA, dstOk, Nat.reduceLT, Nat.reduceEqDiff, ↓reduceIte, eq_self]
          refine condD (fun hd => ?_) (fun hd => ?_)
          ·have hi3 : i < 3 := by ((try clear h9); (try clear h12); (try clear n912); (try clear n129); (try clear hid0); (try clear hid12); (try clear hid9); (try clear hid12'); (try clear hid9'); (try clear hh_ir); omega)
           have hbE : decide (rowE g (c : Int) (bdL g l i) = 2) = decide ((0 : Int) < ((bdL g l i).length : Int)) := (bd_err k hc hrb i hi3).trans (by simp only [Int.natCast_pos])
           have hbL := bdL_len (g := g) hll i
           simp only [vsAll, loadA, loadRow, partA, partOk, indexAddrA, okAll, stAll, opsA, opA, dstOk, nilSliceOp, Nat.reduceLT, Nat.reduceEqDiff, Nat.reduceBEq, ↓reduceIte, eq_self, wtAll]
           refine ⟨⟨by ((try clear h9); (try clear h12); (try clear n912); (try clear n129); (try clear hid0); (try clear hid12); (try clear hid9); (try clear hid12'); (try clear hid9'); (try clear hh_ir); omega), by ((try clear h9); (try clear h12); (try clear n912); (try clear n129); (try clear hid0); (try clear hid12); (try clear hid9); (try clear hid12'); (try clear hid9'); (try clear hh_ir); omega)⟩, hi3, ?_⟩
           refine callK_pure (wrow_tri g (c : Int) (bdL g l i) _ kn (by ((try clear h9); (try clear h12); (try clear n912); (try clear n129); (try clear hid0); (try clear hid12); (try clear hid9); (try clear hid12'); (try clear hid9'); (try clear hh_ir); omega))) ?_
           simp only [vsAll, binA, binLitA, intA, boolA, extractA, lenA, opA, dstOk, nilSliceOp, Nat.reduceAdd, Nat.reduceLT, Nat.reduceEqDiff, Nat.reduceBEq, ↓reduceIte, eq_self, wtAll, hbE, beq_self_eq_true]
           refine ⟨by simp only [InR_i64]; ((try clear h9); (try clear h12); (try clear n912); (try clear n129); (try clear hid0); (try clear hid12); (try clear hid9); (try clear hid12'); (try clear hid9'); (try clear hh_ir); omega), loop_next (i + 1) (by ((try clear h9); (try clear h12); (try clear n912); (try clear n129); (try clear hid0); (try clear hid12); (try clear hid9); (try clear hid12'); (try clear hid9'); (try clear hh_ir); omega)) (by ((try clear h9); (try clear h12); (try clear n912); (try clear n129); (try clear hid0); (try clear hid12); (try clear hid9); (try clear hid12'); (try clear hid9'); (try clear hh_ir); omega)) ?_ HSub_rfl⟩
           simp only [vsAll, Nat.reduceEqDiff, ↓reduceIte, eq_self, Int.natCast_add, Int.natCast_one]
          ·simp only [vsAll, ↓reduceIte, eq_self]
           exact cutG_of () trivial (by simp only [vsAll, Nat.reduceEqDiff, ↓reduceIte, eq_self]) rfl HSub_rfl
        ·refine wps_cutG (m := mset [390]) (σ := Unit) (fun _ => True) (fun _ => [(59, intsAV (dealL g)), (42, .sl id 1 (dealL g).length), (43, i64 (dealE g)), (18, i64 c), (19, intsAV l), (16, smAV g.sm), (17, cwAV g.cw), (1, .lit (.int .u8 wh)), (2, .lit (.int .u8 bt)), (3, .rsl N 1 (byF b)), (4, gptr g), (9, .ref i9 0 1 0 0), (10, i64 g.cw.length), (11, .func (.func 32) [] [.ref i9 0 1 0 0]), (12, .ref i12 0 7 0 0)]) (fun _ => (((H.set i9 (.box 1 1 fun _ => [i64 g.N])).set i12 (.box 7 1 fun _ => (turG g).cs)).set id (.row 1 (dealL g).length (intF (dealL g))))) (fun _ => []) ?_ fun _ _ => ?_
         ·simp only [vsAll, okParts, buildMutA, partIdx, elemsA, lensA, partsA, partsOk, opA, appendA, dstOk, nilSliceOp, Nat.reduceMul, Nat.reduceLT, Nat.reduceLeDiff, Nat.reduceEqDiff, Nat.reduceBEq, ↓reduceIte, eq_self, wtAll, Try.ntmps8]
          intro ik hh_ik; (try simp only [ite_none] at hh_ik)
          have d11 : ¬ id = ik := by simp_all []
          have d12 : (((H.set i9 (.box 1 1 fun _ => [i64 g.N])).set i12 (.box 7 1 fun _ => (turG g).cs)).set id (.row 1 (dealL g).length (intF (dealL g)))) ik = none := by simp only [Hp.set]; simp_all
          simp only [vsAll, ↓reduceIte, eq_self, hh_ik]
          refine ⟨fun q hq => ⟨rfl, trivial⟩, by ((try clear h9); (try clear h12); (try clear n912); (try clear n129); (try clear hid0); (try clear hid12); (try clear hid9); (try clear hid12'); (try clear hid9'); (try clear hh_ik); omega), by ((try clear h9); (try clear h12); (try clear n912); (try clear n129); (try clear hid0); (try clear hid12); (try clear hid9); (try clear hid12'); (try clear hid9'); (try clear hh_ik); omega), ?_⟩
          refine cutG_ent (Ent.of [(59, .sl ik 1 (dealL g).length), (42, .sl id 1 (dealL g).length), (43, i64 (dealE g)), (18, i64 c), (19, intsAV l), (16, smAV g.sm), (17, cwAV g.cw), (1, .lit (.int .u8 wh)), (2, .lit (.int .u8 bt)), (3, .rsl N 1 (byF b)), (4, gptr g), (9, .ref i9 0 1 0 0), (10, i64 g.cw.length), (11, .func (.func 32) [] [.ref i9 0 1 0 0]), (12, .ref i12 0 7 0 0)] (by simp only [vsAll, Nat.reduceEqDiff, ↓reduceIte, eq_self]) (H' := (((H.set i9 (.box 1 1 fun _ => [i64 g.N])).set i12 (.box 7 1 fun _ => (turG g).cs)).set id (.row 1 (dealL g).length (intF (dealL g)))).set ik (.row 1 (dealL g).length (intF (dealL g)))) ?_ ?_)
          ·exact HSub.trans (B := (((H.set i9 (.box 1 1 fun _ => [i64 g.N])).set i12 (.box 7 1 fun _ => (turG g).cs)).set id (.row 1 (dealL g).length (intF (dealL g)))).set ik (.row 1 (dealL g).length (appF 0 (dealL g).length (fun _ => []) (intF (dealL g))))) (by (repeat (first | exact HSub_rfl | refine HSub_put_eq (by simp only [vsAll, ↓reduceIte, eq_self, n912, hid12', hid9', hh_ik]) ?_ | refine HSub_drop2 (by simp only [eq_self, h9, h12, hid0, hh_ik]) ?_ | refine HSub_keep_eq (by simp only [vsAll, ↓reduceIte, eq_self, reduceCtorEq, Nat.reduceEqDiff, h9, h12, n912, n129, hid0, hid12, hid9, hid12', hid9', hh_ik]) ?_))) (HSub.set (HSub.refl _) (row_ext fun q hq => by rw [appF_at (by ((try clear h9); (try clear h12); (try clear n912); (try clear n129); (try clear hid0); (try clear hid12); (try clear hid9); (try clear hid12'); (try clear hid9'); (try clear hh_ik); omega)), if_neg (by ((try clear h9); (try clear h12); (try clear n912); (try clear n129); (try clear hid0); (try clear hid12); (try clear hid9); (try clear hid12'); (try clear hid9'); (try clear hh_ik); omega)), Nat.sub_zero]))
          refine cutG_ent (Ent.freeze (id := ik) (st := 1) (n := (dealL g).length) (f := intF (dealL g)) (s' := Fr.of [(59, intsAV (dealL g)), (42, .sl id 1 (dealL g).length), (43, i64 (dealE g)), (18, i64 c), (19, intsAV l), (16, smAV g.sm), (17, cwAV g.cw), (1, .lit (.int .u8 wh)), (2, .lit (.int .u8 bt)), (3, .rsl N 1 (byF b)), (4, gptr g), (9, .ref i9 0 1 0 0), (10, i64 g.cw.length), (11, .func (.func 32) [] [.ref i9 0 1 0 0]), (12, .ref i12 0 7 0 0)]) (Hp.set_same _ _ _) (FzL.frz (.hit (FzL.refl _))) ?_)
          refine cutG_of () trivial (by simp only [vsAll, Nat.reduceEqDiff, ↓reduceIte, eq_self]) rfl (HSub_eqn fun q => ?_)
          by_cases e1 : q = ik
          ·subst e1; left; exact d12
          right
          rw [Hp.del_ne _ e1, Hp.set_ne _ _ e1]
         ·refine wps_cutG (m := fun _ => false) (σ := Unit) (fun _ => True) (fun _ => [(59, intsAV (dealL g)), (43, i64 (dealE g)), (18, i64 c), (19, intsAV l), (16, smAV g.sm), (17, cwAV g.cw), (1, .lit (.int .u8 wh)), (2, .lit (.int .u8 bt)), (3, .rsl N 1 (byF b)), (4, gptr g), (9, .ref i9 0 1 0 0), (10, i64 g.cw.length), (11, .func (.func 32) [] [.ref i9 0 1 0 0]), (12, .ref i12 0 7 0 0)]) (fun _ => (H.set i9 (.box 1 1 fun _ => [i64 g.N])).set i12 (.box 7 1 fun _ => (turG g).cs)) (fun _ => []) ?_ fun _ _ => ?_
          ·simp only [vsAll, lenA, opA, dstOk, Nat.reduceLT, Nat.reduceEqDiff, Int.reduceNeg, ↓reduceIte, eq_self, wtAll, Try.ntmps8]
           refine vs_loop (σ := Nat) (fun i => i ≤ (dealL g).length) (fun i => [(59, intsAV (dealL g)), (42, .sl id 1 (dealL g).length), (43, i64 (dealE g)), (18, i64 c), (19, intsAV l), (16, smAV g.sm), (17, cwAV g.cw), (1, .lit (.int .u8 wh)), (2, .lit (.int .u8 bt)), (3, .rsl N 1 (byF b)), (4, gptr g), (9, .ref i9 0 1 0 0), (10, i64 g.cw.length), (11, .func (.func 32) [] [.ref i9 0 1 0 0]), (12, .ref i12 0 7 0 0), (393, .sl id 1 (dealL g).length), (394, i64 (dealL g).length), (395, i64 i)]) (fun i => ((H.set i9 (.box 1 1 fun _ => [i64 g.N])).set i12 (.box 7 1 fun _ => (turG g).cs)).set id (.row 1 (dealL g).length fun q => if q < i then [i64 (-9)] else intF (dealL g) q)) (fun i => (dealL g).length - i) 0 (Nat.zero_le _) ?_ ?_ fun i hi => ?_
           ·simp only [vsAll, Nat.reduceEqDiff, ↓reduceIte, eq_self, Int.natCast_zero]
           ·refine HSub.set (HSub.refl _) (row_ext fun q hq => ?_)
            rw [if_neg (by ((try clear h9); (try clear h12); (try clear n912); (try clear n129); (try clear hid0); (try clear hid12); (try clear hid9); (try clear hid12'); (try clear hid9'); omega))]
           ·simp only [vsAll, binA, binLitA, intA, opA, dstOk, Nat.reduceLT, Nat.reduceEqDiff, Int.reduceNeg, ↓reduceIte, eq_self]
            refine condD (fun hd => ?_) (fun hd => ?_)
            ·have his : i < (dealL g).length := by ((try clear h9); (try clear h12); (try clear n912); (try clear n129); (try clear hid0); (try clear hid12); (try clear hid9); (try clear hid12'); (try clear hid9'); omega)
             simp only [vsAll, binA, binLitA, intA, indexAddrA, cellA, cellsA, opA, newCells, okCells, storeObj, dstOk, nilSliceOp, Nat.reduceLT, Nat.reduceEqDiff, Int.reduceNeg, ↓reduceIte, eq_self, wtAll]
             refine ⟨⟨by ((try clear h9); (try clear h12); (try clear n912); (try clear n129); (try clear hid0); (try clear hid12); (try clear hid9); (try clear hid12'); (try clear hid9'); omega), by ((try clear h9); (try clear h12); (try clear n912); (try clear n129); (try clear hid0); (try clear hid12); (try clear hid9); (try clear hid12'); (try clear hid9'); omega)⟩, his, by simp only [InR_i64]; ((try clear h9); (try clear h12); (try clear n912); (try clear n129); (try clear hid0); (try clear hid12); (try clear hid9); (try clear hid12'); (try clear hid9'); omega), loop_next (i + 1) (by ((try clear h9); (try clear h12); (try clear n912); (try clear n129); (try clear hid0); (try clear hid12); (try clear hid9); (try clear hid12'); (try clear hid9'); omega)) (by ((try clear h9); (try clear h12); (try clear n912); (try clear n129); (try clear hid0); (try clear hid12); (try clear hid9); (try clear hid12'); (try clear hid9'); omega)) ?_ ?_⟩
             ·simp only [vsAll, Nat.reduceEqDiff, ↓reduceIte, eq_self, Int.natCast_add, Int.natCast_one]
             ·rw [Hp.set_set]
              refine HSub.set (HSub.refl _) (row_ext fun q hq => ?_)
              rw [Go.V.updF_at his hq]
              by_cases e : q = i
              ·subst e
               rw [if_pos rfl, if_pos (by ((try clear h9); (try clear h12); (try clear n912); (try clear n129); (try clear hid0); (try clear hid12); (try clear hid9); (try clear hid12'); (try clear hid9'); omega))]
               rfl
              ·have e2 : (q < i) = (q < i + 1) := propext ⟨fun _ => by ((try clear h9); (try clear h12); (try clear n912); (try clear n129); (try clear hid0); (try clear hid12); (try clear hid9); (try clear hid12'); (try clear hid9'); omega), fun _ => by ((try clear h9); (try clear h12); (try clear n912); (try clear n129); (try clear hid0); (try clear hid12); (try clear hid9); (try clear hid12'); (try clear hid9'); omega)⟩
               rw [if_neg e]
               simp only [e2]
            ·simp only [vsAll, Int.reduceNeg, ↓reduceIte, eq_self]
             exact cutG_of () trivial (by simp only [vsAll, Nat.reduceEqDiff, ↓reduceIte, eq_self]) rfl (HSub_drop2 (by simp only [Hp.set]; simp_all) HSub_rfl)
          ·refine wps_vs (m := fun _ => false) ?_
           simp only [vsAll, loadA, loadRow, partA, partOk, okAll, stAll, opsA, opA, dstOk, Nat.reduceLT, Nat.reduceEqDiff, ↓reduceIte, eq_self, wtAll, Try.ntmps8]
           refine callK_pure (wdeal_tri g _ kn) ?_
           simp only [vsAll, binA, binLitA, intA, extractA, opA, guardV, dstOk, nilSliceOp, Nat.reduceAdd, Nat.reduceLT, Nat.reduceEqDiff, ↓reduceIte, eq_self]
           refine gcall (boo true) (fun _ => ⟨by simp only [vsAll, opA], by simp only [vsAll, okAll, opsA, opA, Nat.reduceEqDiff, ↓reduceIte, eq_self], by have h := gints_tri (dealL g) (dealL g) ((H.set i9 (.box 1 1 fun _ => [i64 g.N])).set i12 (.box 7 1 fun _ => (turG g).cs)) (by ((try clear h9); (try clear h12); (try clear n912); (try clear n129); (try clear hid0); (try clear hid12); (try clear hid9); (try clear hid12'); (try clear hid9'); omega)) (by ((try clear h9); (try clear h12); (try clear n912); (try clear n129); (try clear hid0); (try clear hid12); (try clear hid9); (try clear hid12'); (try clear hid9'); omega)); rw [decide_eq_true rfl] at h; exact h⟩) ?_
           simp only [vsAll, unA, lenA, pickA, opA, guardV, dstOk, Nat.reduceLT, Nat.reduceEqDiff, ↓reduceIte, implies_true, eq_self, wtAll]
           refine vs_loop (σ := Nat) (fun i => i ≤ g.sm.length) (fun i => [(16, smAV g.sm), (17, cwAV g.cw), (4, gptr g), (417, smAV g.sm), (418, i64 g.sm.length), (419, i64 i)]) (fun _ => (H.set i9 (.box 1 1 fun _ => [i64 g.N])).set i12 (.box 7 1 fun _ => (turG g).cs)) (fun i => g.sm.length - i) 0 (Nat.zero_le _) ?_ HSub_rfl fun i hi => ?_
           ·simp only [vsAll, Nat.reduceEqDiff, ↓reduceIte, eq_self, Int.natCast_zero]
           ·simp only [vsAll, binA, binLitA, intA, opA, dstOk, Nat.reduceLT, Nat.reduceEqDiff, ↓reduceIte, eq_self]
            refine condD (fun hd => ?_) (fun hd => ?_)
            ·have his : i < g.sm.length := by ((try clear h9); (try clear h12); (try clear n912); (try clear n129); (try clear hid0); (try clear hid12); (try clear hid9); (try clear hid12'); (try clear hid9'); omega)
             simp only [vsAll, opA, dstOk, nilSliceOp, Nat.reduceLT, Nat.reduceEqDiff, ↓reduceIte, eq_self]
             refine vs_draw2 [0, 0, 0, 0, 0, 0, 0, 0, 0, 0] [] [0, 1, 2, 3, 4, 5, 6, 7, 8, 9] (by decide +kernel) ?_
             simp only [vsAll, binA, binLitA, intA, aggA, loadA, loadRow, partA, partOk, fieldAddrA, indexAddrA, opA, dstOk, Nat.reduceAdd, Nat.reduceLT, Nat.reduceEqDiff, ↓reduceIte, eq_self, wtAll, smF_at]
             refine ⟨⟨by ((try clear h9); (try clear h12); (try clear n912); (try clear n129); (try clear hid0); (try clear hid12); (try clear hid9); (try clear hid12'); (try clear hid9'); omega), by ((try clear h9); (try clear h12); (try clear n912); (try clear n129); (try clear hid0); (try clear hid12); (try clear hid9); (try clear hid12'); (try clear hid9'); omega)⟩, his, ⟨by ((try clear h9); (try clear h12); (try clear n912); (try clear n129); (try clear hid0); (try clear hid12); (try clear hid9); (try clear hid12'); (try clear hid9'); omega), by ((try clear h9); (try clear h12); (try clear n912); (try clear n129); (try clear hid0); (try clear hid12); (try clear hid9); (try clear hid12'); (try clear hid9'); omega)⟩, his, eq38, by simp only [InR_i64]; ((try clear h9); (try clear h12); (try clear n912); (try clear n129); (try clear hid0); (try clear hid12); (try clear hid9); (try clear hid12'); (try clear hid9'); omega), loop_next (i + 1) (by ((try clear h9); (try clear h12); (try clear n912); (try clear n129); (try clear hid0); (try clear hid12); (try clear hid9); (try clear hid12'); (try clear hid9'); omega)) (by ((try clear h9); (try clear h12); (try clear n912); (try clear n129); (try clear hid0); (try clear hid12); (try clear hid9); (try clear hid12'); (try clear hid9'); omega)) ?_ HSub_rfl⟩
             simp only [vsAll, Nat.reduceEqDiff, ↓reduceIte, eq_self, Int.natCast_add, Int.natCast_one]
            ·simp only [vsAll, lenA, opA, dstOk, Nat.reduceLT, Nat.reduceEqDiff, ↓reduceIte, eq_self, wtAll]
             refine vs_loop (σ := Nat) (fun i => i ≤ g.cw.length) (fun i => [(17, cwAV g.cw), (4, gptr g), (433, cwAV g.cw), (434, i64 g.cw.length), (435, i64 i)]) (fun _ => (H.set i9 (.box 1 1 fun _ => [i64 g.N])).set i12 (.box 7 1 fun _ => (turG g).cs)) (fun i => g.cw.length - i) 0 (Nat.zero_le _) ?_ HSub_rfl fun i hi => ?_
             ·simp only [vsAll, Nat.reduceEqDiff, ↓reduceIte, eq_self, Int.natCast_zero]
             ·simp only [vsAll, binA, binLitA, intA, opA, dstOk, Nat.reduceLT, Nat.reduceEqDiff, ↓reduceIte, eq_self]
              refine condD (fun hd => ?_) (fun hd => ?_)
              ·have his : i < g.cw.length := by ((try clear h9); (try clear h12); (try clear n912); (try clear n129); (try clear hid0); (try clear hid12); (try clear hid9); (try clear hid12'); (try clear hid9'); omega)
               simp only [vsAll, opA, dstOk, nilSliceOp, Nat.reduceLT, Nat.reduceEqDiff, ↓reduceIte, eq_self]
               refine vs_draw2 [0, 0, 0, 0, 0, 0, 0, 0, 0, 0] [] [0, 1, 2, 3, 4, 5, 6, 7, 8, 9] (by decide +kernel) ?_
               simp only [vsAll, binA, binLitA, intA, aggA, loadA, loadRow, partA, partOk, fieldAddrA, indexAddrA, opA, dstOk, Nat.reduceAdd, Nat.reduceLT, Nat.reduceEqDiff, ↓reduceIte, eq_self, wtAll, cwF_at]
               refine ⟨⟨by ((try clear h9); (try clear h12); (try clear n912); (try clear n129); (try clear hid0); (try clear hid12); (try clear hid9); (try clear hid12'); (try clear hid9'); omega), by ((try clear h9); (try clear h12); (try clear n912); (try clear n129); (try clear hid0); (try clear hid12); (try clear hid9); (try clear hid12'); (try clear hid9'); omega)⟩, his, ⟨by ((try clear h9); (try clear h12); (try clear n912); (try clear n129); (try clear hid0); (try clear hid12); (try clear hid9); (try clear hid12'); (try clear hid9'); omega), by ((try clear h9); (try clear h12); (try clear n912); (try clear n129); (try clear hid0); (try clear hid12); (try clear hid9); (try clear hid12'); (try clear hid9'); omega)⟩, his, eq51, by simp only [InR_i64]; ((try clear h9); (try clear h12); (try clear n912); (try clear n129); (try clear hid0); (try clear hid12); (try clear hid9); (try clear hid12'); (try clear hid9'); omega), loop_next (i + 1) (by ((try clear h9); (try clear h12); (try clear n912); (try clear n129); (try clear hid0); (try clear hid12); (try clear hid9); (try clear hid12'); (try clear hid9'); omega)) (by ((try clear h9); (try clear h12); (try clear n912); (try clear n129); (try clear hid0); (try clear hid12); (try clear hid9); (try clear hid12'); (try clear hid9'); omega)) ?_ HSub_rfl⟩
               simp only [vsAll, Nat.reduceEqDiff, ↓reduceIte, eq_self, Int.natCast_add, Int.natCast_one]
              ·simp only [vsAll, okAll, stAll, opsA, opA, dstOk, Nat.reduceLT, ↓reduceIte, eq_self]
               refine callK_pure (awake_tri _) ?_
               simp only [vsAll, opA, dstOk, nilSliceOp, resA, retA.eq_1, Nat.reduceLT, ↓reduceIte, eq_self, Try.results8]
               exact dropR_pure rfl (by (repeat (first | exact HSub_rfl | refine HSub_put_eq (by simp only [vsAll, ↓reduceIte, eq_self, reduceCtorEq, Nat.reduceEqDiff, h9, h12, n912, n129, hid0, hid12, hid9, hid12', hid9']) ?_ | refine HSub_drop2 (by simp only [eq_self, h9, h12]) ?_ | refine HSub_keep_eq (by simp only [vsAll, ↓reduceIte, eq_self, reduceCtorEq, Nat.reduceEqDiff, h9, h12, n912, n129, hid0, hid12, hid9, hid12', hid9']) ?_)))
end Go.Proofs.Ytdopkbldjagmlaa
end
section
set_option linter.unusedVariables false
set_option linter.unusedSimpArgs false
set_option maxRecDepth 100000
namespace Go.Proofs.Ytdopkbldjagmlaa
open Go.V Go.ChangeShapes Go.WideShapes Go.ChangeAt Go.RowKit
theorem gang_cells : cellsT Try.prog 9 29 = some [.sl [.int .i64, .int .i64, .int .i64, .int .i64], .sl [.int .i64, .int .i64, .int .i64], .int .i64, .int .i64, .int .i64, .sl [.int .i64], .sl [.int .i64, .int .i64, .int .i64]] := by kernel_rfl
theorem ints_of {av : AV} (h : CKA (.sl [.int .i64]) av) : ∃ l : List Int, l.length ≤ maxLen ∧ AV.Le av (intsAV l) := by
 obtain ⟨l, h1, h2⟩ := told_slice (α := Int) (fun z => [i64 z]) 0 (fun cs hcs => by
  obtain ⟨z, hz, _⟩ := told_int 0 hcs rfl
  exact ⟨z, rfl, fun j hj => by
   match j, hj with
   | 0, _ => rw [hz]; exact AV.Le.refl _⟩) h
 exact ⟨l, h1, h2⟩
theorem seams_of {av : AV} (h : CKA (.sl [.int .i64, .int .i64, .int .i64, .int .i64]) av) : ∃ l : List Sm, l.length ≤ maxLen ∧ AV.Le av (smAV l) := by
 obtain ⟨l, h1, h2⟩ := told_slice (α := Sm) Sm.cs sm0 (fun cs hcs => by
  obtain ⟨a, ha, _⟩ := told_int 0 hcs rfl
  obtain ⟨b, hb, _⟩ := told_int 1 hcs rfl
  obtain ⟨c, hc, _⟩ := told_int 2 hcs rfl
  obtain ⟨d, hd, _⟩ := told_int 3 hcs rfl
  exact ⟨⟨a, b, c, d⟩, rfl, fun j hj => by
   match j, hj with
   | 0, _ => rw [ha]; exact AV.Le.refl _
   | 1, _ => rw [hb]; exact AV.Le.refl _
   | 2, _ => rw [hc]; exact AV.Le.refl _
   | 3, _ => rw [hd]; exact AV.Le.refl _⟩) h
 exact ⟨l, h1, h2⟩
theorem crews_of {av : AV} (h : CKA (.sl [.int .i64, .int .i64, .int .i64]) av) : ∃ l : List Cw, l.length ≤ maxLen ∧ AV.Le av (cwAV l) := by
 obtain ⟨l, h1, h2⟩ := told_slice (α := Cw) Cw.cs cw0 (fun cs hcs => by
  obtain ⟨a, ha, _⟩ := told_int 0 hcs rfl
  obtain ⟨b, hb, _⟩ := told_int 1 hcs rfl
  obtain ⟨c, hc, _⟩ := told_int 2 hcs rfl
  exact ⟨⟨a, b, c⟩, rfl, fun j hj => by
   match j, hj with
   | 0, _ => rw [ha]; exact AV.Le.refl _
   | 1, _ => rw [hb]; exact AV.Le.refl _
   | 2, _ => rw [hc]; exact AV.Le.refl _⟩) h
 exact ⟨l, h1, h2⟩
theorem pots_of {av : AV} (h : CKA (.sl [.int .i64, .int .i64, .int .i64]) av) : ∃ l : List Po, l.length ≤ maxLen ∧ AV.Le av (psAV l) := by
 obtain ⟨l, h1, h2⟩ := told_slice (α := Po) Po.cs po0 (fun cs hcs => by
  obtain ⟨a, ha, _⟩ := told_int 0 hcs rfl
  obtain ⟨b, hb, _⟩ := told_int 1 hcs rfl
  obtain ⟨c, hc, _⟩ := told_int 2 hcs rfl
  exact ⟨⟨a, b, c⟩, rfl, fun j hj => by
   match j, hj with
   | 0, _ => rw [ha]; exact AV.Le.refl _
   | 1, _ => rw [hb]; exact AV.Le.refl _
   | 2, _ => rw [hc]; exact AV.Le.refl _⟩) h
 exact ⟨l, h1, h2⟩
theorem gang_rel {H : Type} {enc : TypeId × Value → H} {W : World} {sp : Nat → Bool} {held : Bool} {v : Value} {d : DataW H} {ps : List MemPlace}
  {base : Nat} (hv : Value.okWide Try.prog W .any base 29 v) (h : DataW.Trod enc Try.prog W 0 sp held 29 v d ps) : ∃ g : Gg, True ∧ VRel (st0 W) g.av v := by
 obtain ⟨cs, hcs, hv⟩ := trod_agg gang_cells (by decide) h
 obtain ⟨sm, l0, h0⟩ := seams_of (hcs.2 0 _ rfl)
 obtain ⟨cw, l1, h1⟩ := crews_of (hcs.2 1 _ rfl)
 obtain ⟨hr, h2, _⟩ := told_int 2 hcs rfl
 obtain ⟨fro, h3, _⟩ := told_int 3 hcs rfl
 obtain ⟨per, h4, _⟩ := told_int 4 hcs rfl
 obtain ⟨fs, l5, h5⟩ := ints_of (hcs.2 5 _ rfl)
 obtain ⟨ps, l6, h6⟩ := pots_of (hcs.2 6 _ rfl)
 refine ⟨⟨sm, cw, ⟨hr, fro, per, fs, ps⟩⟩, trivial, AV.Le.aggD (cs := cs) hcs.1.symm (fun j hj => ?_) _ _ hv⟩
 have hj7 : j < 7 := by have := hcs.1; simp at this; omega
 match j, hj7 with
 | 0, _ => exact h0
 | 1, _ => exact h1
 | 2, _ => rw [h2]; exact AV.Le.refl _
 | 3, _ => rw [h3]; exact AV.Le.refl _
 | 4, _ => rw [h4]; exact AV.Le.refl _
 | 5, _ => exact h5
 | 6, _ => exact h6
theorem Try.own : ownKnob Try.prog.godebug = none := by kernel_rfl
theorem u4 : Try.prog.underlying 4 = some .bool := by kernel_rfl
theorem u5 : Try.prog.underlying 5 = some (.int .u8) := by kernel_rfl
theorem u49 : Try.prog.underlying 49 = some (.slice 5) := by kernel_rfl
theorem wf_u8 {n : Int} (h : (Lit.int .u8 n).wf = true) : 0 ≤ n ∧ n ≤ 255 := by
 simp [Lit.wf, IntKind.min, IntKind.max, IntKind.signed, IntKind.bits] at h
 omega
def iz : Value → Int
 | .int _ n => n
 | _ => 0
theorem by_rel {H : Type} {enc : TypeId × Value → H} {W : World} {sp : Nat → Bool} {held : Bool} {v : Value} {d : DataW H} {ps : List MemPlace} {base : Nat}
  (hv : Value.okWide Try.prog W .any base 49 v) (h : DataW.Trod enc Try.prog W 0 sp held 49 v d ps) : ∃ (N : Nat) (b : Nat → Int), (N < 2 ^ 63 ∧ ∀ i, i < N → 0 ≤ b i ∧ b i ≤ 255) ∧ VRel (st0 W) (.rsl N 1 (byF b)) v := by
 obtain ⟨a, len, cap, rfl⟩ := okWide_slice u49 hv
 obtain ⟨fuel, h⟩ := h
 obtain ⟨n, g, hn, hl, hr⟩ := trod_slice_rel (d := 4) (e := 5) (ks := [.int .u8]) u49 (by decide +kernel) (by decide +kernel) (by decide) (show DataW.trod enc Try.prog W 0 sp held fuel 49 [.slice a len cap] = some (d, ps) from h)
 have key : ∀ i, i < n → ∃ z : Int, g i = [.int .u8 z] ∧ 0 ≤ z ∧ z ≤ 255 := fun i hi => by
  obtain ⟨h1, h2⟩ := hl i hi
  match hg : g i, h1 with
  | [x], _ =>
    obtain ⟨z, rfl, hz⟩ := h2 0 (.int .u8) x rfl (by rw [hg]; rfl)
    refine ⟨z, rfl, ?_⟩
    simp [Lit.wf, IntKind.min, IntKind.max, IntKind.signed, IntKind.bits] at hz
    omega
 have hm : maxLen < 2 ^ 63 := by decide
 refine ⟨n, fun i => iz ((g i).getD 0 undef), ⟨by omega, fun i hi => ?_⟩, AV.Le.rsl (fun i hi => ?_) _ _ hr⟩
 ·obtain ⟨z, e, hz⟩ := key i hi
  simp only [e]; exact hz
 ·obtain ⟨z, e, hz⟩ := key i hi
  simp only [e]; simp only [byF, e]; rfl
end Go.Proofs.Ytdopkbldjagmlaa
end
section
set_option linter.unusedVariables false
set_option linter.unusedSimpArgs false
set_option maxRecDepth 100000
namespace Go.Proofs.Ytdopkbldjagmlaa
open Go.V Go.ChangeShapes Go.WideShapes Go.ChangeAt Go.RowKit
theorem gangTurned_lifted (os : Os) (started : os.Started) (H : Type) (enc : TypeId × Value → H) :
  ReturnsInHanded {} Try.checked os 8 .any (Rows.gangTurnedSpec.pre6 enc Try.prog Try.f8 Rows.gangTurnedRow.domain false) (Rows.gangTurnedSpec.post enc Try.prog Try.f8 false true false false) := by
 refine returnsInHanded_of_change (C := Try.checked) Try.own started (by kernel_rfl) Try.func8
  (ChangeSpec.witness6 (enc := enc) (C := Try.checked) false ⟨#[], #[.agg #[.slice none 0 0, .slice none 0 0, .int .i64 0, .int .i64 0, .int .i64 0, .slice none 0 0, .slice none 0 0], .int .u8 0, .int .u8 0, .slice none 0 0], []⟩ 8 (by kernel_rfl) (by kernel_rfl) (by kernel_rfl) (by kernel_rfl)) ?_
 intro W base args ds gs before hval hW hcnd _
 have hW' := hW
 obtain ⟨p, q, hA, hV, rfl, hfz, hnd⟩ := hW
 obtain ⟨rfl, rfl⟩ := trodVars_none hV
 rw [show Try.f8.params.toList = [29, 5, 5, 49] from by kernel_rfl] at hA
 obtain ⟨v0, v1, v2, v3, d0, d1, d2, d3, p0, p1, p2, p3, rfl, rfl, rfl, h0, h1, h2, h3⟩ := trodAll_four hA
 have hval : ∀ (j : Nat) t v, Try.f8.params[j]? = some t → (#[v0, v1, v2, v3] : Array Value)[j]? = some v → Value.okWide Try.prog W .any base t v := hval
 rw [show Try.f8.params = #[29, 5, 5, 49] from by kernel_rfl] at hval
 obtain ⟨x0, b0, r0⟩ := gang_rel (hval 0 29 v0 rfl rfl) h0
 obtain ⟨x1, rfl, rfl, rfl, w1⟩ := open_int u5 (hval 1 5 v1 rfl rfl) h1
 obtain ⟨x2, rfl, rfl, rfl, w2⟩ := open_int u5 (hval 2 5 v2 rfl rfl) h2
 obtain ⟨N3, x3, b3, r3⟩ := by_rel (hval 3 49 v3 rfl rfl) h3
 refine (law_calls (W := W) (args := #[v0, .int .u8 x1, .int .u8 x2, v3]) Try.func8 (by kernel_rfl) rfl (Tri.mono (turned_law x0 x1 x2 N3 x3 H0 (wf_u8 w1) (wf_u8 w2) b3) ?_) (fun p hp => by cases hp) ⟨rfl, fun k hk => match k, hk with | 0, _ => r0 | 1, _ => .lit _ | 2, _ => .lit _ | 3, _ => r3⟩).mono fun e W' he => ?_
 ·rintro r H' ⟨rfl, _⟩; rfl
 ·obtain ⟨rfl, hh, ho, hp⟩ := he
  exact ⟨_, rfl, law_post (d := 6) rfl (tb := 4) (by kernel_rfl) u4 (by decide +kernel) hW' rfl hh ho hp⟩

theorem gangTurned_holds : Rows.GangTurnedSaid :=
 OpenClaim.holds_of_wide (p := Try.pinned) (s := Rows.gangTurnedSpec) (c := Rows.gangTurnedRow) 8 Try.f8 rfl rfl rfl rfl rfl rfl rfl ⟨rfl, rfl, rfl, rfl, rfl⟩ rfl rfl rfl rfl rfl (by kernel_rfl) Try.func8 (by kernel_rfl)
  (of_decide_eq_true (by kernel_rfl)) (by unfold Func.isWrapper; first | (rw [if_pos (by decide +kernel)]; kernel_rfl) | (rw [if_neg (by decide +kernel)]; exact ⟨rfl, rfl⟩))
  (fun os started H enc _ => gangTurned_lifted os started H enc)

end Go.Proofs.Ytdopkbldjagmlaa
end
