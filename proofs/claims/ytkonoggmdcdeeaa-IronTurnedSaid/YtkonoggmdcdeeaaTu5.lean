/- Helper lemmas of this claim, part 5. -/
import Derived.Test.YtkonoggmdcdeeaaTu4
section
set_option linter.unusedVariables false
set_option linter.unusedSimpArgs false
set_option maxHeartbeats 4000000
set_option maxRecDepth 100000
namespace Go.Proofs.Ytkonoggmdcdeeaa
open Go.V
/-- The owners' values with one more: one for one owner, none for all others. -/
def owW (x : Ir) (o : Nat) (i : Nat) : List Int := x.ow.getD i [] ++ [if i = o then 1 else 0]
def stW (x : Ir) (s : Nat) (i : Nat) : List Mk := if i = s then x.st.getD i [] ++ [⟨x.F, 1, 1⟩] else x.st.getD i []
/-- Irons in which a strake has a mark that just an owner's iron has. -/
def withI (x : Ir) (s o : Nat) : Ir := ⟨x.F + 1, (List.range x.ow.length).map (owW x o), x.mo, (List.range x.st.length).map (stW x s), x.cl⟩
def rowO (x : Ir) (o : Nat) (i : Nat) : Nat → List AV := fun j => if j < i then [intsAV (owW x o j)] else llF x.ow j
theorem rowO_len (x : Ir) (o i q : Nat) : (rowO x o i q).length = 1 := by
  unfold rowO
  split <;> rfl
theorem updF_at {n i q : Nat} (hi : i < n) (hq : q < n) (f : Nat → List AV) (c : List AV) : updF n i f c q = if q = i then c else f q := by
  unfold updF
  split
  · rw [if_pos (by omega)]
  · rfl
abbrev extF (l : List Int) (z : Int) : Nat → List AV := appF l.length 1 (appF 0 l.length (fun i => []) (intF l)) (fun i => [[i64 z]].getD i [])
theorem rowO_step {x : Ir} {o i : Nat} {z : Int} (ez : owW x o i = x.ow.getD i [] ++ [z]) (n : Nat) :
    Obj.Le (.row 1 n fun j => if j = i then [.rsl ((x.ow.getD i []).length + 1) 1 (extF (x.ow.getD i []) z)] else rowO x o i j) (.row 1 n (rowO x o (i + 1))) := by
  refine row_leA (fun q hq => ?_) fun q hq c hc => ?_
  · rw [rowO_len]
    split
    · rfl
    · rw [rowO_len]
  · have hc0 : c = 0 := by omega
    subst hc0
    by_cases e : q = i
    · subst e
      rw [if_pos rfl]
      simp only [rowO, Nat.lt_succ_self, if_true, List.getD_cons_zero, ez, intsAV, List.length_append, List.length_cons, List.length_nil, Nat.zero_add]
      exact AV.Le.rsl fun j hj => cp_app _ _ j hj
    · rw [if_neg e]
      have : rowO x o (i + 1) q = rowO x o i q := by
        simp only [rowO]
        by_cases h : q < i
        · rw [if_pos h, if_pos (by omega)]
        · rw [if_neg h, if_neg (by omega)]
      rw [this]
      exact AV.Le.refl _
theorem rowO_frz {x : Ir} {o i iz n q c : Nat} {F : Nat → List AV} {w : Nat} (hi : i < n) (hq : q < n) (hc : c < 1) :
    Frz iz 1 w F ((updF n i (rowO x o i) [AV.sl iz 1 w] q).getD c .any) ((if q = i then [AV.rsl w 1 F] else rowO x o i q).getD c .any) := by
  have hc0 : c = 0 := by omega
  subst hc0
  rw [updF_at hi hq]
  split
  · exact Frz.hit
  · exact Frz.rfl
abbrev extM (l : List Mk) (F : Int) : Nat → List AV := appF l.length 1 (appF 0 l.length (fun i => []) (mkF l)) (fun i => [[i64 F, i64 1, i64 1]].getD i [])
abbrev cpS (x : Ir) : Nat → List AV := cpF 0 x.st.length (fun _ => [.lit (.slice none 0 0)]) 0 (stF x.st)
theorem cpS_at (x : Ir) {j : Nat} (hj : j < x.st.length) : cpS x j = [mksAV (x.st.getD j [])] := by
  simp only [cpF]
  rw [if_pos (by omega), Nat.zero_add, Nat.sub_zero]
  rfl
theorem extM_at (l : List Mk) (F : Int) (i : Nat) (hi : i < l.length + 1) : extM l F i = mkF (l ++ [⟨F, 1, 1⟩]) i := by
  show appF l.length 1 _ _ i = _
  rw [appF_at (by omega)]
  simp only [mkF, getD_snoc]
  by_cases e : i = l.length
  · rw [if_neg (by omega), if_pos e, e, Nat.sub_self]; rfl
  · rw [if_pos (by omega), if_neg e, appF_at (by omega), if_neg (by omega), Nat.sub_zero]; rfl
theorem getD_mapR {α : Type} (f : Nat → α) (n i : Nat) (d : α) (hi : i < n) : ((List.range n).map f).getD i d = f i := by
  rw [List.getD_eq_getElem?_getD, List.getElem?_map, List.getElem?_range hi]; rfl
theorem ow_le (x : Ir) (s o : Nat) : AV.Le (.rsl x.ow.length 1 (rowO x o x.ow.length)) (llAV (withI x s o).ow) := by
  have hl : (withI x s o).ow.length = x.ow.length := by simp [withI]
  simp only [llAV, hl]
  refine AV.Le.rsl fun i hi => ?_
  simp only [rowO, hi, if_true, llF, withI, getD_mapR _ _ _ _ hi]
theorem st_le (x : Ir) (s o : Nat) (hs : s < x.st.length) : AV.Le (.rsl x.st.length 1 fun j => if j = s then [.rsl ((x.st.getD s []).length + 1) 3 (extM (x.st.getD s []) x.F)] else cpS x j) (stAV (withI x s o).st) := by
  have hl : (withI x s o).st.length = x.st.length := by simp [withI]
  simp only [stAV, hl]
  refine AV.Le.rslA (fun i hi => ?_) fun i hi j hj => ?_
  · split
    · rfl
    · rw [cpS_at x hi]; rfl
  · have hj0 : j = 0 := by omega
    subst hj0
    have e : stF (withI x s o).st i = [mksAV (stW x s i)] := by simp only [stF, withI, getD_mapR _ _ _ _ hi]
    rw [e]
    by_cases eq : i = s
    · subst eq
      rw [if_pos rfl]
      simp only [List.getD_cons_zero, stW, if_true, mksAV, List.length_append, List.length_cons, List.length_nil, Nat.zero_add]
      exact AV.Le.rsl fun q hq => extM_at _ _ q hq
    · rw [if_neg eq, cpS_at x hi]
      simp only [stW, eq, if_false]
      exact AV.Le.refl _
theorem cpS_frz {x : Ir} {s im q c w : Nat} {F : Nat → List AV} (hs : s < x.st.length) (hq : q < x.st.length) (hc : c < 1) :
    Frz im 3 w F ((updF x.st.length s (cpS x) [AV.sl im 3 w] q).getD c .any) ((if q = s then [AV.rsl w 3 F] else cpS x q).getD c .any) := by
  have hc0 : c = 0 := by omega
  subst hc0
  rw [updF_at hs hq]
  split
  · exact Frz.hit
  · exact Frz.rfl
theorem with1_tri (x : Ir) (S C : Nat) (m : Bool) (s o : Nat) (H : Hp) (k : Ok x) (hs : s < x.st.length) (ho : o < x.ow.length) :
    PTri Try.prog (fnA 66) [irP x S C m, i64 s, i64 o] H (.tuple [irP (withI x s o) S C m, boo (fitB x o s)]) := by
  have nO := k.nO
  have nS := k.nS
  have hF := k.F
  refine tri_vs (m := mset [21, 55, 57, 60, 69, 85, 94, 102]) Try.func66 (by kernel_rfl) rfl (by simp only [List.length_append, List.length_cons, List.length_nil, Try.ntmps66]; decide) ?_
  simp only [vsAll, loadA, loadRow, partA, partOk, fieldAddrA, lenA, nilCheckA, cellA, cellsA, makeSliceA, opA, allocA, newCells, okCells, storeObj, dstOk, nilSliceOp, argFr, Nat.reduceAdd, Nat.reduceLT, Nat.reduceLeDiff, Nat.reduceEqDiff, Nat.reduceBEq, ↓reduceIte, reduceCtorEq, eq_self, wtAll, Try.ntmps66]
  intro i8 hh_i8; (try simp only [Hp.set_none, ite_none] at hh_i8)
  refine ⟨by ((try clear hh_i8); omega), by ((try clear hh_i8); omega), by ((try clear hh_i8); omega), ?_⟩
  intro iow hh_iow; (try simp only [ite_none] at hh_iow)
  simp only [vsAll, Nat.reduceLT, ↓reduceIte, eq_self, hh_iow]
  refine vs_draw2 [0, 0, 0, 0, 0, 0, 0, 0, 1] [([0, 1, 2, 3, 4, 5, 6, 7], [], 8)] [] (by decide +kernel) ?_
  simp only [vsAll, binA, binLitA, intA, loadA, loadRow, partA, partOk, fieldAddrA, lenA, nilCheckA, cellA, cellsA, opA, newCells, okCells, storeObj, copyA, dstOk, argFr, Nat.reduceLT, Nat.reduceLeDiff, Nat.reduceEqDiff, ↓reduceIte, reduceCtorEq, eq_self, wtAll, hh_iow, Nat.min_self]
  refine ⟨fun i hi => by simp [llF, okCells, cellA], by simp only [InR_i64]; ((try clear hh_i8); (try clear hh_iow); omega), ?_⟩
  rw [Hp.set_set]
  refine vs_loop (σ := Nat) (fun i => i ≤ x.ow.length) (fun i => [(0, irP x S C m), (1, i64 s), (2, i64 o), (8, .ref i8 0 8 0 0), (41, .sl iow 1 x.ow.length), (42, i64 x.ow.length), (43, i64 i)])
    (fun i => (H.set iow (.row 1 x.ow.length (rowO x o i))).set i8 (.box 8 1 fun _ => [i64 (x.F + 1), .sl iow 1 x.ow.length, intsAV x.mo, stAV x.st, clAV x.cl, u64 S, u64 C, boo m])) (fun i => x.ow.length - i) 0 (by ((try clear hh_i8); (try clear hh_iow); omega)) ?_ ?_ fun i hi => ?_
  · simp only [vsAll, argFr, Nat.reduceEqDiff, ↓reduceIte, reduceCtorEq, eq_self, Int.natCast_zero]
  · refine HSub.set (HSub.set (HSub_drop2 hh_i8 (HSub_drop2 hh_iow.2.2 (HSub_drop2 hh_i8 HSub_rfl))) (row_ext fun q hq => ?_)) (.refl _)
    simp only [cpF, rowO, Nat.not_lt_zero, if_false]
    rw [if_pos (by ((try clear hh_i8); (try clear hh_iow); omega)), Nat.zero_add, Nat.sub_zero]
  · simp only [vsAll, binA, binLitA, intA, opA, dstOk, Nat.reduceLT, Nat.reduceEqDiff, ↓reduceIte, reduceCtorEq, eq_self]
    refine condD (fun hd => ?_) (fun hd => ?_)
    · have hr : rowO x o i i = [intsAV (x.ow.getD i [])] := by simp only [rowO, Nat.lt_irrefl, if_false]; rfl
      simp only [vsAll, binA, binLitA, intA, loadA, loadRow, partA, partOk, indexAddrA, opA, dstOk, nilSliceOp, Nat.reduceLT, Nat.reduceEqDiff, Nat.reduceBEq, ↓reduceIte, reduceCtorEq, eq_self, wtAll, hh_iow, hr]
      have hfl := k.ow i (by ((try clear hh_i8); (try clear hh_iow); omega))
      refine ⟨by ((try clear hh_i8); (try clear hh_iow); omega), by ((try clear hh_i8); (try clear hh_iow); omega), condV (fun hc => ?_) (fun hc => ?_)⟩
      · have hc : i = o := by have := of_decide_eq_true hc; ((try clear hh_i8); (try clear hh_iow); omega)
        have ez : owW x o i = x.ow.getD i [] ++ [1] := by simp only [owW, hc, if_true]
        simp only [vsAll, opA, dstOk, nilSliceOp, Nat.reduceLT, Nat.reduceBEq, eq_self]
        refine vs_draw2 [0, 0, 0, 0, 1, 0, 3, 0, 0, 5, 6, 7] [([0, 1, 2, 3, 5, 7, 8], [2], 4), ([], [2], 6), ([], [2], 9), ([10], [], 11)] [] (by decide +kernel) ?_
        simp only [vsAll, binA, binLitA, intA, loadA, loadRow, partA, partOk, fieldAddrA, indexAddrA, cellA, cellsA, okParts, buildSliceA, buildMutA, partIdx, elemsA, lensA, partsA, partsOk, opA, newCells, okCells, storeObj, appendA, dstOk, Nat.reduceMul, Nat.reduceLT, Nat.reduceLeDiff, Nat.reduceEqDiff, Nat.reduceBEq, ↓reduceIte, reduceCtorEq, eq_self, wtAll, hh_iow]
        intro iz hh_iz; (try simp only [ite_none] at hh_iz)
        simp only [vsAll, Nat.reduceLT, ↓reduceIte, eq_self, hh_iz, hr]
        refine ⟨fun q hq => by simp [intF, okCells, cellA], by ((try clear hh_i8); (try clear hh_iow); (try clear hh_iz); omega), by ((try clear hh_i8); (try clear hh_iow); (try clear hh_iz); omega), fun q hq => by simp [okCells, cellA, show q = 0 by ((try clear hh_i8); (try clear hh_iow); (try clear hh_iz); omega)], by ((try clear hh_i8); (try clear hh_iow); (try clear hh_iz); omega), by ((try clear hh_i8); (try clear hh_iow); (try clear hh_iz); omega), by ((try clear hh_i8); (try clear hh_iow); (try clear hh_iz); omega), by ((try clear hh_i8); (try clear hh_iow); (try clear hh_iz); omega), by simp only [InR_i64]; ((try clear hh_i8); (try clear hh_iow); (try clear hh_iz); omega), ?_⟩
        rw [Hp.set_set, Hp.set_set]
        refine loop_ent (Ent.freezeRow (s' := _) (id := iz) (st := 1) (n := (x.ow.getD i []).length + 1) (f := appF (x.ow.getD i []).length 1 (appF 0 (x.ow.getD i []).length (fun i => []) (intF (x.ow.getD i []))) (fun i => [[i64 1]].getD i []))
          (j := iow) (st' := 1) (n' := x.ow.length) (g := updF x.ow.length i (rowO x o i) [.sl iz 1 ((x.ow.getD i []).length + 1)])
          (g' := fun j => if j = i then [.rsl ((x.ow.getD i []).length + 1) 1 (appF (x.ow.getD i []).length 1 (appF 0 (x.ow.getD i []).length (fun i => []) (intF (x.ow.getD i []))) (fun i => [[i64 1]].getD i []))] else rowO x o i j) (by simp only [vsAll, ↓reduceIte, eq_self, hh_iz]) (by simp only [vsAll, ↓reduceIte, eq_self]) hh_iz.2.1.2 (fun t => .rfl) (fun q hq => ?_) (fun q c hq hc' => ?_) ?_)
        · show (ite _ _ _ : List AV).length = 1
          split
          · rfl
          · exact rowO_len _ _ _ _
        · exact rowO_frz (by ((try clear hh_i8); (try clear hh_iow); (try clear hh_iz); omega)) hq hc'
        · refine loop_next (i + 1) (by ((try clear hh_i8); (try clear hh_iow); (try clear hh_iz); omega)) (by ((try clear hh_i8); (try clear hh_iow); (try clear hh_iz); omega)) ?_ ?_
          · simp only [vsAll, Nat.reduceEqDiff, ↓reduceIte, reduceCtorEq, eq_self, Int.natCast_add, Int.natCast_one]
          · exact HSub_put (o' := .box 8 1 fun _ => [i64 (x.F + 1), .sl iow 1 x.ow.length, intsAV x.mo, stAV x.st, clAV x.cl, u64 S, u64 C, boo m]) (by simp only [vsAll, ↓reduceIte, eq_self, hh_iow, hh_iz, Hp.del_get]) (.refl _) (HSub.set (HSub_del hh_iz.2.2 (HSub_drop2 hh_iow.2.2 (HSub_drop2 hh_iz.2.2 (HSub_drop2 hh_i8 (HSub_drop2 hh_iow.2.2 HSub_rfl))))) (rowO_step ez _))
      · have hc : ¬ i = o := by have := of_decide_eq_false hc; ((try clear hh_i8); (try clear hh_iow); omega)
        have ez : owW x o i = x.ow.getD i [] ++ [0] := by simp only [owW, hc, if_false]
        simp only [vsAll]
        refine vs_draw2 [0, 0, 0, 0, 1, 0, 3, 0, 0, 5, 6, 7] [([0, 1, 2, 3, 5, 7, 8], [2], 4), ([], [2], 6), ([], [2], 9), ([10], [], 11)] [] (by decide +kernel) ?_
        simp only [vsAll, binA, binLitA, intA, loadA, loadRow, partA, partOk, fieldAddrA, indexAddrA, cellA, cellsA, okParts, buildSliceA, buildMutA, partIdx, elemsA, lensA, partsA, partsOk, opA, newCells, okCells, storeObj, appendA, dstOk, Nat.reduceMul, Nat.reduceLT, Nat.reduceLeDiff, Nat.reduceEqDiff, Nat.reduceBEq, ↓reduceIte, reduceCtorEq, eq_self, wtAll, hh_iow]
        intro iz hh_iz; (try simp only [ite_none] at hh_iz)
        simp only [vsAll, Nat.reduceLT, ↓reduceIte, eq_self, hh_iz, hr]
        refine ⟨fun q hq => by simp [intF, okCells, cellA], by ((try clear hh_i8); (try clear hh_iow); (try clear hh_iz); omega), by ((try clear hh_i8); (try clear hh_iow); (try clear hh_iz); omega), fun q hq => by simp [okCells, cellA, show q = 0 by ((try clear hh_i8); (try clear hh_iow); (try clear hh_iz); omega)], by ((try clear hh_i8); (try clear hh_iow); (try clear hh_iz); omega), by ((try clear hh_i8); (try clear hh_iow); (try clear hh_iz); omega), by ((try clear hh_i8); (try clear hh_iow); (try clear hh_iz); omega), by ((try clear hh_i8); (try clear hh_iow); (try clear hh_iz); omega), by simp only [InR_i64]; ((try clear hh_i8); (try clear hh_iow); (try clear hh_iz); omega), ?_⟩
        rw [Hp.set_set, Hp.set_set]
        refine loop_ent (Ent.freezeRow (s' := _) (id := iz) (st := 1) (n := (x.ow.getD i []).length + 1) (f := appF (x.ow.getD i []).length 1 (appF 0 (x.ow.getD i []).length (fun i => []) (intF (x.ow.getD i []))) (fun i => [[i64 0]].getD i []))
          (j := iow) (st' := 1) (n' := x.ow.length) (g := updF x.ow.length i (rowO x o i) [.sl iz 1 ((x.ow.getD i []).length + 1)])
          (g' := fun j => if j = i then [.rsl ((x.ow.getD i []).length + 1) 1 (appF (x.ow.getD i []).length 1 (appF 0 (x.ow.getD i []).length (fun i => []) (intF (x.ow.getD i []))) (fun i => [[i64 0]].getD i []))] else rowO x o i j) (by simp only [vsAll, ↓reduceIte, eq_self, hh_iz]) (by simp only [vsAll, ↓reduceIte, eq_self]) hh_iz.2.1.2 (fun t => .rfl) (fun q hq => ?_) (fun q c hq hc' => ?_) ?_)
        · show (ite _ _ _ : List AV).length = 1
          split
          · rfl
          · exact rowO_len _ _ _ _
        · exact rowO_frz (by ((try clear hh_i8); (try clear hh_iow); (try clear hh_iz); omega)) hq hc'
        · refine loop_next (i + 1) (by ((try clear hh_i8); (try clear hh_iow); (try clear hh_iz); omega)) (by ((try clear hh_i8); (try clear hh_iow); (try clear hh_iz); omega)) ?_ ?_
          · simp only [vsAll, Nat.reduceEqDiff, ↓reduceIte, reduceCtorEq, eq_self, Int.natCast_add, Int.natCast_one]
          · exact HSub_put (o' := .box 8 1 fun _ => [i64 (x.F + 1), .sl iow 1 x.ow.length, intsAV x.mo, stAV x.st, clAV x.cl, u64 S, u64 C, boo m]) (by simp only [vsAll, ↓reduceIte, eq_self, hh_iow, hh_iz, Hp.del_get]) (.refl _) (HSub.set (HSub_del hh_iz.2.2 (HSub_drop2 hh_iow.2.2 (HSub_drop2 hh_iz.2.2 (HSub_drop2 hh_i8 (HSub_drop2 hh_iow.2.2 HSub_rfl))))) (rowO_step ez _))
    · have ei : i = x.ow.length := by ((try clear hh_i8); (try clear hh_iow); omega)
      subst ei
      simp only [vsAll, loadA, loadRow, partA, partOk, fieldAddrA, lenA, nilCheckA, cellA, cellsA, makeSliceA, opA, newCells, okCells, storeObj, dstOk, Nat.reduceAdd, Nat.reduceLT, Nat.reduceLeDiff, Nat.reduceEqDiff, Nat.reduceBEq, ↓reduceIte, reduceCtorEq, eq_self, wtAll]
      refine ⟨by ((try clear hh_i8); (try clear hh_iow); omega), by ((try clear hh_i8); (try clear hh_iow); omega), by ((try clear hh_i8); (try clear hh_iow); omega), ?_⟩
      intro ist hh_ist; (try simp only [ite_none] at hh_ist)
      simp only [vsAll, Nat.reduceLT, ↓reduceIte, eq_self, hh_ist]
      refine vs_draw2 [0, 0, 0, 0, 0, 0, 0, 0, 1] [([0, 1, 2, 3, 4, 5, 6, 7], [], 8)] [] (by decide +kernel) ?_
      simp only [vsAll, loadA, loadRow, partA, partOk, fieldAddrA, nilCheckA, opA, copyA, dstOk, Nat.reduceLT, Nat.reduceEqDiff, ↓reduceIte, reduceCtorEq, eq_self, wtAll, hh_ist, Nat.min_self]
      refine ⟨fun i hi => by simp [stF, okCells, cellA], ?_⟩
      refine vs_draw2 [0, 0, 0, 0, 1, 0, 0, 0, 0, 0, 0, 0, 0, 3, 0, 0, 0, 0, 0, 0, 0, 5, 6, 7] [([0, 1, 2, 3, 5, 6, 7, 8, 9, 10, 11, 12, 14, 15, 16, 17, 18, 19, 20], [2, 9, 12, 18], 4), ([], [2, 18], 13), ([], [2], 21), ([22], [], 23)] [] (by decide +kernel) ?_
      simp only [vsAll, loadA, loadRow, partA, partOk, fieldAddrA, indexAddrA, nilCheckA, cellA, cellsA, fillA, okParts, buildSliceA, buildMutA, partIdx, elemsA, lensA, okAll, stAll, opsA, partsA, partsOk, opA, newCells, okCells, storeObj, appendA, dstOk, Nat.reduceAdd, Nat.reduceMul, Nat.reduceLT, Nat.reduceLeDiff, Nat.reduceEqDiff, Nat.reduceBEq, ↓reduceIte, reduceCtorEq, eq_self, wtAll, hh_ist, stF_at]
      refine ⟨by ((try clear hh_i8); (try clear hh_iow); (try clear hh_ist); omega), by ((try clear hh_i8); (try clear hh_iow); (try clear hh_ist); omega), ?_⟩
      intro im hh_im; (try simp only [ite_none] at hh_im)
      have hml := k.st s hs
      have hcp : cpF 0 x.st.length (fun _ => [.lit (.slice none 0 0)]) 0 (stF x.st) s = [mksAV (x.st.getD s [])] := cpS_at x hs
      simp only [vsAll, Nat.reduceLT, ↓reduceIte, eq_self, hh_im, hcp]
      refine ⟨by ((try clear hh_i8); (try clear hh_iow); (try clear hh_ist); (try clear hh_im); omega), fun q hq => by simp [mkF, okCells, cellA], by ((try clear hh_i8); (try clear hh_iow); (try clear hh_ist); (try clear hh_im); omega), by ((try clear hh_i8); (try clear hh_iow); (try clear hh_ist); (try clear hh_im); omega), fun q hq => by simp [okCells, cellA, show q = 0 by ((try clear hh_i8); (try clear hh_iow); (try clear hh_ist); (try clear hh_im); omega)], by ((try clear hh_i8); (try clear hh_iow); (try clear hh_ist); (try clear hh_im); omega), by ((try clear hh_i8); (try clear hh_iow); (try clear hh_ist); (try clear hh_im); omega), by ((try clear hh_i8); (try clear hh_iow); (try clear hh_ist); (try clear hh_im); omega), by ((try clear hh_i8); (try clear hh_iow); (try clear hh_ist); (try clear hh_im); omega), ?_⟩
      rw [Hp.set_set, Hp.set_set]
      refine callK_pure (wfit_tri x S C m o s _ k.gd ho hs) ?_
      simp only [vsAll, opA, dstOk, nilSliceOp, Nat.reduceLT, Nat.reduceEqDiff, Nat.reduceBEq, ↓reduceIte, reduceCtorEq, eq_self]
      refine fn_ent (Ent.of [(6, .ref i8 0 8 0 0), (7, boo (fitB x o s))] (H' := ((((H.set i8 (.box 8 1 fun _ => [i64 (x.F + 1), .sl iow 1 x.ow.length, intsAV x.mo, .sl ist 1 x.st.length, clAV x.cl, u64 S, u64 C, boo m])).set iow (.row 1 x.ow.length (rowO x o x.ow.length))).set im (.row 3 ((x.st.getD s []).length + 1) (extM (x.st.getD s []) x.F))).set ist (.row 1 x.st.length (updF x.st.length s (cpS x) [.sl im 3 ((x.st.getD s []).length + 1)])))) (by simp only [vsAll, Nat.reduceEqDiff, ↓reduceIte, eq_self]) ?_ ?_)
      · (repeat (first | exact HSub_rfl | refine HSub_put_eq (by simp only [vsAll, ↓reduceIte, eq_self, hh_iow, hh_ist, hh_im]) ?_ | refine HSub_drop2 (by simp only [eq_self, hh_i8, hh_iow, hh_ist, hh_im]) ?_ | refine HSub_keep_eq (by simp only [vsAll, binA, binLitA, intA, aggA, boolA, nilA2, isConst, unA, loadA, loadRow, partA, partOk, fieldAddrA, indexAddrA, indexA, fieldA, extractA, lenA, nilCheckA, boxA, cellA, cellsA, fillA, okParts, buildSliceA, buildMutA, makeSliceA, partIdx, elemsA, lensA, ifaceA, convA, mmA, pickA, okAll, stAll, opsA, partsA, partsOk, opA, allocA, boxMutA, newCells, okCells, storeObj, appendA, guardV, taA, nM, mapUpA, lookA, sliceA, boundsA, opO, okO, copyA, dstOk, nilA, quietOk, nilSliceOp, panA, resA, argFr, retA.eq_1, retA.eq_2, Nat.reduceAdd, Nat.reduceSub, Nat.reduceMul, Nat.reduceLT, Nat.reduceLeDiff, Nat.reduceEqDiff, Nat.reduceBEq, Int.reduceAdd, Int.reduceSub, Int.reduceMul, Int.reduceNeg, Int.reduceLE, Int.reduceLT, Int.reduceEq, Int.reduceNe, Int.reduceToNat, ↓reduceIte, reduceCtorEq, implies_true, forall_const, eq_self, ne_eq, wtAll, Try.ntmps66, Try.results66, hh_i8, hh_iow, hh_ist, hh_im]) ?_))
      · have d1 := hh_im.1
        have d2 := hh_iow.2.2
        refine fn_ent (Ent.freezeRow (s' := _) (id := im) (st := 3) (n := (x.st.getD s []).length + 1) (f := extM (x.st.getD s []) x.F) (j := ist) (st' := 1) (n' := x.st.length) (g := updF x.st.length s (cpS x) [.sl im 3 ((x.st.getD s []).length + 1)])
          (g' := (fun j => if j = s then [.rsl ((x.st.getD s []).length + 1) 3 (extM (x.st.getD s []) x.F)] else cpS x j)) (by simp only [vsAll, ↓reduceIte, eq_self, hh_im]) (by simp only [vsAll, ↓reduceIte, eq_self]) (by simp only [vsAll, ne_eq, hh_im]) (fun t => .rfl) (fun q hq => ?_) (fun q c hq hc => cpS_frz hs hq hc) ?_)
        · show (ite _ _ _ : List AV).length = 1
          split
          · rfl
          · rw [cpS_at x hq]; rfl
        refine fn_ent (Ent.of [(6, .ref i8 0 8 0 0), (7, boo (fitB x o s))] (H' := ((H.set i8 (.box 8 1 fun _ => [i64 (x.F + 1), .sl iow 1 x.ow.length, intsAV x.mo, .sl ist 1 x.st.length, clAV x.cl, u64 S, u64 C, boo m])).set iow (.row 1 x.ow.length (rowO x o x.ow.length))).set ist (.row 1 x.st.length (fun j => if j = s then [.rsl ((x.st.getD s []).length + 1) 3 (extM (x.st.getD s []) x.F)] else cpS x j))) (by simp only [vsAll, Nat.reduceEqDiff, ↓reduceIte, eq_self]) ?_ ?_)
        · exact HSub.set (HSub_del (by simp only [vsAll, ↓reduceIte, eq_self, hh_im]) (HSub_drop2 (by simp only [vsAll, ↓reduceIte, eq_self, hh_ist]) (HSub_drop2 (by simp only [vsAll, ↓reduceIte, eq_self, hh_im]) HSub_rfl))) (.refl _)
        refine fn_ent (Ent.freezeBox (s' := _) (id := iow) (st := 1) (n := x.ow.length) (f := rowO x o x.ow.length) (j := i8) (st' := 8) (n' := 1) (g := fun _ => [i64 (x.F + 1), .sl iow 1 x.ow.length, intsAV x.mo, .sl ist 1 x.st.length, clAV x.cl, u64 S, u64 C, boo m]) (g' := fun _ => [i64 (x.F + 1), .rsl x.ow.length 1 (rowO x o x.ow.length), intsAV x.mo, .sl ist 1 x.st.length, clAV x.cl, u64 S, u64 C, boo m]) (by simp only [vsAll, ↓reduceIte, eq_self, hh_ist]) (by simp only [vsAll, ↓reduceIte, eq_self, hh_iow, hh_ist]) (fun t => .rfl) (fun _ _ => rfl) (fun q c hq hc => ?_) ?_)
        · match c, hc with
          | 0, _ => exact .rfl
          | 1, _ => exact .hit
          | 2, _ => exact .rfl
          | 3, _ => exact .rfl
          | 4, _ => exact .rfl
          | 5, _ => exact .rfl
          | 6, _ => exact .rfl
          | 7, _ => exact .rfl
        refine fn_ent (Ent.of [(6, .ref i8 0 8 0 0), (7, boo (fitB x o s))] (H' := (H.set i8 (.box 8 1 fun _ => [i64 (x.F + 1), .rsl x.ow.length 1 (rowO x o x.ow.length), intsAV x.mo, .sl ist 1 x.st.length, clAV x.cl, u64 S, u64 C, boo m])).set ist (.row 1 x.st.length (fun j => if j = s then [.rsl ((x.st.getD s []).length + 1) 3 (extM (x.st.getD s []) x.F)] else cpS x j))) (by simp only [vsAll, Nat.reduceEqDiff, ↓reduceIte, eq_self]) ?_ ?_)
        · exact HSub_put (o' := .row 1 x.st.length (fun j => if j = s then [.rsl ((x.st.getD s []).length + 1) 3 (extM (x.st.getD s []) x.F)] else cpS x j)) (by simp only [vsAll, ↓reduceIte, eq_self, hh_ist, Hp.del_get]) (.refl _) (HSub.set (HSub_del hh_iow.2.2 (HSub_drop2 hh_ist.2.2 (HSub_drop2 hh_iow.2.2 (HSub_drop2 hh_i8 HSub_rfl)))) (.refl _))
        refine fn_ent (Ent.freezeBox (s' := _) (id := ist) (st := 1) (n := x.st.length) (f := (fun j => if j = s then [.rsl ((x.st.getD s []).length + 1) 3 (extM (x.st.getD s []) x.F)] else cpS x j)) (j := i8) (st' := 8) (n' := 1) (g := fun _ => [i64 (x.F + 1), .rsl x.ow.length 1 (rowO x o x.ow.length), intsAV x.mo, .sl ist 1 x.st.length, clAV x.cl, u64 S, u64 C, boo m]) (g' := fun _ => [i64 (x.F + 1), .rsl x.ow.length 1 (rowO x o x.ow.length), intsAV x.mo, .rsl x.st.length 1 (fun j => if j = s then [.rsl ((x.st.getD s []).length + 1) 3 (extM (x.st.getD s []) x.F)] else cpS x j), clAV x.cl, u64 S, u64 C, boo m]) (by simp only [vsAll, ↓reduceIte, eq_self]) (by simp only [vsAll, ↓reduceIte, eq_self, hh_ist]) (fun t => .rfl) (fun _ _ => rfl) (fun q c hq hc => ?_) ?_)
        · match c, hc with
          | 0, _ => exact .rfl
          | 1, _ => exact .rfl
          | 2, _ => exact .rfl
          | 3, _ => exact .hit
          | 4, _ => exact .rfl
          | 5, _ => exact .rfl
          | 6, _ => exact .rfl
          | 7, _ => exact .rfl
        refine fn_ent (Ent.of [(6, .ref i8 0 8 0 0), (7, boo (fitB x o s))] (H' := H.set i8 (.box 8 1 fun _ => irC (withI x s o) S C m)) (by simp only [vsAll, Nat.reduceEqDiff, ↓reduceIte, eq_self]) ?_ ?_)
        · refine HSub.set (HSub_del hh_ist.2.2 (HSub_drop2 hh_ist.2.2 (HSub_drop2 hh_i8 HSub_rfl))) (box_leA (fun _ _ => rfl) fun q hq c hc => ?_)
          match c, hc with
          | 0, _ => exact AV.Le.refl _
          | 1, _ => exact ow_le x s o
          | 2, _ => exact AV.Le.refl _
          | 3, _ => exact st_le x s o hs
          | 4, _ => exact AV.Le.refl _
          | 5, _ => exact AV.Le.refl _
          | 6, _ => exact AV.Le.refl _
          | 7, _ => exact AV.Le.refl _
        refine fn_ent (Ent.freezeB (id := i8) (s' := Fr.of [(6, irP (withI x s o) S C m), (7, boo (fitB x o s))]) (Hp.set_same _ _ _) (fun t => ?_) ?_)
        · by_cases ht : t = 6
          · subst ht
            exact .inr ⟨0, 0, rfl, rfl⟩
          · left
            simp only [Fr.of]
            simp [ht]
        rw [set_del hh_i8]
        refine ret0 ?_
        simp only [vsAll, resA, retA.eq_2, Nat.reduceEqDiff, ↓reduceIte, eq_self, Try.results66]
        exact dropR_pure rfl (HSub.refl _)
end Go.Proofs.Ytkonoggmdcdeeaa
end
section
set_option linter.unusedVariables false
set_option linter.unusedSimpArgs false
set_option maxHeartbeats 4000000
set_option maxRecDepth 100000
namespace Go.Proofs.Ytkonoggmdcdeeaa
open Go.V
theorem withI_ow {x : Ir} {s o i : Nat} (hi : i < x.ow.length) : (withI x s o).ow.getD i [] = owW x o i := getD_mapR _ _ _ _ hi
theorem withI_st {x : Ir} {s o i : Nat} (hi : i < x.st.length) : (withI x s o).st.getD i [] = stW x s i := getD_mapR _ _ _ _ hi
theorem withI_gd {x : Ir} (k : Ok x) (s o : Nat) : Gd (withI x s o) := by
  have lo : (withI x s o).ow.length = x.ow.length := by simp [withI]
  have ls : (withI x s o).st.length = x.st.length := by simp [withI]
  have hF := k.F
  refine ⟨by show 0 ≤ x.F + 1 ∧ x.F + 1 ≤ 5; omega, by rw [lo]; exact k.nO, by rw [lo]; exact k.nM, by rw [ls]; exact k.nS, k.nC, fun i hi => ?_, fun i hi => k.mo i (by omega), fun i hi q hq => ?_, fun i hi => ?_, fun i hi q hq => ?_, fun i hi q hq => ?_, fun i hi => by rw [ls]; exact k.cs i hi, fun i hi => by rw [lo]; exact k.co i hi⟩
  · rw [lo] at hi
    rw [withI_ow hi, owW, List.length_append]
    have := k.ow i hi
    show ((_ + 1 : Nat) : Int) = x.F + 1
    omega
  · rw [lo] at hi
    rw [withI_ow hi, owW, getD_snoc]
    have h1 := k.ow i hi
    have h2 : (q : Int) < x.F + 1 := hq
    split
    · split <;> omega
    · exact k.ov i hi q (by omega)
  · rw [ls] at hi
    rw [withI_st hi, stW]
    have := k.st i hi
    split
    · rw [List.length_append]; show _ + 1 ≤ 7; omega
    · omega
  · rw [ls] at hi
    rw [withI_st hi] at hq ⊢
    show 0 ≤ _ ∧ _ < x.F + 1
    unfold stW at hq ⊢
    split at hq <;> rename_i e
    · rw [if_pos e, getD_snoc]
      split
      · show 0 ≤ x.F ∧ x.F < x.F + 1; omega
      · rename_i hne
        rw [List.length_append] at hq
        have := k.sf i hi q (by simp only [List.length_cons, List.length_nil] at hq; omega)
        omega
    · rw [if_neg e]
      have := k.sf i hi q hq
      omega
  · rw [ls] at hi
    rw [withI_st hi] at hq ⊢
    unfold stW at hq ⊢
    split at hq <;> rename_i e
    · rw [if_pos e, getD_snoc]
      split
      · exact ⟨(by decide : (0 : Int) ≤ 1), (by decide : (1 : Int) ≤ 1), (by decide : (1 : Int) ≤ 9)⟩
      · rename_i hne
        rw [List.length_append] at hq
        exact k.sl i hi q (by simp only [List.length_cons, List.length_nil] at hq; omega)
    · rw [if_neg e]
      exact k.sl i hi q hq

def likB (x : Ir) (s o : Nat) : Bool := fitB x o s && ((tlW (withI x s o) (fullS x) (fullC x) false).isSome && decide (((tlW (withI x s o) (fullS x) (fullC x) false).getD (0, 0)).1 = ((tlW x (fullS x) (fullC x) false).getD (0, 0)).1))
def likN (x : Ir) (s : Nat) : Nat → Nat
  | 0 => 0
  | o + 1 => likN x s o + if likB x s o = true then 2 ^ o else 0
theorem likN_lt (x : Ir) (s o : Nat) : likN x s o < 2 ^ o := by
  induction o with
  | zero => simp [likN]
  | succ o ih => simp only [likN, Nat.pow_succ]; split <;> omega
def likE (x : Ir) (s : Int) : Int := errE x (strB x s) true
def likV (x : Ir) (s : Int) : Nat := if likE x s = 0 then likN x s.toNat x.ow.length else 0
theorem dec_cast2 (a b : Nat) (x : Bool) : (x && decide ((a : Int) = (b : Int))) = (x && decide (a = b)) := by
  rw [show decide ((a : Int) = (b : Int)) = decide (a = b) from decide_eq_decide.2 (by omega)]
theorem wlikely_tri (x : Ir) (s : Int) (H : Hp) (kn : Near x) : PTri Try.prog (fnA 25) [x.av, i64 s] H (.tuple [i64 (likV x s : Nat), i64 (likE x s)]) := by
  refine Tri.drop ?_
  refine tri_a (m := fun _ => false) ans43 Try.func25 (by kernel_rfl) rfl (by simp only [List.length_append, List.length_cons, List.length_nil, Try.ntmps25]; decide) ?_
  simp only [vsAll, boxA, okAll, stAll, opsA, opA, allocA, dstOk, nilSliceOp, argFr, Nat.reduceAdd, Nat.reduceLT, ↓reduceIte, eq_self, wtAll, Try.ntmps25]
  intro i5 hh_i5; (try simp only [Hp.set_none, ite_none] at hh_i5)
  refine vs_draw2 [0, 0, 0, 1, 3, 4] [([0, 1, 2], [], 3), ([], [], 4)] [5] (by decide +kernel) ?_
  simp only [vsAll, loadA, loadRow, partA, partOk, opA, dstOk, argFr, Nat.reduceLT, Nat.reduceEqDiff, ↓reduceIte, eq_self, wtAll]
  refine qcall _ ⟨trivial, by simp only [vsAll, okAll, opsA, opA, ↓reduceIte, eq_self], isStrakeF_tri s _⟩ ?_
  simp only [vsAll, okAll, stAll, opsA, opA, dstOk, Nat.reduceLT, Nat.reduceEqDiff, ↓reduceIte, eq_self]
  refine open_call (open_tri x _ (strB x s) _ kn trivial rfl (fun hk H' => isStrake1_tri x _ _ _ s H' kn)) (fun hno => ?_) (fun hk hv => ?_) (fun hk hv => ?_)
  · have e : likE x s = 1 := errE_no hno _ _
    have ev : likV x s = 0 := by simp only [likV, e]; rfl
    simp only [vsAll]
    refine ⟨1, i5, _, rfl, rfl, by simp only [vsAll, ↓reduceIte, eq_self]; try rfl, ?_⟩
    simp only [vsAll, loadA, loadRow, partA, partOk, resA, retA.eq_2, Nat.reduceLT, Nat.reduceEqDiff, ↓reduceIte, eq_self, wtAll, Try.results25]
    refine dropR_pure ?_ (by (repeat (first | exact HSub_rfl | refine HSub_put_eq (by simp only [vsAll, binA, binLitA, intA, aggA, boolA, nilA2, isConst, unA, loadA, loadRow, partA, partOk, fieldAddrA, indexAddrA, indexA, fieldA, extractA, lenA, nilCheckA, boxA, cellA, cellsA, fillA, okParts, buildSliceA, buildMutA, makeSliceA, partIdx, elemsA, lensA, ifaceA, convA, mmA, pickA, okAll, stAll, opsA, partsA, partsOk, opA, allocA, boxMutA, newCells, okCells, storeObj, appendA, guardV, taA, nM, mapUpA, lookA, sliceA, boundsA, opO, okO, copyA, dstOk, nilA, quietOk, nilSliceOp, panA, resA, argFr, retA.eq_1, retA.eq_2, Nat.reduceAdd, Nat.reduceSub, Nat.reduceMul, Nat.reduceLT, Nat.reduceLeDiff, Nat.reduceEqDiff, Nat.reduceBEq, Int.reduceAdd, Int.reduceSub, Int.reduceMul, Int.reduceNeg, Int.reduceLE, Int.reduceLT, Int.reduceEq, Int.reduceNe, Int.reduceToNat, ↓reduceIte, reduceCtorEq, implies_true, forall_const, eq_self, ne_eq, wtAll, Try.ntmps25, Try.results25, hh_i5]) ?_ | refine HSub_drop2 (by simp only [eq_self, hh_i5]) ?_ | refine HSub_keep_eq (by simp only [vsAll, binA, binLitA, intA, aggA, boolA, nilA2, isConst, unA, loadA, loadRow, partA, partOk, fieldAddrA, indexAddrA, indexA, fieldA, extractA, lenA, nilCheckA, boxA, cellA, cellsA, fillA, okParts, buildSliceA, buildMutA, makeSliceA, partIdx, elemsA, lensA, ifaceA, convA, mmA, pickA, okAll, stAll, opsA, partsA, partsOk, opA, allocA, boxMutA, newCells, okCells, storeObj, appendA, guardV, taA, nM, mapUpA, lookA, sliceA, boundsA, opO, okO, copyA, dstOk, nilA, quietOk, nilSliceOp, panA, resA, argFr, retA.eq_1, retA.eq_2, Nat.reduceAdd, Nat.reduceSub, Nat.reduceMul, Nat.reduceLT, Nat.reduceLeDiff, Nat.reduceEqDiff, Nat.reduceBEq, Int.reduceAdd, Int.reduceSub, Int.reduceMul, Int.reduceNeg, Int.reduceLE, Int.reduceLT, Int.reduceEq, Int.reduceNe, Int.reduceToNat, ↓reduceIte, reduceCtorEq, implies_true, forall_const, eq_self, ne_eq, wtAll, Try.ntmps25, Try.results25, hh_i5]) ?_)))
    simp only [eq_self, ev, e, Int.natCast_zero]
  · have e : likE x s = 2 := by unfold likE; rw [hv]; exact errE_bad hk _
    have ev : likV x s = 0 := by simp only [likV, e]; rfl
    simp only [vsAll]
    refine ⟨2, i5, _, rfl, rfl, by simp only [vsAll, ↓reduceIte, eq_self]; try rfl, ?_⟩
    simp only [vsAll, loadA, loadRow, partA, partOk, resA, retA.eq_2, Nat.reduceLT, Nat.reduceEqDiff, ↓reduceIte, eq_self, wtAll, Try.results25]
    refine dropR_pure ?_ (by (repeat (first | exact HSub_rfl | refine HSub_put_eq (by simp only [vsAll, binA, binLitA, intA, aggA, boolA, nilA2, isConst, unA, loadA, loadRow, partA, partOk, fieldAddrA, indexAddrA, indexA, fieldA, extractA, lenA, nilCheckA, boxA, cellA, cellsA, fillA, okParts, buildSliceA, buildMutA, makeSliceA, partIdx, elemsA, lensA, ifaceA, convA, mmA, pickA, okAll, stAll, opsA, partsA, partsOk, opA, allocA, boxMutA, newCells, okCells, storeObj, appendA, guardV, taA, nM, mapUpA, lookA, sliceA, boundsA, opO, okO, copyA, dstOk, nilA, quietOk, nilSliceOp, panA, resA, argFr, retA.eq_1, retA.eq_2, Nat.reduceAdd, Nat.reduceSub, Nat.reduceMul, Nat.reduceLT, Nat.reduceLeDiff, Nat.reduceEqDiff, Nat.reduceBEq, Int.reduceAdd, Int.reduceSub, Int.reduceMul, Int.reduceNeg, Int.reduceLE, Int.reduceLT, Int.reduceEq, Int.reduceNe, Int.reduceToNat, ↓reduceIte, reduceCtorEq, implies_true, forall_const, eq_self, ne_eq, wtAll, Try.ntmps25, Try.results25, hh_i5]) ?_ | refine HSub_drop2 (by simp only [eq_self, hh_i5]) ?_ | refine HSub_keep_eq (by simp only [vsAll, binA, binLitA, intA, aggA, boolA, nilA2, isConst, unA, loadA, loadRow, partA, partOk, fieldAddrA, indexAddrA, indexA, fieldA, extractA, lenA, nilCheckA, boxA, cellA, cellsA, fillA, okParts, buildSliceA, buildMutA, makeSliceA, partIdx, elemsA, lensA, ifaceA, convA, mmA, pickA, okAll, stAll, opsA, partsA, partsOk, opA, allocA, boxMutA, newCells, okCells, storeObj, appendA, guardV, taA, nM, mapUpA, lookA, sliceA, boundsA, opO, okO, copyA, dstOk, nilA, quietOk, nilSliceOp, panA, resA, argFr, retA.eq_1, retA.eq_2, Nat.reduceAdd, Nat.reduceSub, Nat.reduceMul, Nat.reduceLT, Nat.reduceLeDiff, Nat.reduceEqDiff, Nat.reduceBEq, Int.reduceAdd, Int.reduceSub, Int.reduceMul, Int.reduceNeg, Int.reduceLE, Int.reduceLT, Int.reduceEq, Int.reduceNe, Int.reduceToNat, ↓reduceIte, reduceCtorEq, implies_true, forall_const, eq_self, ne_eq, wtAll, Try.ntmps25, Try.results25, hh_i5]) ?_)))
    simp only [eq_self, ev, e, Int.natCast_zero]
  · simp only [vsAll, okAll, stAll, opsA, opA, dstOk, Nat.reduceLT, ↓reduceIte, eq_self]
    refine told_call hk (full_lt hk).2 (fun hl => ?_) (fun hl => ?_)
    · have e : likE x s = 0 := by unfold likE; rw [hv]; exact errE_told hk hl
      rw [strB_iff] at hv
      obtain ⟨q, rfl⟩ : ∃ q : Nat, s = (q : Int) := ⟨s.toNat, by ((try clear hh_i5); omega)⟩
      have nO := hk.nO
      simp only [vsAll, okAll, stAll, opsA, opA, dstOk, Nat.reduceLT, ↓reduceIte, eq_self]
      refine callK_pure (least_tri x (fullS x) (fullC x) false _ hk.gd (full_lt hk).1 (full_lt hk).2) ?_
      simp only [vsAll, loadA, loadRow, partA, partOk, fieldAddrA, extractA, lenA, cellA, cellsA, opA, allocA, newCells, okCells, storeObj, dstOk, nilSliceOp, Nat.reduceAdd, Nat.reduceLT, Nat.reduceEqDiff, ↓reduceIte, eq_self, wtAll]
      intro i7 hh_i7; (try simp only [ite_none] at hh_i7)
      refine vs_loop (σ := Nat) (fun i => i ≤ x.ow.length) (fun i => [(1, i64 q), (5, .ref i5 0 1 0 0), (6, irP x (fullS x) (fullC x) false), (7, .ref i7 0 2 0 0), (9, i64 (likN x q i : Nat)), (27, i64 x.ow.length), (28, i64 i)])
        (fun _ => (H.set i5 (.box 1 1 fun _ => [i64 0])).set i7 (.box 2 1 fun _ => [i64 (((tlW x (fullS x) (fullC x) false).getD (0, 0)).1 : Nat), i64 (((tlW x (fullS x) (fullC x) false).getD (0, 0)).2 : Nat)])) (fun i => x.ow.length - i) 0 (by ((try clear hh_i5); (try clear hh_i7); omega)) ?_ ?_ fun i hi => ?_
      · simp only [vsAll, argFr, Nat.reduceEqDiff, ↓reduceIte, eq_self, Int.natCast_zero, likN]
      · (repeat (first | exact HSub_rfl | refine HSub_put_eq (by simp only [vsAll, ↓reduceIte, eq_self, hh_i7]) ?_ | refine HSub_drop2 (by simp only [eq_self, hh_i5, hh_i7]) ?_ | refine HSub_keep_eq (by simp only [vsAll, binA, binLitA, intA, aggA, boolA, nilA2, isConst, unA, loadA, loadRow, partA, partOk, fieldAddrA, indexAddrA, indexA, fieldA, extractA, lenA, nilCheckA, boxA, cellA, cellsA, fillA, okParts, buildSliceA, buildMutA, makeSliceA, partIdx, elemsA, lensA, ifaceA, convA, mmA, pickA, okAll, stAll, opsA, partsA, partsOk, opA, allocA, boxMutA, newCells, okCells, storeObj, appendA, guardV, taA, nM, mapUpA, lookA, sliceA, boundsA, opO, okO, copyA, dstOk, nilA, quietOk, nilSliceOp, panA, resA, argFr, retA.eq_1, retA.eq_2, Nat.reduceAdd, Nat.reduceSub, Nat.reduceMul, Nat.reduceLT, Nat.reduceLeDiff, Nat.reduceEqDiff, Nat.reduceBEq, Int.reduceAdd, Int.reduceSub, Int.reduceMul, Int.reduceNeg, Int.reduceLE, Int.reduceLT, Int.reduceEq, Int.reduceNe, Int.reduceToNat, ↓reduceIte, reduceCtorEq, implies_true, forall_const, eq_self, ne_eq, wtAll, Try.ntmps25, Try.results25, hh_i5, hh_i7]) ?_))
      · simp only [vsAll, binA, binLitA, intA, opA, dstOk, Nat.reduceLT, Nat.reduceEqDiff, ↓reduceIte, eq_self]
        refine condD (fun hd => ?_) (fun hd => ?_)
        · have hb := likN_lt x q i
          have hp : 2 ^ i ≤ 2 ^ 5 := Nat.pow_le_pow_right (by decide) (by ((try clear hh_i5); (try clear hh_i7); omega))
          have ep : (1 : Int) * 2 ^ i = ((2 ^ i : Nat) : Int) := by rw [Int.one_mul]; simp
          simp only [vsAll, okAll, stAll, opsA, opA, dstOk, nilSliceOp, Nat.reduceLT, Nat.reduceEqDiff, ↓reduceIte, eq_self]
          refine callK_pure (with1_tri x _ _ _ q i _ hk (by ((try clear hh_i5); (try clear hh_i7); omega)) (by ((try clear hh_i5); (try clear hh_i7); omega))) ?_
          simp only [vsAll, extractA, opA, dstOk, nilSliceOp, Nat.reduceAdd, Nat.reduceLT, Nat.reduceEqDiff, ↓reduceIte, eq_self]
          refine condV (fun hf => ?_) (fun hf => ?_)
          · simp only [vsAll, okAll, stAll, opsA, opA, dstOk, Nat.reduceLT, Nat.reduceEqDiff, ↓reduceIte, eq_self]
            refine callK_pure (least_tri (withI x q i) (fullS x) (fullC x) false _ (withI_gd hk q i) (full_lt hk).1 (full_lt hk).2) ?_
            have hlb : likB x q i = ((tlW (withI x q i) (fullS x) (fullC x) false).isSome && decide (((tlW (withI x q i) (fullS x) (fullC x) false).getD (0, 0)).1 = ((tlW x (fullS x) (fullC x) false).getD (0, 0)).1)) := by simp only [likB, hf, Bool.true_and]
            generalize tlW (withI x q i) (fullS x) (fullC x) false = tv at hlb ⊢
            simp only [vsAll, binA, binLitA, intA, loadA, loadRow, partA, partOk, fieldAddrA, extractA, cellA, cellsA, pickA, opA, allocA, newCells, okCells, storeObj, guardV, dstOk, nilSliceOp, Nat.reduceAdd, Nat.reduceLT, Nat.reduceEqDiff, ↓reduceIte, implies_true, eq_self, wtAll]
            intro i13 hh_i13; (try simp only [ite_none] at hh_i13)
            simp only [vsAll, Nat.reduceLT, ↓reduceIte, eq_self, hh_i13]
            rw [dec_cast2, ← hlb]
            refine condV (fun hc => ?_) (fun hc => ?_)
            · have e2 : likN x q (i + 1) = likN x q i + 2 ^ i := by simp only [likN, hc, if_true]
              simp only [vsAll, binA, binLitA, intA, opA, dstOk, nilSliceOp, Nat.reduceLT, Nat.reduceEqDiff, ↓reduceIte, eq_self, ep]
              have eo : likN x q i ||| 2 ^ i = likN x q (i + 1) := by rw [or_bit _ _ hb, e2]
              refine ⟨⟨by ((try clear hh_i5); (try clear hh_i7); (try clear hh_i13); omega), by ((try clear hh_i5); (try clear hh_i7); (try clear hh_i13); omega), by simp only [InR_i64]; ((try clear hh_i5); (try clear hh_i7); (try clear hh_i13); omega)⟩, ⟨by ((try clear hh_i5); (try clear hh_i7); (try clear hh_i13); omega), by ((try clear hh_i5); (try clear hh_i7); (try clear hh_i13); omega), by simp only [InR_i64]; ((try clear hh_i5); (try clear hh_i7); (try clear hh_i13); omega), by simp only [InR_i64]; ((try clear hh_i5); (try clear hh_i7); (try clear hh_i13); omega)⟩, by simp only [InR_i64]; ((try clear hh_i5); (try clear hh_i7); (try clear hh_i13); omega), loop_next (i + 1) (by ((try clear hh_i5); (try clear hh_i7); (try clear hh_i13); omega)) (by ((try clear hh_i5); (try clear hh_i7); (try clear hh_i13); omega)) ?_ ?_⟩
              · simp only [vsAll, Nat.reduceEqDiff, ↓reduceIte, eq_self, Int.natCast_add, Int.natCast_one, eo]
              · (repeat (first | exact HSub_rfl | refine HSub_put_eq (by simp only [vsAll, ↓reduceIte, eq_self, hh_i7, hh_i13]) ?_ | refine HSub_drop2 (by simp only [eq_self, hh_i5, hh_i7, hh_i13]) ?_ | refine HSub_keep_eq (by simp only [vsAll, binA, binLitA, intA, aggA, boolA, nilA2, isConst, unA, loadA, loadRow, partA, partOk, fieldAddrA, indexAddrA, indexA, fieldA, extractA, lenA, nilCheckA, boxA, cellA, cellsA, fillA, okParts, buildSliceA, buildMutA, makeSliceA, partIdx, elemsA, lensA, ifaceA, convA, mmA, pickA, okAll, stAll, opsA, partsA, partsOk, opA, allocA, boxMutA, newCells, okCells, storeObj, appendA, guardV, taA, nM, mapUpA, lookA, sliceA, boundsA, opO, okO, copyA, dstOk, nilA, quietOk, nilSliceOp, panA, resA, argFr, retA.eq_1, retA.eq_2, Nat.reduceAdd, Nat.reduceSub, Nat.reduceMul, Nat.reduceLT, Nat.reduceLeDiff, Nat.reduceEqDiff, Nat.reduceBEq, Int.reduceAdd, Int.reduceSub, Int.reduceMul, Int.reduceNeg, Int.reduceLE, Int.reduceLT, Int.reduceEq, Int.reduceNe, Int.reduceToNat, ↓reduceIte, reduceCtorEq, implies_true, forall_const, eq_self, ne_eq, wtAll, Try.ntmps25, Try.results25, hh_i5, hh_i7, hh_i13]) ?_))
            · have e2 : likN x q (i + 1) = likN x q i := by simp only [likN, hc, Bool.false_eq_true, if_false, Nat.add_zero]
              simp only [vsAll, binA, binLitA, intA, opA, dstOk, Nat.reduceLT, Nat.reduceEqDiff, ↓reduceIte, eq_self]
              refine ⟨by simp only [InR_i64]; ((try clear hh_i5); (try clear hh_i7); (try clear hh_i13); omega), loop_next (i + 1) (by ((try clear hh_i5); (try clear hh_i7); (try clear hh_i13); omega)) (by ((try clear hh_i5); (try clear hh_i7); (try clear hh_i13); omega)) ?_ ?_⟩
              · simp only [vsAll, Nat.reduceEqDiff, ↓reduceIte, eq_self, Int.natCast_add, Int.natCast_one, e2]
              · (repeat (first | exact HSub_rfl | refine HSub_put_eq (by simp only [vsAll, ↓reduceIte, eq_self, hh_i7, hh_i13]) ?_ | refine HSub_drop2 (by simp only [eq_self, hh_i5, hh_i7, hh_i13]) ?_ | refine HSub_keep_eq (by simp only [vsAll, binA, binLitA, intA, aggA, boolA, nilA2, isConst, unA, loadA, loadRow, partA, partOk, fieldAddrA, indexAddrA, indexA, fieldA, extractA, lenA, nilCheckA, boxA, cellA, cellsA, fillA, okParts, buildSliceA, buildMutA, makeSliceA, partIdx, elemsA, lensA, ifaceA, convA, mmA, pickA, okAll, stAll, opsA, partsA, partsOk, opA, allocA, boxMutA, newCells, okCells, storeObj, appendA, guardV, taA, nM, mapUpA, lookA, sliceA, boundsA, opO, okO, copyA, dstOk, nilA, quietOk, nilSliceOp, panA, resA, argFr, retA.eq_1, retA.eq_2, Nat.reduceAdd, Nat.reduceSub, Nat.reduceMul, Nat.reduceLT, Nat.reduceLeDiff, Nat.reduceEqDiff, Nat.reduceBEq, Int.reduceAdd, Int.reduceSub, Int.reduceMul, Int.reduceNeg, Int.reduceLE, Int.reduceLT, Int.reduceEq, Int.reduceNe, Int.reduceToNat, ↓reduceIte, reduceCtorEq, implies_true, forall_const, eq_self, ne_eq, wtAll, Try.ntmps25, Try.results25, hh_i5, hh_i7, hh_i13]) ?_))
          · have e2 : likN x q (i + 1) = likN x q i := by simp only [likN, likB, hf, Bool.false_and, Bool.false_eq_true, if_false, Nat.add_zero]
            simp only [vsAll, binA, binLitA, intA, opA, dstOk, Nat.reduceLT, Nat.reduceEqDiff, ↓reduceIte, eq_self]
            refine ⟨by simp only [InR_i64]; ((try clear hh_i5); (try clear hh_i7); omega), loop_next (i + 1) (by ((try clear hh_i5); (try clear hh_i7); omega)) (by ((try clear hh_i5); (try clear hh_i7); omega)) ?_ ?_⟩
            · simp only [vsAll, Nat.reduceEqDiff, ↓reduceIte, eq_self, Int.natCast_add, Int.natCast_one, e2]
            · (repeat (first | exact HSub_rfl | refine HSub_put_eq (by simp only [vsAll, binA, binLitA, intA, aggA, boolA, nilA2, isConst, unA, loadA, loadRow, partA, partOk, fieldAddrA, indexAddrA, indexA, fieldA, extractA, lenA, nilCheckA, boxA, cellA, cellsA, fillA, okParts, buildSliceA, buildMutA, makeSliceA, partIdx, elemsA, lensA, ifaceA, convA, mmA, pickA, okAll, stAll, opsA, partsA, partsOk, opA, allocA, boxMutA, newCells, okCells, storeObj, appendA, guardV, taA, nM, mapUpA, lookA, sliceA, boundsA, opO, okO, copyA, dstOk, nilA, quietOk, nilSliceOp, panA, resA, argFr, retA.eq_1, retA.eq_2, Nat.reduceAdd, Nat.reduceSub, Nat.reduceMul, Nat.reduceLT, Nat.reduceLeDiff, Nat.reduceEqDiff, Nat.reduceBEq, Int.reduceAdd, Int.reduceSub, Int.reduceMul, Int.reduceNeg, Int.reduceLE, Int.reduceLT, Int.reduceEq, Int.reduceNe, Int.reduceToNat, ↓reduceIte, reduceCtorEq, implies_true, forall_const, eq_self, ne_eq, wtAll, Try.ntmps25, Try.results25, hh_i5, hh_i7]) ?_ | refine HSub_drop2 (by simp only [vsAll, binA, binLitA, intA, aggA, boolA, nilA2, isConst, unA, loadA, loadRow, partA, partOk, fieldAddrA, indexAddrA, indexA, fieldA, extractA, lenA, nilCheckA, boxA, cellA, cellsA, fillA, okParts, buildSliceA, buildMutA, makeSliceA, partIdx, elemsA, lensA, ifaceA, convA, mmA, pickA, okAll, stAll, opsA, partsA, partsOk, opA, allocA, boxMutA, newCells, okCells, storeObj, appendA, guardV, taA, nM, mapUpA, lookA, sliceA, boundsA, opO, okO, copyA, dstOk, nilA, quietOk, nilSliceOp, panA, resA, argFr, retA.eq_1, retA.eq_2, Nat.reduceAdd, Nat.reduceSub, Nat.reduceMul, Nat.reduceLT, Nat.reduceLeDiff, Nat.reduceEqDiff, Nat.reduceBEq, Int.reduceAdd, Int.reduceSub, Int.reduceMul, Int.reduceNeg, Int.reduceLE, Int.reduceLT, Int.reduceEq, Int.reduceNe, Int.reduceToNat, ↓reduceIte, reduceCtorEq, implies_true, forall_const, eq_self, ne_eq, wtAll, Try.ntmps25, Try.results25, hh_i5, hh_i7]) ?_ | refine HSub_keep_eq (by simp only [vsAll, binA, binLitA, intA, aggA, boolA, nilA2, isConst, unA, loadA, loadRow, partA, partOk, fieldAddrA, indexAddrA, indexA, fieldA, extractA, lenA, nilCheckA, boxA, cellA, cellsA, fillA, okParts, buildSliceA, buildMutA, makeSliceA, partIdx, elemsA, lensA, ifaceA, convA, mmA, pickA, okAll, stAll, opsA, partsA, partsOk, opA, allocA, boxMutA, newCells, okCells, storeObj, appendA, guardV, taA, nM, mapUpA, lookA, sliceA, boundsA, opO, okO, copyA, dstOk, nilA, quietOk, nilSliceOp, panA, resA, argFr, retA.eq_1, retA.eq_2, Nat.reduceAdd, Nat.reduceSub, Nat.reduceMul, Nat.reduceLT, Nat.reduceLeDiff, Nat.reduceEqDiff, Nat.reduceBEq, Int.reduceAdd, Int.reduceSub, Int.reduceMul, Int.reduceNeg, Int.reduceLE, Int.reduceLT, Int.reduceEq, Int.reduceNe, Int.reduceToNat, ↓reduceIte, reduceCtorEq, implies_true, forall_const, eq_self, ne_eq, wtAll, Try.ntmps25, Try.results25, hh_i5, hh_i7]) ?_))
        · have ei : i = x.ow.length := by ((try clear hh_i5); (try clear hh_i7); omega)
          have ev : likV x (q : Int) = likN x q i := by simp only [likV, e, if_true, Int.toNat_natCast, ei]
          simp only [vsAll, cellA, cellsA, opA, newCells, okCells, storeObj, dstOk, nilSliceOp, Nat.reduceLT, Nat.reduceEqDiff, ↓reduceIte, eq_self, wtAll, hh_i7]
          refine Ent.ret ⟨i5, _, rfl, by simp only [vsAll, ↓reduceIte, eq_self]; try rfl, ?_⟩
          simp only [vsAll, loadA, loadRow, partA, partOk, resA, retA.eq_2, Nat.reduceLT, Nat.reduceEqDiff, ↓reduceIte, eq_self, wtAll, Try.results25]
          refine dropR_pure ?_ (by (repeat (first | exact HSub_rfl | refine HSub_put_eq (by simp only [vsAll, binA, binLitA, intA, aggA, boolA, nilA2, isConst, unA, loadA, loadRow, partA, partOk, fieldAddrA, indexAddrA, indexA, fieldA, extractA, lenA, nilCheckA, boxA, cellA, cellsA, fillA, okParts, buildSliceA, buildMutA, makeSliceA, partIdx, elemsA, lensA, ifaceA, convA, mmA, pickA, okAll, stAll, opsA, partsA, partsOk, opA, allocA, boxMutA, newCells, okCells, storeObj, appendA, guardV, taA, nM, mapUpA, lookA, sliceA, boundsA, opO, okO, copyA, dstOk, nilA, quietOk, nilSliceOp, panA, resA, argFr, retA.eq_1, retA.eq_2, Nat.reduceAdd, Nat.reduceSub, Nat.reduceMul, Nat.reduceLT, Nat.reduceLeDiff, Nat.reduceEqDiff, Nat.reduceBEq, Int.reduceAdd, Int.reduceSub, Int.reduceMul, Int.reduceNeg, Int.reduceLE, Int.reduceLT, Int.reduceEq, Int.reduceNe, Int.reduceToNat, ↓reduceIte, reduceCtorEq, implies_true, forall_const, eq_self, ne_eq, wtAll, Try.ntmps25, Try.results25, hh_i5, hh_i7]) ?_ | refine HSub_drop2 (by simp only [eq_self, hh_i5, hh_i7]) ?_ | refine HSub_keep_eq (by simp only [vsAll, binA, binLitA, intA, aggA, boolA, nilA2, isConst, unA, loadA, loadRow, partA, partOk, fieldAddrA, indexAddrA, indexA, fieldA, extractA, lenA, nilCheckA, boxA, cellA, cellsA, fillA, okParts, buildSliceA, buildMutA, makeSliceA, partIdx, elemsA, lensA, ifaceA, convA, mmA, pickA, okAll, stAll, opsA, partsA, partsOk, opA, allocA, boxMutA, newCells, okCells, storeObj, appendA, guardV, taA, nM, mapUpA, lookA, sliceA, boundsA, opO, okO, copyA, dstOk, nilA, quietOk, nilSliceOp, panA, resA, argFr, retA.eq_1, retA.eq_2, Nat.reduceAdd, Nat.reduceSub, Nat.reduceMul, Nat.reduceLT, Nat.reduceLeDiff, Nat.reduceEqDiff, Nat.reduceBEq, Int.reduceAdd, Int.reduceSub, Int.reduceMul, Int.reduceNeg, Int.reduceLE, Int.reduceLT, Int.reduceEq, Int.reduceNe, Int.reduceToNat, ↓reduceIte, reduceCtorEq, implies_true, forall_const, eq_self, ne_eq, wtAll, Try.ntmps25, Try.results25, hh_i5, hh_i7]) ?_)))
          simp only [eq_self, ev, e]
    · have e : likE x s = 10 := by unfold likE; rw [hv]; exact errE_clash hk hl
      have ev : likV x s = 0 := by simp only [likV, e]; rfl
      simp only [vsAll]
      refine ⟨10, i5, _, rfl, rfl, by simp only [vsAll, ↓reduceIte, eq_self]; try rfl, ?_⟩
      simp only [vsAll, loadA, loadRow, partA, partOk, resA, retA.eq_2, Nat.reduceLT, Nat.reduceEqDiff, ↓reduceIte, eq_self, wtAll, Try.results25]
      refine dropR_pure ?_ (by (repeat (first | exact HSub_rfl | refine HSub_put_eq (by simp only [vsAll, binA, binLitA, intA, aggA, boolA, nilA2, isConst, unA, loadA, loadRow, partA, partOk, fieldAddrA, indexAddrA, indexA, fieldA, extractA, lenA, nilCheckA, boxA, cellA, cellsA, fillA, okParts, buildSliceA, buildMutA, makeSliceA, partIdx, elemsA, lensA, ifaceA, convA, mmA, pickA, okAll, stAll, opsA, partsA, partsOk, opA, allocA, boxMutA, newCells, okCells, storeObj, appendA, guardV, taA, nM, mapUpA, lookA, sliceA, boundsA, opO, okO, copyA, dstOk, nilA, quietOk, nilSliceOp, panA, resA, argFr, retA.eq_1, retA.eq_2, Nat.reduceAdd, Nat.reduceSub, Nat.reduceMul, Nat.reduceLT, Nat.reduceLeDiff, Nat.reduceEqDiff, Nat.reduceBEq, Int.reduceAdd, Int.reduceSub, Int.reduceMul, Int.reduceNeg, Int.reduceLE, Int.reduceLT, Int.reduceEq, Int.reduceNe, Int.reduceToNat, ↓reduceIte, reduceCtorEq, implies_true, forall_const, eq_self, ne_eq, wtAll, Try.ntmps25, Try.results25, hh_i5]) ?_ | refine HSub_drop2 (by simp only [eq_self, hh_i5]) ?_ | refine HSub_keep_eq (by simp only [vsAll, binA, binLitA, intA, aggA, boolA, nilA2, isConst, unA, loadA, loadRow, partA, partOk, fieldAddrA, indexAddrA, indexA, fieldA, extractA, lenA, nilCheckA, boxA, cellA, cellsA, fillA, okParts, buildSliceA, buildMutA, makeSliceA, partIdx, elemsA, lensA, ifaceA, convA, mmA, pickA, okAll, stAll, opsA, partsA, partsOk, opA, allocA, boxMutA, newCells, okCells, storeObj, appendA, guardV, taA, nM, mapUpA, lookA, sliceA, boundsA, opO, okO, copyA, dstOk, nilA, quietOk, nilSliceOp, panA, resA, argFr, retA.eq_1, retA.eq_2, Nat.reduceAdd, Nat.reduceSub, Nat.reduceMul, Nat.reduceLT, Nat.reduceLeDiff, Nat.reduceEqDiff, Nat.reduceBEq, Int.reduceAdd, Int.reduceSub, Int.reduceMul, Int.reduceNeg, Int.reduceLE, Int.reduceLT, Int.reduceEq, Int.reduceNe, Int.reduceToNat, ↓reduceIte, reduceCtorEq, implies_true, forall_const, eq_self, ne_eq, wtAll, Try.ntmps25, Try.results25, hh_i5]) ?_)))
      simp only [eq_self, ev, e, Int.natCast_zero]
end Go.Proofs.Ytkonoggmdcdeeaa
end
section
set_option linter.unusedVariables false
set_option linter.unusedSimpArgs false
namespace Go.V
/-- What one cell holds. -/
inductive CK where
  | int (k : IntKind)
  | bool
  | sl (ks : List CK)

/-- The cells of a type. -/
def cellsT (P : Program) : Nat → TypeId → Option (List CK)
  | 0, _ => none
  | d + 1, t => match P.underlying t with
    | some .bool => some [.bool]
    | some (.int k) => some [.int k]
    | some (.slice e) => match cellsT P d e with
      | some ks => if P.cellsOf e = ks.length ∧ 0 < ks.length then some [.sl ks] else none
      | none => none
    | some (.array n e) => match cellsT P d e with
      | some ks => if P.cellsOf e = ks.length ∧ P.cellsOf t = n * ks.length then some ((List.replicate n ks).flatten) else none
      | none => none
    | some (.struct fs) => match fs.toList.foldl (fun acc f => match acc with
        | some ks => match cellsT P d f.type with
          | some l => if f.offset = ks.length ∧ P.cellsOf f.type = l.length then some (ks ++ l) else none
          | none => none
        | none => none) (some []) with
      | some ks => if P.cellsOf t = ks.length then some ks else none
      | none => none
    | _ => none

/-- Such an abstract value. -/
inductive CKA : CK → AV → Prop
  | int {k : IntKind} {z : Int} (h : (Lit.int k z).wf = true) : CKA (.int k) (.lit (.int k z))
  | bool {b : Bool} : CKA .bool (.lit (.bool b))
  | sl {ks : List CK} {n : Nat} {f : Nat → List AV} (hn : n ≤ maxLen) (hl : ∀ i, i < n → (f i).length = ks.length) (h : ∀ i j k, i < n → ks[j]? = some k → CKA k ((f i).getD j .any)) : CKA (.sl ks) (.rsl n ks.length f)

def CellIs (W : World) (k : CK) (v : Value) : Prop := ∃ av, CKA k av ∧ VRel (st0 W) av v
def CellsOk (W : World) (ks : List CK) (cs : List Value) : Prop := cs.length = ks.length ∧ ∀ (i : Nat) (k : CK) (v : Value), ks[i]? = some k → cs[i]? = some v → CellIs W k v

theorem CellsOk.append {W : World} {ks ls : List CK} {cs ds : List Value} (h : CellsOk W ks cs) (h' : CellsOk W ls ds) : CellsOk W (ks ++ ls) (cs ++ ds) := by
  refine ⟨by simp [h.1, h'.1], fun i k v hk hv => ?_⟩
  by_cases hi : i < ks.length
  · rw [List.getElem?_append_left hi] at hk
    rw [List.getElem?_append_left (by rw [h.1]; exact hi)] at hv
    exact h.2 i k v hk hv
  · rw [List.getElem?_append_right (by omega)] at hk
    rw [List.getElem?_append_right (by rw [h.1]; omega), h.1] at hv
    exact h'.2 _ k v hk hv

theorem trod_cells {H : Type} {enc : TypeId × Value → H} {P : Program} {W : World} {held : Bool} {sp : Nat → Bool} :
    ∀ (d fuel : Nat) (t : TypeId) (cs : List Value) (x : DataW H × List MemPlace) (ks : List CK), cellsT P d t = some ks → DataW.trod enc P W 0 sp held fuel t cs = some x → CellsOk W ks cs := by
  intro d
  induction d with
  | zero => intro fuel t cs x ks hg; cases hg
  | succ d ih =>
    intro fuel t cs x ks hg h
    cases fuel with
    | zero => cases h
    | succ fuel =>
      unfold cellsT at hg
      unfold DataW.trod at h
      cases hu : P.underlying t with
      | none => rw [hu] at hg; cases hg
      | some td =>
        rw [hu] at hg h
        cases td <;> simp only at hg <;> try (cases hg; done)
        case bool =>
          cases hg
          split at h <;> simp_all
          rename_i b
          exact ⟨rfl, fun i k v hk hv => by cases i <;> simp at hk hv; subst hk hv; exact ⟨_, .bool, .lit _⟩⟩
        case int k =>
          cases hg
          split at h <;> simp_all
          rename_i n hh
          exact ⟨rfl, fun i k v hk hv => by cases i <;> simp at hk hv; subst hk hv; exact ⟨_, .int h.1.2, .lit _⟩⟩
        case array n e =>
          cases hke : cellsT P d e with
          | none => rw [hke] at hg; cases hg
          | some lk =>
            rw [hke] at hg
            simp only at hg
            by_cases hc : P.cellsOf e = lk.length ∧ P.cellsOf t = n * lk.length
            case neg => rw [if_neg hc] at hg; cases hg
            rw [if_pos hc] at hg
            cases hg
            split at h <;> try (simp_all; done)
            case _ n' e' heq =>
              simp only [Option.some.injEq, TypeDesc.array.injEq] at heq
              obtain ⟨rfl, rfl⟩ := heq
              split at h
              case isFalse hl => cases h
              case isTrue hl =>
                rw [Option.map_eq_some_iff] at h
                obtain ⟨ys, hy, rfl⟩ := h
                have key : ∀ (c : List Value), (∀ i, i < n → ∃ y, DataW.trod enc P W 0 sp held fuel e ((c.drop (i * P.cellsOf e)).take (P.cellsOf e)) = some y) → ∀ m, m ≤ n → CellsOk W (List.replicate m lk).flatten (c.take (m * lk.length)) := by
                  intro c hcy m
                  induction m with
                  | zero => intro _; exact ⟨by simp, fun i k v hk => by simp at hk⟩
                  | succ m ihm =>
                    intro hm
                    have h0 := ihm (by omega)
                    obtain ⟨y, h2⟩ := hcy m (by omega)
                    have h3 := ih fuel e _ y lk hke h2
                    rw [hc.1] at h3
                    have := h0.append h3
                    rw [List.replicate_succ', List.flatten_append, Nat.succ_mul, List.take_add]
                    simpa using this
                have := key _ (fun i hi => by
                  obtain ⟨y, _, h2⟩ := (mapM_get _ _ hy).2 i i (by simp [hi])
                  exact ⟨y, h2⟩) n (Nat.le_refl _)
                rw [List.take_of_length_le (by rw [hl, hc.2]; exact Nat.le_refl _)] at this
                exact this
        case slice e =>
          cases hke : cellsT P d e with
          | none => rw [hke] at hg; cases hg
          | some lk =>
            rw [hke] at hg
            simp only at hg
            by_cases hc : P.cellsOf e = lk.length ∧ 0 < lk.length
            case neg => rw [if_neg hc] at hg; cases hg
            rw [if_pos hc] at hg
            cases hg
            obtain ⟨hsz, hpos⟩ := hc
            split at h <;> try (simp_all; done)
            · rename_i heq
              refine ⟨rfl, fun i k v hk hv => ?_⟩
              cases i <;> simp at hk hv
              subst hk hv
              exact ⟨.rsl 0 lk.length fun _ => [], .sl (Nat.zero_le _) (fun i hi => by omega) (fun i j k hi => by omega), .rsl0⟩
            · rename_i e' a len cap heq
              simp only [Option.some.injEq, TypeDesc.slice.injEq] at heq
              subst heq
              simp only at h
              split at h
              case isFalse hl => cases h
              case isTrue hl =>
                rw [Option.bind_eq_some_iff] at h
                obtain ⟨es, he, -⟩ := h
                let g : Nat → List Value := fun i => match W.cells? 0 (a.add (i * P.cellsOf e)) (P.cellsOf e) with
                  | some c => c
                  | none => []
                have hel : ∀ i, i < len → W.cells? 0 (a.add (i * P.cellsOf e)) (P.cellsOf e) = some (g i) ∧ CellsOk W lk (g i) := by
                  intro i hi
                  obtain ⟨y, _, hy⟩ := (mapM_get _ _ he).2 i i (by simp [hi])
                  rw [Option.bind_eq_some_iff] at hy
                  obtain ⟨c, h1, h2⟩ := hy
                  have : g i = c := by simp only [g, h1]
                  rw [this]
                  exact ⟨h1, ih fuel e c y lk hke h2⟩
                -- the abstract cells
                have hch : ∀ i j, ∃ av, i < len → j < lk.length → ∃ k v, lk[j]? = some k ∧ (g i)[j]? = some v ∧ CKA k av ∧ VRel (st0 W) av v := by
                  intro i j
                  by_cases hi : i < len
                  · by_cases hj : j < lk.length
                    · obtain ⟨l1, l2⟩ := (hel i hi).2
                      obtain ⟨av, c1, c2⟩ := l2 j lk[j] (g i)[j] (List.getElem?_eq_getElem hj) (List.getElem?_eq_getElem (by omega))
                      exact ⟨av, fun _ _ => ⟨_, _, List.getElem?_eq_getElem hj, List.getElem?_eq_getElem (by omega), c1, c2⟩⟩
                    · exact ⟨.any, fun _ x => absurd x hj⟩
                  · exact ⟨.any, fun x => absurd x hi⟩
                have hf := fun i => Classical.axiomOfChoice (hch i)
                obtain ⟨F, hF⟩ := Classical.axiomOfChoice hf
                have hget : ∀ i j, j < lk.length → ((List.range lk.length).map (F i)).getD j .any = F i j := fun i j hj => by
                  rw [List.getD_eq_getElem?_getD, List.getElem?_map, List.getElem?_range hj]; rfl
                refine ⟨rfl, fun i k v hk hv => ?_⟩
                cases i <;> simp at hk hv
                subst hk hv
                refine ⟨.rsl len lk.length fun i => (List.range lk.length).map (F i), .sl (Nat.le_trans hl.2.1 hl.2.2) (fun i hi => by simp) (fun i j k hi hk => ?_), ?_⟩
                · have hj := (List.getElem?_eq_some_iff.1 hk).1
                  rw [hget i j hj]
                  obtain ⟨k', v, h1, h2, h3, h4⟩ := hF i j hi hj
                  rw [hk] at h1; cases h1
                  exact h3
                by_cases h0 : len = 0
                · subst h0; exact .rsl0
                have hcell : ∀ i j, i < len → j < lk.length → ∃ u, (g i)[j]? = some u ∧ W.cell? ((a.add (i * P.cellsOf e)).add j) = some u := by
                  intro i j hi hj
                  have h1 := (hel i hi).1
                  unfold World.cells? at h1
                  rw [if_pos (Nat.zero_le _)] at h1
                  exact (mapM_get _ _ h1).2 j j (by simp [hsz, hj])
                obtain ⟨b, off, spot⟩ := a
                obtain ⟨u0, _, hc0⟩ := hcell 0 0 (by omega) hpos
                rw [show ((⟨b, off, spot⟩ : Addr).add (0 * P.cellsOf e)).add 0 = ⟨b, off, spot⟩ from by simp [Addr.add]] at hc0
                unfold World.cell? at hc0
                split at hc0
                case h_2 => cases hc0
                case h_1 c ct fz hb =>
                  have hspot : spot = none := by
                    cases spot with
                    | none => rfl
                    | some s => simp at hc0
                  subst hspot
                  have hadd : ∀ i j, (((⟨b, off, none⟩ : Addr).add (i * P.cellsOf e)).add j) = ⟨b, off + i * P.cellsOf e + j, none⟩ := fun i j => by rw [addr_add, addr_add]
                  have hall : ∀ i j, i < len → j < lk.length → ∃ u, (g i)[j]? = some u ∧ c[off + i * lk.length + j]? = some u := by
                    intro i j hi hj
                    obtain ⟨u, h1, h2⟩ := hcell i j hi hj
                    rw [hadd] at h2
                    unfold World.cell? at h2
                    simp only at hb
                    rw [show W.heap[(⟨b, off + i * P.cellsOf e + j, none⟩ : Addr).block]? = some (.cells c ct fz) from hb] at h2
                    simp only [Option.isSome_none, Bool.false_eq_true, if_false, hsz] at h2
                    exact ⟨u, h1, h2⟩
                  refine .rsl (c := c) (e := ct) (fz := fz) ?_ hb ?_ (fun i hi => by simp) fun i j hi hj => ?_
                  · exact (Array.getElem?_eq_some_iff.1 hb).1
                  · obtain ⟨u, _, h2⟩ := hall (len - 1) (lk.length - 1) (by omega) (by omega)
                    have := (Array.getElem?_eq_some_iff.1 h2).1
                    have e1 : len * lk.length = (len - 1) * lk.length + lk.length := by
                      obtain ⟨q, rfl⟩ : ∃ q, len = q + 1 := ⟨len - 1, by omega⟩
                      rw [Nat.add_sub_cancel, Nat.succ_mul]
                    omega
                  · obtain ⟨u, h1, h2⟩ := hall i j hi hj
                    obtain ⟨k', v, q1, q2, q3, q4⟩ := hF i j hi hj
                    rw [h1] at q2; cases q2
                    rw [hget i j hj, Array.getD_eq_getD_getElem?, h2]
                    exact q4
        case struct fs =>
          split at h <;> try (simp_all; done)
          case _ fs' heq =>
            simp only [Option.some.injEq, TypeDesc.struct.injEq] at heq
            subst heq
            split at h
            case isFalse hl => cases h
            case isTrue hl =>
              rw [Option.map_eq_some_iff] at h
              obtain ⟨ys, hy, rfl⟩ := h
              have key : ∀ (c : List Value) (l : List Field) (acc ks : List CK), (∀ f ∈ l, ∃ y, DataW.trod enc P W 0 sp held fuel f.type ((c.drop f.offset).take (P.cellsOf f.type)) = some y) → CellsOk W acc (c.take acc.length) →
                  l.foldl (fun acc f => match acc with
                    | some ks => match cellsT P d f.type with
                      | some l => if f.offset = ks.length ∧ P.cellsOf f.type = l.length then some (ks ++ l) else none
                      | none => none
                    | none => none) (some acc) = some ks → CellsOk W ks (c.take ks.length) := by
                intro c l
                induction l with
                | nil => intro acc ks _ ha he; simp at he; subst he; exact ha
                | cons f l ih2 =>
                  intro acc ks hf ha he
                  simp only [List.foldl_cons] at he
                  have hnone : ∀ l : List Field, l.foldl (fun acc f => match acc with
                    | some ks => match cellsT P d f.type with
                      | some l => if f.offset = ks.length ∧ P.cellsOf f.type = l.length then some (ks ++ l) else none
                      | none => none
                    | none => none) none = (none : Option (List CK)) := by
                    intro l; induction l with
                    | nil => rfl
                    | cons a l ih => simpa using ih
                  cases hl2 : cellsT P d f.type with
                  | none => rw [hl2] at he; simp only at he; rw [hnone] at he; cases he
                  | some lk =>
                    rw [hl2] at he
                    simp only at he
                    by_cases hc : f.offset = acc.length ∧ P.cellsOf f.type = lk.length
                    · rw [if_pos hc] at he
                      obtain ⟨y, hy⟩ := hf f (by simp)
                      have := ih fuel f.type _ y lk hl2 hy
                      rw [hc.1, hc.2] at this
                      have hap := ha.append this
                      refine ih2 (acc ++ lk) ks (fun g hg => hf g (by simp [hg])) ?_ he
                      rw [List.length_append, List.take_add]
                      exact hap
                    · rw [if_neg hc, hnone] at he; cases he
              split at hg
              case h_2 => cases hg
              case h_1 ks' he =>
                split at hg
                case isFalse => cases hg
                case isTrue hc =>
                  cases hg
                  have := key _ fs.toList [] ks (fun f hf => by
                    obtain ⟨i, hi⟩ := List.getElem?_of_mem hf
                    obtain ⟨y, _, h2⟩ := (mapM_get _ _ hy).2 i f hi
                    exact ⟨y, h2⟩) ⟨by simp, fun i k v hk => by simp at hk⟩ he
                  rw [List.take_of_length_le (by rw [hl, hc]; exact Nat.le_refl _)] at this
                  exact this

end Go.V
end
section
set_option linter.unusedVariables false
set_option linter.unusedSimpArgs false
namespace Go.V
open Go.ChangeShapes
theorem AV.Le.rslD {n st : Nat} {f g : Nat → List AV} (h : ∀ i, i < n → (g i).length = st ∧ ∀ j, j < st → AV.Le ((f i).getD j .any) ((g i).getD j .any)) : AV.Le (.rsl n st f) (.rsl n st g) := by
  intro S v hv
  cases hv with
  | rsl0 => exact .rsl0
  | rsl hi hb hsz hf hh => exact .rsl hi hb hsz (fun i hi => (h i hi).1) fun i j hi hj => (h i hi).2 j hj _ _ (hh i j hi hj)
theorem AV.Le.aggD {cs ds : List AV} (hl : ds.length = cs.length) (h : ∀ j, j < cs.length → AV.Le (cs.getD j .any) (ds.getD j .any)) : AV.Le (.agg cs) (.agg ds) := by
  intro S v hv
  cases hv with
  | agg hn hh => exact .agg (hn.trans hl.symm) fun k hk => h k (by omega) _ _ (hh k (by omega))

/-- Cells that are told. -/
def Told (ks : List CK) (cs : List AV) : Prop := cs.length = ks.length ∧ ∀ j k, ks[j]? = some k → CKA k (cs.getD j .any)

/-- A struct that is handed in. -/
theorem trod_agg {H : Type} {enc : TypeId × Value → H} {P : Program} {W : World} {held : Bool} {sp : Nat → Bool} {t dd : Nat} {v : Value} {d : DataW H} {ps : List MemPlace} {ks : List CK}
    (hk : cellsT P dd t = some ks) (hn : 2 ≤ ks.length) (h : DataW.Trod enc P W 0 sp held t v d ps) : ∃ cs : List AV, Told ks cs ∧ VRel (st0 W) (.agg cs) v := by
  obtain ⟨fuel, h⟩ := h
  obtain ⟨hl, hz⟩ := trod_cells dd fuel t _ _ ks hk h
  cases v with
  | agg vs =>
    simp only [Value.cells] at hl hz
    have hl2 : vs.size = ks.length := by simpa using hl
    have hch : ∀ j : Nat, ∃ av : AV, ∀ (k : CK) (u : Value), ks[j]? = some k → vs[j]? = some u → CKA k av ∧ VRel (st0 W) av u := fun j => by
      cases hkj : ks[j]? with
      | none => exact ⟨.any, fun k u h => by cases h⟩
      | some k =>
        cases hvj : vs[j]? with
        | none => exact ⟨.any, fun k u _ h => by cases h⟩
        | some u =>
          obtain ⟨av, h1, h2⟩ := hz j k u hkj (by simpa using hvj)
          exact ⟨av, fun k' u' e1 e2 => by cases e1; cases e2; exact ⟨h1, h2⟩⟩
    obtain ⟨F, hF⟩ := Classical.axiomOfChoice hch
    have hget : ∀ j, j < ks.length → ((List.range ks.length).map F).getD j .any = F j := fun j hj => by
      rw [List.getD_eq_getElem?_getD, List.getElem?_map, List.getElem?_range hj]; rfl
    refine ⟨(List.range ks.length).map F, ⟨by simp, fun j k hk => ?_⟩, .agg (by simpa using hl2) fun j hj => ?_⟩
    · have hj := (List.getElem?_eq_some_iff.1 hk).1
      rw [hget j hj]
      exact (hF j k vs[j] hk (by simp [show j < vs.size by omega])).1
    · have hj : j < ks.length := by simpa using hj
      rw [hget j hj, Array.getD_eq_getD_getElem?, Array.getElem?_eq_getElem (by omega)]
      exact (hF j ks[j] vs[j] (List.getElem?_eq_getElem hj) (by simp [show j < vs.size by omega])).2
  | _ => simp [Value.cells] at hl; omega
/-- A slice of what can be told. -/
theorem told_slice {α : Type} {ks : List CK} (en : α → List AV) (d0 : α) (hd : ∀ cs, Told ks cs → ∃ x : α, (en x).length = ks.length ∧ ∀ j, j < ks.length → AV.Le (cs.getD j .any) ((en x).getD j .any)) {av : AV} (h : CKA (.sl ks) av) :
    ∃ l : List α, l.length ≤ maxLen ∧ AV.Le av (.rsl l.length ks.length fun i => en (l.getD i d0)) := by
  cases h with
  | @sl _ n f hn hl hh =>
    have hch : ∀ i, ∃ x : α, i < n → (en x).length = ks.length ∧ ∀ j, j < ks.length → AV.Le ((f i).getD j .any) ((en x).getD j .any) := fun i => by
      by_cases hi : i < n
      · obtain ⟨x, h1⟩ := hd (f i) ⟨hl i hi, fun j k hk => hh i j k hi hk⟩
        exact ⟨x, fun _ => h1⟩
      · exact ⟨d0, fun x => absurd x hi⟩
    obtain ⟨F, hF⟩ := Classical.axiomOfChoice hch
    refine ⟨(List.range n).map F, by simpa using hn, ?_⟩
    rw [List.length_map, List.length_range]
    refine AV.Le.rslD fun i hi => ?_
    have e : ((List.range n).map F).getD i d0 = F i := by
      rw [List.getD_eq_getElem?_getD, List.getElem?_map, List.getElem?_range hi]; rfl
    rw [e]
    exact hF i hi
theorem told_int {cs : List AV} {k : IntKind} (j : Nat) {ks : List CK} (h : Told ks cs) (hk : ks[j]? = some (.int k)) : ∃ z : Int, cs.getD j .any = .lit (.int k z) ∧ (Lit.int k z).wf = true := by
  have := h.2 j _ hk
  generalize cs.getD j .any = x at *
  cases this with
  | int hw => exact ⟨_, rfl, hw⟩
theorem told_bool {cs : List AV} (j : Nat) {ks : List CK} (h : Told ks cs) (hk : ks[j]? = some .bool) : ∃ b : Bool, cs.getD j .any = .lit (.bool b) := by
  have := h.2 j _ hk
  generalize cs.getD j .any = x at *
  cases this with
  | bool => exact ⟨_, rfl⟩

end Go.V
end
section
set_option linter.unusedVariables false
set_option linter.unusedSimpArgs false
set_option maxHeartbeats 4000000
set_option maxRecDepth 100000
namespace Go.Proofs.Ytkonoggmdcdeeaa
open Go.V
def farO (x : Ir) : Nat → Int
  | 0 => max (max (max (x.ow.length : Int) x.mo.length) x.st.length) x.cl.length
  | i + 1 => max (farO x i) (x.ow.getD i []).length
def farS (x : Ir) : Nat → Int
  | 0 => farO x x.ow.length
  | i + 1 => max (farS x i) (x.st.getD i []).length
def farB (x : Ir) : Bool := decide (40 < farS x x.st.length)
theorem far_tri (x : Ir) (H : Hp) (hO : x.ow.length < 2 ^ 63) (hS : x.st.length < 2 ^ 63) : PTri Try.prog (fnA 35) [x.av] H (boo (farB x)) := by
  refine tri_v0 (fun _ => false) Try.func35 (by kernel_rfl) rfl (by simp only [List.length_append, List.length_cons, List.length_nil, Try.ntmps35]; decide) ?_
  simp only [vsAll, loadA, loadRow, partA, partOk, fieldAddrA, lenA, boxA, mmA, okAll, stAll, opsA, opA, dstOk, nilSliceOp, argFr, Nat.reduceAdd, Nat.reduceLT, Nat.reduceEqDiff, ↓reduceIte, eq_self, wtAll, Try.ntmps35]
  refine vs_loop (σ := Nat) (fun i => i ≤ x.ow.length) (fun i => [(1, .rptr 1 5 (fun _ => x.cs) 0 0), (3, i64 (farO x i)), (22, llAV x.ow), (23, i64 x.ow.length), (24, i64 i)]) (fun _ => H) (fun i => x.ow.length - i) 0 (by omega) ?_ (HSub.refl _) fun i hi => ?_
  · simp only [vsAll, Nat.reduceEqDiff, ↓reduceIte, eq_self, Int.natCast_zero, farO]
  · simp only [vsAll, binA, binLitA, intA, opA, dstOk, Nat.reduceLT, Nat.reduceEqDiff, ↓reduceIte, eq_self]
    refine condD (fun hd => ?_) (fun hd => ?_)
    · simp only [vsAll, binA, binLitA, intA, loadA, loadRow, partA, partOk, indexAddrA, lenA, mmA, okAll, stAll, opsA, opA, dstOk, nilSliceOp, Nat.reduceLT, Nat.reduceEqDiff, ↓reduceIte, eq_self, wtAll, llF_at]
      refine ⟨by omega, by omega, by simp only [InR_i64]; omega, loop_next (i + 1) (by omega) (by omega) ?_ (HSub.refl _)⟩
      simp only [vsAll, Nat.reduceEqDiff, ↓reduceIte, eq_self, Int.natCast_add, Int.natCast_one, farO]
    · have ei : i = x.ow.length := by omega
      subst ei
      simp only [vsAll, loadA, loadRow, partA, partOk, fieldAddrA, lenA, opA, dstOk, Nat.reduceLT, Nat.reduceEqDiff, ↓reduceIte, eq_self, wtAll]
      refine vs_loop (σ := Nat) (fun i => i ≤ x.st.length) (fun i => [(3, i64 (farS x i)), (34, stAV x.st), (35, i64 x.st.length), (36, i64 i)]) (fun _ => H) (fun i => x.st.length - i) 0 (by omega) ?_ (HSub.refl _) fun i hi => ?_
      · simp only [vsAll, Nat.reduceEqDiff, ↓reduceIte, eq_self, Int.natCast_zero, farS]
      · simp only [vsAll, binA, binLitA, intA, opA, dstOk, Nat.reduceLT, Nat.reduceEqDiff, ↓reduceIte, eq_self]
        refine condD (fun hd => ?_) (fun hd => ?_)
        · simp only [vsAll, binA, binLitA, intA, loadA, loadRow, partA, partOk, indexAddrA, lenA, mmA, okAll, stAll, opsA, opA, dstOk, nilSliceOp, Nat.reduceLT, Nat.reduceEqDiff, ↓reduceIte, eq_self, wtAll, stF_at]
          refine ⟨by omega, by omega, by simp only [InR_i64]; omega, loop_next (i + 1) (by omega) (by omega) ?_ (HSub.refl _)⟩
          simp only [vsAll, Nat.reduceEqDiff, ↓reduceIte, eq_self, Int.natCast_add, Int.natCast_one, farS]
        · have ei : i = x.st.length := by omega
          subst ei
          simp only [vsAll, binA, binLitA, intA, opA, dstOk, nilSliceOp, resA, retA.eq_1, Nat.reduceLT, Nat.reduceEqDiff, ↓reduceIte, eq_self, Try.results35]
          rfl
theorem farO_le (x : Ir) (i : Nat) : (x.ow.length : Int) ≤ farO x i ∧ (x.mo.length : Int) ≤ farO x i ∧ (x.st.length : Int) ≤ farO x i ∧ (x.cl.length : Int) ≤ farO x i ∧ ∀ j, j < i → ((x.ow.getD j []).length : Int) ≤ farO x i := by
  induction i with
  | zero => exact ⟨by simp only [farO]; omega, by simp only [farO]; omega, by simp only [farO]; omega, by simp only [farO]; omega, fun j hj => absurd hj (by omega)⟩
  | succ i ih =>
    obtain ⟨h1, h2, h3, h4, h5⟩ := ih
    simp only [farO]
    refine ⟨by omega, by omega, by omega, by omega, fun j hj => ?_⟩
    by_cases e : j = i
    · subst e; omega
    · have := h5 j (by omega); omega
theorem farS_le (x : Ir) (i : Nat) : farO x x.ow.length ≤ farS x i ∧ ∀ j, j < i → ((x.st.getD j []).length : Int) ≤ farS x i := by
  induction i with
  | zero => exact ⟨Int.le_refl _, fun j hj => absurd hj (by omega)⟩
  | succ i ih =>
    obtain ⟨h1, h2⟩ := ih
    simp only [farS]
    refine ⟨by omega, fun j hj => ?_⟩
    by_cases e : j = i
    · subst e; omega
    · have := h2 j (by omega); omega
theorem far_near {x : Ir} (h : farB x = false) : Near x := by
  have h0 := of_decide_eq_false h
  obtain ⟨h1, h2⟩ := farS_le x x.st.length
  obtain ⟨q1, q2, q3, q4, q5⟩ := farO_le x x.ow.length
  exact ⟨by omega, by omega, by omega, by omega, fun i hi => by have := q5 i hi; omega, fun i hi => by have := h2 i hi; omega⟩

def hvB (x : Ir) (most : Nat) : Bool := if (farB x || !decide (Ok x)) = true then farB x else decide (most < (max 1 x.ow.length) ^ x.st.length)
theorem mark_tri (a b c : Int) (H : Hp) : PTri Try.prog (fnA 40) [i64 a, i64 b, i64 c] H (.agg [i64 a, i64 b, i64 c]) := by
  refine tri_vs (m := fun _ => false) Try.func40 (by kernel_rfl) rfl (by simp only [List.length_append, List.length_cons, List.length_nil, Try.ntmps40]; decide) ?_
  simp only [vsAll, cellA, cellsA, fillA, okParts, partsA, partsOk, opA, allocA, newCells, okCells, storeObj, dstOk, argFr, Nat.reduceAdd, Nat.reduceLT, Nat.reduceLeDiff, Nat.reduceEqDiff, ↓reduceIte, reduceCtorEq, eq_self, wtAll, Try.ntmps40]
  intro i4 hh_i4; (try simp only [Hp.set_none, ite_none] at hh_i4)
  refine ret0 ?_
  simp only [vsAll, loadA, loadRow, partA, partOk, resA, retA.eq_1, Nat.reduceLT, Nat.reduceEqDiff, ↓reduceIte, eq_self, wtAll, Try.results40]
  exact dropR_pure rfl (by (repeat (first | exact HSub_rfl | refine HSub_put_eq (by simp only [vsAll, binA, binLitA, intA, aggA, boolA, nilA2, isConst, unA, loadA, loadRow, partA, partOk, fieldAddrA, indexAddrA, indexA, fieldA, extractA, lenA, nilCheckA, boxA, cellA, cellsA, fillA, okParts, buildSliceA, buildMutA, makeSliceA, partIdx, elemsA, lensA, ifaceA, convA, mmA, pickA, okAll, stAll, opsA, partsA, partsOk, opA, allocA, boxMutA, newCells, okCells, storeObj, appendA, guardV, taA, nM, mapUpA, lookA, sliceA, boundsA, opO, okO, copyA, dstOk, nilA, quietOk, nilSliceOp, panA, resA, argFr, retA.eq_1, retA.eq_2, Nat.reduceAdd, Nat.reduceSub, Nat.reduceMul, Nat.reduceLT, Nat.reduceLeDiff, Nat.reduceEqDiff, Nat.reduceBEq, Int.reduceAdd, Int.reduceSub, Int.reduceMul, Int.reduceNeg, Int.reduceLE, Int.reduceLT, Int.reduceEq, Int.reduceNe, Int.reduceToNat, ↓reduceIte, reduceCtorEq, implies_true, forall_const, eq_self, ne_eq, wtAll, Try.ntmps40, Try.results40, hh_i4]) ?_ | refine HSub_drop2 (by simp only [eq_self, hh_i4]) ?_ | refine HSub_keep_eq (by simp only [vsAll, binA, binLitA, intA, aggA, boolA, nilA2, isConst, unA, loadA, loadRow, partA, partOk, fieldAddrA, indexAddrA, indexA, fieldA, extractA, lenA, nilCheckA, boxA, cellA, cellsA, fillA, okParts, buildSliceA, buildMutA, makeSliceA, partIdx, elemsA, lensA, ifaceA, convA, mmA, pickA, okAll, stAll, opsA, partsA, partsOk, opA, allocA, boxMutA, newCells, okCells, storeObj, appendA, guardV, taA, nM, mapUpA, lookA, sliceA, boundsA, opO, okO, copyA, dstOk, nilA, quietOk, nilSliceOp, panA, resA, argFr, retA.eq_1, retA.eq_2, Nat.reduceAdd, Nat.reduceSub, Nat.reduceMul, Nat.reduceLT, Nat.reduceLeDiff, Nat.reduceEqDiff, Nat.reduceBEq, Int.reduceAdd, Int.reduceSub, Int.reduceMul, Int.reduceNeg, Int.reduceLE, Int.reduceLT, Int.reduceEq, Int.reduceNe, Int.reduceToNat, ↓reduceIte, reduceCtorEq, implies_true, forall_const, eq_self, ne_eq, wtAll, Try.ntmps40, Try.results40, hh_i4]) ?_)))
theorem lhis_tri (a b : Int) (H : Hp) : PTri Try.prog (fnA 73) [i64 a, i64 b] H (.agg [i64 a, i64 b, boo false]) := by
  refine tri_vs (m := fun _ => false) Try.func73 (by kernel_rfl) rfl (by simp only [List.length_append, List.length_cons, List.length_nil, Try.ntmps73]; decide) ?_
  simp only [vsAll, cellA, cellsA, fillA, okParts, partsA, partsOk, opA, allocA, newCells, okCells, storeObj, dstOk, argFr, Nat.reduceAdd, Nat.reduceLT, Nat.reduceLeDiff, Nat.reduceEqDiff, ↓reduceIte, reduceCtorEq, eq_self, wtAll, Try.ntmps73]
  intro i4 hh_i4; (try simp only [Hp.set_none, ite_none] at hh_i4)
  refine ret0 ?_
  simp only [vsAll, loadA, loadRow, partA, partOk, resA, retA.eq_1, Nat.reduceLT, Nat.reduceEqDiff, ↓reduceIte, eq_self, wtAll, Try.results73]
  exact dropR_pure rfl (by (repeat (first | exact HSub_rfl | refine HSub_put_eq (by simp only [vsAll, binA, binLitA, intA, aggA, boolA, nilA2, isConst, unA, loadA, loadRow, partA, partOk, fieldAddrA, indexAddrA, indexA, fieldA, extractA, lenA, nilCheckA, boxA, cellA, cellsA, fillA, okParts, buildSliceA, buildMutA, makeSliceA, partIdx, elemsA, lensA, ifaceA, convA, mmA, pickA, okAll, stAll, opsA, partsA, partsOk, opA, allocA, boxMutA, newCells, okCells, storeObj, appendA, guardV, taA, nM, mapUpA, lookA, sliceA, boundsA, opO, okO, copyA, dstOk, nilA, quietOk, nilSliceOp, panA, resA, argFr, retA.eq_1, retA.eq_2, Nat.reduceAdd, Nat.reduceSub, Nat.reduceMul, Nat.reduceLT, Nat.reduceLeDiff, Nat.reduceEqDiff, Nat.reduceBEq, Int.reduceAdd, Int.reduceSub, Int.reduceMul, Int.reduceNeg, Int.reduceLE, Int.reduceLT, Int.reduceEq, Int.reduceNe, Int.reduceToNat, ↓reduceIte, reduceCtorEq, implies_true, forall_const, eq_self, ne_eq, wtAll, Try.ntmps73, Try.results73, hh_i4]) ?_ | refine HSub_drop2 (by simp only [eq_self, hh_i4]) ?_ | refine HSub_keep_eq (by simp only [vsAll, binA, binLitA, intA, aggA, boolA, nilA2, isConst, unA, loadA, loadRow, partA, partOk, fieldAddrA, indexAddrA, indexA, fieldA, extractA, lenA, nilCheckA, boxA, cellA, cellsA, fillA, okParts, buildSliceA, buildMutA, makeSliceA, partIdx, elemsA, lensA, ifaceA, convA, mmA, pickA, okAll, stAll, opsA, partsA, partsOk, opA, allocA, boxMutA, newCells, okCells, storeObj, appendA, guardV, taA, nM, mapUpA, lookA, sliceA, boundsA, opO, okO, copyA, dstOk, nilA, quietOk, nilSliceOp, panA, resA, argFr, retA.eq_1, retA.eq_2, Nat.reduceAdd, Nat.reduceSub, Nat.reduceMul, Nat.reduceLT, Nat.reduceLeDiff, Nat.reduceEqDiff, Nat.reduceBEq, Int.reduceAdd, Int.reduceSub, Int.reduceMul, Int.reduceNeg, Int.reduceLE, Int.reduceLT, Int.reduceEq, Int.reduceNe, Int.reduceToNat, ↓reduceIte, reduceCtorEq, implies_true, forall_const, eq_self, ne_eq, wtAll, Try.ntmps73, Try.results73, hh_i4]) ?_)))
theorem lother_tri (a b : Int) (H : Hp) : PTri Try.prog (fnA 74) [i64 a, i64 b] H (.agg [i64 a, i64 b, boo true]) := by
  refine tri_vs (m := fun _ => false) Try.func74 (by kernel_rfl) rfl (by simp only [List.length_append, List.length_cons, List.length_nil, Try.ntmps74]; decide) ?_
  simp only [vsAll, cellA, cellsA, fillA, okParts, partsA, partsOk, opA, allocA, newCells, okCells, storeObj, dstOk, argFr, Nat.reduceAdd, Nat.reduceLT, Nat.reduceLeDiff, Nat.reduceEqDiff, ↓reduceIte, reduceCtorEq, eq_self, wtAll, Try.ntmps74]
  intro i4 hh_i4; (try simp only [Hp.set_none, ite_none] at hh_i4)
  refine ret0 ?_
  simp only [vsAll, loadA, loadRow, partA, partOk, resA, retA.eq_1, Nat.reduceLT, Nat.reduceEqDiff, ↓reduceIte, eq_self, wtAll, Try.results74]
  exact dropR_pure rfl (by (repeat (first | exact HSub_rfl | refine HSub_put_eq (by simp only [vsAll, binA, binLitA, intA, aggA, boolA, nilA2, isConst, unA, loadA, loadRow, partA, partOk, fieldAddrA, indexAddrA, indexA, fieldA, extractA, lenA, nilCheckA, boxA, cellA, cellsA, fillA, okParts, buildSliceA, buildMutA, makeSliceA, partIdx, elemsA, lensA, ifaceA, convA, mmA, pickA, okAll, stAll, opsA, partsA, partsOk, opA, allocA, boxMutA, newCells, okCells, storeObj, appendA, guardV, taA, nM, mapUpA, lookA, sliceA, boundsA, opO, okO, copyA, dstOk, nilA, quietOk, nilSliceOp, panA, resA, argFr, retA.eq_1, retA.eq_2, Nat.reduceAdd, Nat.reduceSub, Nat.reduceMul, Nat.reduceLT, Nat.reduceLeDiff, Nat.reduceEqDiff, Nat.reduceBEq, Int.reduceAdd, Int.reduceSub, Int.reduceMul, Int.reduceNeg, Int.reduceLE, Int.reduceLT, Int.reduceEq, Int.reduceNe, Int.reduceToNat, ↓reduceIte, reduceCtorEq, implies_true, forall_const, eq_self, ne_eq, wtAll, Try.ntmps74, Try.results74, hh_i4]) ?_ | refine HSub_drop2 (by simp only [eq_self, hh_i4]) ?_ | refine HSub_keep_eq (by simp only [vsAll, binA, binLitA, intA, aggA, boolA, nilA2, isConst, unA, loadA, loadRow, partA, partOk, fieldAddrA, indexAddrA, indexA, fieldA, extractA, lenA, nilCheckA, boxA, cellA, cellsA, fillA, okParts, buildSliceA, buildMutA, makeSliceA, partIdx, elemsA, lensA, ifaceA, convA, mmA, pickA, okAll, stAll, opsA, partsA, partsOk, opA, allocA, boxMutA, newCells, okCells, storeObj, appendA, guardV, taA, nM, mapUpA, lookA, sliceA, boundsA, opO, okO, copyA, dstOk, nilA, quietOk, nilSliceOp, panA, resA, argFr, retA.eq_1, retA.eq_2, Nat.reduceAdd, Nat.reduceSub, Nat.reduceMul, Nat.reduceLT, Nat.reduceLeDiff, Nat.reduceEqDiff, Nat.reduceBEq, Int.reduceAdd, Int.reduceSub, Int.reduceMul, Int.reduceNeg, Int.reduceLE, Int.reduceLT, Int.reduceEq, Int.reduceNe, Int.reduceToNat, ↓reduceIte, reduceCtorEq, implies_true, forall_const, eq_self, ne_eq, wtAll, Try.ntmps74, Try.results74, hh_i4]) ?_)))
def smI (m : Int) : Ir := ⟨2, [[3, 5], [3, 7], [6, 5]], [m, 2, m], [[⟨0, 3, 3⟩], [⟨1, 5, 6⟩], []], [⟨0, 0, false⟩, ⟨1, 2, true⟩, ⟨1, 2, false⟩]⟩
theorem ret_le {P : Program} {fv : AV} {args : List AV} {H : Hp} {v v' : AV} (h : PTri P fv args H v) (hle : AV.Le v v') : PTri P fv args H v' := by
  intro S vf vs hH hvf ha
  obtain ⟨nx, h1, h2⟩ := h S vf vs hH hvf ha
  have ho : ∀ e w, Out S (fun r H' => r = .ret v ∧ H' = H) e w → Out S (fun r H' => r = .ret v' ∧ H' = H) e w := by
    rintro e w ⟨S', r, H', hw, hl, hH', hrr, rfl, rfl⟩
    refine ⟨S', .ret v', H', hw, hl, hH', ?_, rfl, rfl⟩
    cases e with
    | returned cv => exact hle S' cv hrr
    | panicked ch => exact hrr.elim
    | outgrown => exact hrr.elim
  refine ⟨nx, h1, ?_⟩
  cases nx <;> simp only [NextOk] at h2 ⊢
  · exact Calls.mono h2 ho
  · exact h2.mono ho
theorem sample_tri (m : Int) (H : Hp) : PTri Try.prog (fnA 42) [i64 m] H (smI m).av := by
  refine ret_le (v := .agg [i64 2, .rsl 3 1 (fun i => [[.rsl 2 1 (fun i => [[i64 3], [i64 5]].getD i [])], [.rsl 2 1 (fun i => [[i64 3], [i64 7]].getD i [])], [.rsl 2 1 (fun i => [[i64 6], [i64 5]].getD i [])]].getD i []),
    .rsl 3 1 (fun i => [[i64 m], [i64 2], [i64 m]].getD i []),
    .rsl 3 1 (fun i => [[.rsl 1 3 (fun i => [[i64 0, i64 3, i64 3]].getD i [])], [.rsl 1 3 (fun i => [[i64 1, i64 5, i64 6]].getD i [])], [.lit (.slice none 0 0)]].getD i []),
    .rsl 3 3 (fun i => [[i64 0, i64 0, boo false], [i64 1, i64 2, boo true], [i64 1, i64 2, boo false]].getD i [])]) ?_ ?_
  · refine tri_vs (m := fun _ => false) Try.func42 (by kernel_rfl) rfl (by simp only [List.length_append, List.length_cons, List.length_nil, Try.ntmps42]; decide) ?_
    simp only [vsAll, cellA, cellsA, okParts, buildSliceA, partIdx, elemsA, lensA, okAll, stAll, opsA, partsA, partsOk, opA, allocA, dstOk, argFr, Nat.reduceAdd, Nat.reduceMul, Nat.reduceLT, Nat.reduceLeDiff, Nat.reduceEqDiff, ↓reduceIte, reduceCtorEq, eq_self, wtAll, Try.ntmps42]
    intro i2 hh_i2; (try simp only [Hp.set_none, ite_none] at hh_i2)
    refine callK_pure (mark_tri 0 3 3 _) ?_
    simp only [vsAll, cellsA, okParts, buildSliceA, partIdx, elemsA, lensA, okAll, stAll, opsA, partsA, partsOk, opA, dstOk, Nat.reduceAdd, Nat.reduceMul, Nat.reduceLT, Nat.reduceLeDiff, ↓reduceIte, eq_self, wtAll]
    refine callK_pure (mark_tri 1 5 6 _) ?_
    simp only [vsAll, cellA, cellsA, okParts, buildSliceA, partIdx, elemsA, lensA, okAll, stAll, opsA, partsA, partsOk, opA, dstOk, Nat.reduceAdd, Nat.reduceMul, Nat.reduceLT, Nat.reduceLeDiff, Nat.reduceEqDiff, ↓reduceIte, eq_self, wtAll]
    refine callK_pure (lhis_tri 0 0 _) ?_
    simp only [vsAll, okAll, stAll, opsA, opA, dstOk, Nat.reduceLT]
    refine callK_pure (lother_tri 1 2 _) ?_
    simp only [vsAll, okAll, stAll, opsA, opA, dstOk, Nat.reduceLT]
    refine callK_pure (lhis_tri 1 2 _) ?_
    simp only [vsAll, cellA, cellsA, fillA, okParts, buildSliceA, partIdx, elemsA, lensA, partsA, partsOk, opA, newCells, okCells, storeObj, dstOk, Nat.reduceAdd, Nat.reduceMul, Nat.reduceLT, Nat.reduceLeDiff, Nat.reduceEqDiff, ↓reduceIte, eq_self, wtAll]
    refine ret0 ?_
    simp only [vsAll, loadA, loadRow, partA, partOk, resA, retA.eq_1, Nat.reduceLT, Nat.reduceEqDiff, ↓reduceIte, eq_self, wtAll, Try.results42]
    exact dropR_pure rfl (by (repeat (first | exact HSub_rfl | refine HSub_put_eq (by simp only [vsAll, binA, binLitA, intA, aggA, boolA, nilA2, isConst, unA, loadA, loadRow, partA, partOk, fieldAddrA, indexAddrA, indexA, fieldA, extractA, lenA, nilCheckA, boxA, cellA, cellsA, fillA, okParts, buildSliceA, buildMutA, makeSliceA, partIdx, elemsA, lensA, ifaceA, convA, mmA, pickA, okAll, stAll, opsA, partsA, partsOk, opA, allocA, boxMutA, newCells, okCells, storeObj, appendA, guardV, taA, nM, mapUpA, lookA, sliceA, boundsA, opO, okO, copyA, dstOk, nilA, quietOk, nilSliceOp, panA, resA, argFr, retA.eq_1, retA.eq_2, Nat.reduceAdd, Nat.reduceSub, Nat.reduceMul, Nat.reduceLT, Nat.reduceLeDiff, Nat.reduceEqDiff, Nat.reduceBEq, Int.reduceAdd, Int.reduceSub, Int.reduceMul, Int.reduceNeg, Int.reduceLE, Int.reduceLT, Int.reduceEq, Int.reduceNe, Int.reduceToNat, ↓reduceIte, reduceCtorEq, implies_true, forall_const, eq_self, ne_eq, wtAll, Try.ntmps42, Try.results42, hh_i2]) ?_ | refine HSub_drop2 (by simp only [eq_self, hh_i2]) ?_ | refine HSub_keep_eq (by simp only [vsAll, binA, binLitA, intA, aggA, boolA, nilA2, isConst, unA, loadA, loadRow, partA, partOk, fieldAddrA, indexAddrA, indexA, fieldA, extractA, lenA, nilCheckA, boxA, cellA, cellsA, fillA, okParts, buildSliceA, buildMutA, makeSliceA, partIdx, elemsA, lensA, ifaceA, convA, mmA, pickA, okAll, stAll, opsA, partsA, partsOk, opA, allocA, boxMutA, newCells, okCells, storeObj, appendA, guardV, taA, nM, mapUpA, lookA, sliceA, boundsA, opO, okO, copyA, dstOk, nilA, quietOk, nilSliceOp, panA, resA, argFr, retA.eq_1, retA.eq_2, Nat.reduceAdd, Nat.reduceSub, Nat.reduceMul, Nat.reduceLT, Nat.reduceLeDiff, Nat.reduceEqDiff, Nat.reduceBEq, Int.reduceAdd, Int.reduceSub, Int.reduceMul, Int.reduceNeg, Int.reduceLE, Int.reduceLT, Int.reduceEq, Int.reduceNe, Int.reduceToNat, ↓reduceIte, reduceCtorEq, implies_true, forall_const, eq_self, ne_eq, wtAll, Try.ntmps42, Try.results42, hh_i2]) ?_)))
  · have two : ∀ a b : Int, AV.Le (.rsl 2 1 (fun i => [[i64 a], [i64 b]].getD i [])) (intsAV [a, b]) := fun a b => AV.Le.rsl fun i hi => by
      match i, hi with
      | 0, _ => rfl
      | 1, _ => rfl
    have one : ∀ a b c : Int, AV.Le (.rsl 1 3 (fun i => [[i64 a, i64 b, i64 c]].getD i [])) (mksAV [⟨a, b, c⟩]) := fun a b c => AV.Le.rsl fun i hi => by
      match i, hi with
      | 0, _ => rfl
    refine AV.Le.aggD rfl fun j hj => ?_
    match j, hj with
    | 0, _ => exact AV.Le.refl _
    | 1, _ =>
      refine AV.Le.rslA (fun i hi => ?_) fun i hi j hj => ?_
      · match i, hi with
        | 0, _ => rfl
        | 1, _ => rfl
        | 2, _ => rfl
      · match i, hi, j, hj with
        | 0, _, 0, _ => exact two 3 5
        | 1, _, 0, _ => exact two 3 7
        | 2, _, 0, _ => exact two 6 5
    | 2, _ =>
      refine AV.Le.rsl fun i hi => ?_
      match i, hi with
      | 0, _ => rfl
      | 1, _ => rfl
      | 2, _ => rfl
    | 3, _ =>
      refine AV.Le.rslA (fun i hi => ?_) fun i hi j hj => ?_
      · match i, hi with
        | 0, _ => rfl
        | 1, _ => rfl
        | 2, _ => rfl
      · match i, hi, j, hj with
        | 0, _, 0, _ => exact one 0 3 3
        | 1, _, 0, _ => exact one 1 5 6
        | 2, _, 0, _ => exact AV.Le.nil 3 _
    | 4, _ =>
      refine AV.Le.rsl fun i hi => ?_
      match i, hi with
      | 0, _ => rfl
      | 1, _ => rfl
      | 2, _ => rfl
end Go.Proofs.Ytkonoggmdcdeeaa
end
section
set_option linter.unusedVariables false
set_option linter.unusedSimpArgs false
set_option maxHeartbeats 4000000
set_option maxRecDepth 100000
namespace Go.Proofs.Ytkonoggmdcdeeaa
open Go.V
theorem sm_ok : Ok (smI 1) ∧ Ok (smI 0) := by decide +kernel
theorem sm1 : ((fitsV (smI 1) 1 : Nat) : Int) = 5 := by decide +kernel
theorem sm2 : fitsE (smI 1) 1 = 0 := by decide +kernel
theorem sm3 : ((countV (smI 1) : Nat) : Int) = 5 := by decide +kernel
theorem sm4 : countE (smI 1) = 0 := by decide +kernel
theorem sm5 : ((canV (smI 1) 2 : Nat) : Int) = 7 := by decide +kernel
theorem sm6 : canE (smI 1) 2 = 0 := by decide +kernel
theorem sm7 : claimV (smI 1) 1 = 1 := by decide +kernel
theorem sm8 : claimE (smI 1) 1 = 0 := by decide +kernel
theorem sm9 : (((falseP (smI 1)).1 : Nat) : Int) = 1 := by decide +kernel
theorem sm10 : (((falseP (smI 1)).2 : Nat) : Int) = 2 := by decide +kernel
theorem sm11 : falseE (smI 1) = 0 := by decide +kernel
theorem sm12 : ((likV (smI 1) 2 : Nat) : Int) = 2 := by decide +kernel
theorem sm13 : likE (smI 1) 2 = 0 := by decide +kernel
theorem sm14 : ((setV (errE (smI 1) true true) (clashR (smI 1)) : Nat) : Int) = 3 := by decide +kernel
theorem sm15 : setE (errE (smI 1) true true) (clashR (smI 1)) = 0 := by decide +kernel
theorem sm16 : ((setV (errE (smI 0) true false) (shortR (smI 0)) : Nat) : Int) = 2 := by decide +kernel
theorem sm17 : setE (errE (smI 0) true false) (shortR (smI 0)) = 0 := by decide +kernel
theorem awake_tri (H : Hp) : PTri Try.prog (fnA 14) [] H (boo true) := by
  have k1 := sm_ok.1.near
  have k0 := sm_ok.2.near
  refine Tri.drop ?_
  refine tri_v0 (fun _ => false) Try.func14 (by kernel_rfl) rfl (by simp only [List.length_append, List.length_nil, Try.ntmps14]; decide) ?_
  simp only [vsAll, okAll, stAll, opsA, opA, dstOk, nilSliceOp, Nat.reduceLT, eq_self, Try.ntmps14]
  refine callK_pure (sample_tri 1 _) ?_
  simp only [vsAll, loadA, loadRow, partA, partOk, cellA, cellsA, okAll, stAll, opsA, opA, allocA, newCells, okCells, storeObj, dstOk, Nat.reduceAdd, Nat.reduceLT, Nat.reduceEqDiff, ↓reduceIte, eq_self, wtAll]
  intro i1 hh_i1; (try simp only [Hp.set_none, ite_none] at hh_i1)
  refine callK_pure (wfits_tri (smI 1) 1 _ k1) ?_
  simp only [vsAll, loadA, loadRow, partA, partOk, extractA, okAll, stAll, opsA, opA, dstOk, nilSliceOp, Nat.reduceAdd, Nat.reduceLT, Nat.reduceEqDiff, ↓reduceIte, eq_self, wtAll, sm1, sm2]
  refine callK_pure (wcount_tri (smI 1) _ k1) ?_
  simp only [vsAll, loadA, loadRow, partA, partOk, extractA, okAll, stAll, opsA, opA, dstOk, nilSliceOp, Nat.reduceAdd, Nat.reduceLT, Nat.reduceEqDiff, ↓reduceIte, eq_self, wtAll, sm3, sm4]
  refine callK_pure (wcan_tri (smI 1) 2 _ k1) ?_
  simp only [vsAll, loadA, loadRow, partA, partOk, extractA, okAll, stAll, opsA, opA, dstOk, nilSliceOp, Nat.reduceAdd, Nat.reduceLT, Nat.reduceEqDiff, ↓reduceIte, eq_self, wtAll, sm5, sm6]
  refine callK_pure (wclaim_tri (smI 1) 1 _ k1) ?_
  simp only [vsAll, loadA, loadRow, partA, partOk, extractA, okAll, stAll, opsA, opA, dstOk, nilSliceOp, Nat.reduceAdd, Nat.reduceLT, Nat.reduceEqDiff, ↓reduceIte, eq_self, wtAll, sm7, sm8]
  refine callK_pure (wfalse_tri (smI 1) _ k1) ?_
  simp only [vsAll, loadA, loadRow, partA, partOk, extractA, okAll, stAll, opsA, opA, dstOk, nilSliceOp, Nat.reduceAdd, Nat.reduceLT, Nat.reduceEqDiff, ↓reduceIte, eq_self, wtAll, sm9, sm10, sm11]
  refine callK_pure (wlikely_tri (smI 1) 2 _ k1) ?_
  simp only [vsAll, loadA, loadRow, partA, partOk, extractA, okAll, stAll, opsA, opA, dstOk, nilSliceOp, Nat.reduceAdd, Nat.reduceLT, Nat.reduceEqDiff, ↓reduceIte, eq_self, wtAll, sm12, sm13]
  refine callK_pure (wclash_tri (smI 1) _ k1) ?_
  simp only [vsAll, extractA, okAll, stAll, opsA, opA, dstOk, nilSliceOp, Nat.reduceAdd, Nat.reduceLT, Nat.reduceEqDiff, ↓reduceIte, eq_self, sm14, sm15]
  refine callK_pure (sample_tri 0 _) ?_
  simp only [vsAll, okAll, stAll, opsA, opA, dstOk, Nat.reduceLT, ↓reduceIte, eq_self]
  refine callK_pure (wshort_tri (smI 0) _ k0) ?_
  simp only [vsAll, binA, binLitA, intA, extractA, pickA, opA, guardV, dstOk, nilSliceOp, resA, retA.eq_1, Nat.reduceAdd, Nat.reduceLT, Nat.reduceEqDiff, ↓reduceIte, implies_true, eq_self, Try.results14, sm16, sm17]
  exact dropR_pure rfl (by (repeat (first | exact HSub_rfl | refine HSub_put_eq (by simp only [vsAll, binA, binLitA, intA, aggA, boolA, nilA2, isConst, unA, loadA, loadRow, partA, partOk, fieldAddrA, indexAddrA, indexA, fieldA, extractA, lenA, nilCheckA, boxA, cellA, cellsA, fillA, okParts, buildSliceA, buildMutA, makeSliceA, partIdx, elemsA, lensA, ifaceA, convA, mmA, pickA, okAll, stAll, opsA, partsA, partsOk, opA, allocA, boxMutA, newCells, okCells, storeObj, appendA, guardV, taA, nM, mapUpA, lookA, sliceA, boundsA, opO, okO, copyA, dstOk, nilA, quietOk, nilSliceOp, panA, resA, argFr, retA.eq_1, retA.eq_2, Nat.reduceAdd, Nat.reduceSub, Nat.reduceMul, Nat.reduceLT, Nat.reduceLeDiff, Nat.reduceEqDiff, Nat.reduceBEq, Int.reduceAdd, Int.reduceSub, Int.reduceMul, Int.reduceNeg, Int.reduceLE, Int.reduceLT, Int.reduceEq, Int.reduceNe, Int.reduceToNat, ↓reduceIte, reduceCtorEq, implies_true, forall_const, eq_self, ne_eq, wtAll, Try.ntmps14, Try.results14, hh_i1]) ?_ | refine HSub_drop2 (by simp only [eq_self, hh_i1]) ?_ | refine HSub_keep_eq (by simp only [vsAll, binA, binLitA, intA, aggA, boolA, nilA2, isConst, unA, loadA, loadRow, partA, partOk, fieldAddrA, indexAddrA, indexA, fieldA, extractA, lenA, nilCheckA, boxA, cellA, cellsA, fillA, okParts, buildSliceA, buildMutA, makeSliceA, partIdx, elemsA, lensA, ifaceA, convA, mmA, pickA, okAll, stAll, opsA, partsA, partsOk, opA, allocA, boxMutA, newCells, okCells, storeObj, appendA, guardV, taA, nM, mapUpA, lookA, sliceA, boundsA, opO, okO, copyA, dstOk, nilA, quietOk, nilSliceOp, panA, resA, argFr, retA.eq_1, retA.eq_2, Nat.reduceAdd, Nat.reduceSub, Nat.reduceMul, Nat.reduceLT, Nat.reduceLeDiff, Nat.reduceEqDiff, Nat.reduceBEq, Int.reduceAdd, Int.reduceSub, Int.reduceMul, Int.reduceNeg, Int.reduceLE, Int.reduceLT, Int.reduceEq, Int.reduceNe, Int.reduceToNat, ↓reduceIte, reduceCtorEq, implies_true, forall_const, eq_self, ne_eq, wtAll, Try.ntmps14, Try.results14, hh_i1]) ?_)))
end Go.Proofs.Ytkonoggmdcdeeaa
end
section
set_option linter.unusedVariables false
set_option linter.unusedSimpArgs false
set_option maxHeartbeats 4000000
set_option maxRecDepth 100000
namespace Go.Proofs.Ytkonoggmdcdeeaa
open Go.V
/-- How many claims are false in a truth. -/
def popW (x : Ir) (t : List Int) : Nat := pop (wrongT x t)
def clrB (x : Ir) (o : List (List Int)) (t : List Int) : Bool := decide (0 < o.length) && decide (popW x t < popW x (o.getD 0 []))
def addB (x : Ir) (o : List (List Int)) (t : List Int) : Bool := decide (o.length = 0) || decide (popW x t = popW x (o.getD 0 []))
def bst1 (x : Ir) (o : List (List Int)) (t : List Int) : List (List Int) := if addB x o t = true then o ++ [t] else o
def bstN (x : Ir) : Nat → List (List Int)
  | 0 => []
  | i + 1 => bst1 x (if clrB x (bstN x i) ((truA x).getD i []) = true then [] else bstN x i) ((truA x).getD i [])
def bestL (x : Ir) : List (List Int) := bstN x (truA x).length
theorem bstN_mem {x : Ir} {i : Nat} (hi : i ≤ (truA x).length) : (bstN x i).length ≤ i ∧ ∀ t ∈ bstN x i, t ∈ truA x := by
  induction i with
  | zero => exact ⟨Nat.le_refl _, fun t h => by simp [bstN] at h⟩
  | succ i ih =>
    obtain ⟨h1, h2⟩ := ih (by omega)
    have hm : (truA x).getD i [] ∈ truA x := mem_getD _ i [] (by omega)
    have key : ∀ o : List (List Int), o.length ≤ i → (∀ t ∈ o, t ∈ truA x) → (bst1 x o ((truA x).getD i [])).length ≤ i + 1 ∧ ∀ t ∈ bst1 x o ((truA x).getD i []), t ∈ truA x := by
      intro o ho1 ho2
      unfold bst1
      split
      · refine ⟨by rw [List.length_append]; simp only [List.length_cons, List.length_nil]; omega, fun t ht => ?_⟩
        rcases List.mem_append.1 ht with ht | ht
        · exact ho2 t ht
        · rw [List.mem_singleton] at ht; subst ht; exact hm
      · exact ⟨by omega, ho2⟩
    simp only [bstN]
    split
    · exact key [] (by simp) (fun t h => by simp at h)
    · exact key _ h1 h2
end Go.Proofs.Ytkonoggmdcdeeaa
end
section
set_option linter.unusedVariables false
set_option linter.unusedSimpArgs false
set_option maxHeartbeats 4000000
set_option maxRecDepth 100000
namespace Go.Proofs.Ytkonoggmdcdeeaa
open Go.V
theorem bst1_pos (x : Ir) (o : List (List Int)) (t : List Int) : 0 < (bst1 x o t).length := by
  unfold bst1
  split
  · rw [List.length_append]; simp
  · rename_i h
    apply Nat.lt_of_not_le
    intro h0
    apply h
    simp only [addB, show o.length = 0 by omega, decide_true, Bool.true_or]
/-- The least set of false claims of the first ones. -/
def mnN (x : Ir) (L : List (List Int)) : Nat → Nat
  | 0 => wrongT x (L.getD 0 [])
  | i + 1 => min (mnN x L i) (wrongT x (L.getD i []))
def rfalP (x : Ir) : Nat × Nat := if falseE x = 0 then (pop (mnN x (bestL x) (bestL x).length), mnN x (bestL x) (bestL x).length) else (0, 0)
def rlikV (x : Ir) (s : Int) : Nat := if likE x s = 0 then who (bestL x) s.toNat else 0
end Go.Proofs.Ytkonoggmdcdeeaa
end
section
set_option linter.unusedVariables false
set_option linter.unusedSimpArgs false
namespace Go.Proofs.Ytkonoggmdcdeeaa
open Go.V
def moreK (x : Ir) (C k : Nat) (s : Nat) (o : Int) (r : Nat × Nat) : Nat × Nat := (r.1 + (wrO x C s o k).1, r.2 + (wrO x C s o k).2)
/-- A claim is false, and of one of these strakes. -/
def flB (x : Ir) (C k s : Nat) (t : List Int) : Bool := decide (s ≤ (x.cl.getD k cl0).s.toNat ∧ (x.cl.getD k cl0).s.toNat < s + t.length) && C.testBit k && !rightO (x.cl.getD k cl0) (t.getD ((x.cl.getD k cl0).s.toNat - s) 0)
theorem valK_succ (x : Ir) (C k : Nat) (hc : 0 ≤ (x.cl.getD k cl0).s) (t : List Int) : ∀ s, valT (0, 0) (moreK x C (k + 1)) s t = if flB x C k s t = true then ((valT (0, 0) (moreK x C k) s t).1 + 1, (valT (0, 0) (moreK x C k) s t).2 + 2 ^ k) else valT (0, 0) (moreK x C k) s t := by
  induction t with
  | nil =>
    intro s
    have : flB x C k s [] = false := by simp only [flB, List.length_nil, Nat.add_zero]; rw [decide_eq_false (by omega)]; rfl
    rw [this]; rfl
  | cons o t ih =>
    intro s
    simp only [valT, ih (s + 1)]
    have hwr : wrO x C s o (k + 1) = if wrB x C s o k = true then ((wrO x C s o k).1 + 1, (wrO x C s o k).2 + 2 ^ k) else wrO x C s o k := rfl
    by_cases e : (x.cl.getD k cl0).s.toNat = s
    · have h1 : flB x C k (s + 1) t = false := by
        simp only [flB]; rw [decide_eq_false (by omega)]; rfl
      have h2 : flB x C k s (o :: t) = wrB x C s o k := by
        simp only [flB, wrB, List.length_cons]
        rw [decide_eq_true (by omega), e, Nat.sub_self, List.getD_cons_zero, decide_eq_true (by omega : (x.cl.getD k cl0).s = (s : Int))]
      rw [h1, h2, if_neg (by decide)]
      simp only [moreK, hwr]
      split <;> simp only [Nat.add_assoc]
    · have h1 : flB x C k s (o :: t) = flB x C k (s + 1) t := by
        simp only [flB, List.length_cons]
        by_cases q : s + 1 ≤ (x.cl.getD k cl0).s.toNat
        · obtain ⟨d, hd⟩ : ∃ d, (x.cl.getD k cl0).s.toNat - s = d + 1 := ⟨(x.cl.getD k cl0).s.toNat - s - 1, by omega⟩
          rw [hd, List.getD_cons_succ, show (x.cl.getD k cl0).s.toNat - (s + 1) = d by omega]
          rw [show decide (s ≤ (x.cl.getD k cl0).s.toNat ∧ (x.cl.getD k cl0).s.toNat < s + (t.length + 1)) = decide (s + 1 ≤ (x.cl.getD k cl0).s.toNat ∧ (x.cl.getD k cl0).s.toNat < s + 1 + t.length) from decide_eq_decide.2 (by omega)]
        · rw [decide_eq_false (by omega), decide_eq_false (by omega)]; rfl
      have h2 : wrB x C s o k = false := by
        simp only [wrB]; rw [decide_eq_false (by omega)]; rfl
      rw [h1]
      simp only [moreK, hwr, h2, Bool.false_eq_true, if_false]
      split <;> simp only [Nat.add_right_comm]
theorem pop_add : ∀ k, k < 8 → ∀ a, a < 256 → a < 2 ^ k → pop (a + 2 ^ k) = pop a + 1 := by decide +kernel
theorem valK_wrong {x : Ir} (k : Ok x) {t : List Int} (ht : t.length = x.st.length) : ∀ n, n ≤ x.cl.length → valT (0, 0) (moreK x (fullC x) n) 0 t = (pop (wrongN x t n), wrongN x t n) := by
  intro n
  induction n with
  | zero =>
    intro _
    have : ∀ (t : List Int) s, valT (0, 0) (moreK x (fullC x) 0) s t = (0, 0) := by
      intro t
      induction t with
      | nil => intro s; rfl
      | cons o t ih => intro s; simp only [valT, ih]; rfl
    have p0 : pop 0 = 0 := popN_zero 64
    rw [this]
    simp only [wrongN, p0]
  | succ n ih =>
    intro hn
    have hc := k.cs n (by omega)
    have nC := k.nC
    have hw := wrongN_lt x t n
    have hp : 2 ^ n ≤ 2 ^ 7 := Nat.pow_le_pow_right (by decide) (by omega)
    rw [valK_succ x (fullC x) n hc.1, ih (by omega)]
    have hf : flB x (fullC x) n 0 t = !rightT x t n := by
      simp only [flB, rightT, Nat.sub_zero]
      rw [decide_eq_true (by omega), full_bit _ _ (by omega)]
      rfl
    rw [hf]
    simp only [wrongN]
    cases rightT x t n with
    | true => simp
    | false =>
      simp only [Bool.not_false, if_true, Bool.false_eq_true, if_false]
      rw [pop_add n (by omega) _ (by omega) hw]
theorem val_wrong {x : Ir} (k : Ok x) {t : List Int} (ht : t.length = x.st.length) : valT (0, 0) (moreL x (fullC x)) 0 t = (popW x t, wrongT x t) := valK_wrong k ht _ (Nat.le_refl _)

theorem foldJ_min (l : List (Nat × Nat)) : ∀ m, foldJ joinL l = some m → m ∈ l ∧ ∀ y ∈ l, lessB y m = false := by
  induction l with
  | nil => intro m h; cases h
  | cons a l ih =>
    intro m h
    simp only [foldJ] at h
    have irr : lessB a a = false := by rw [← Bool.not_eq_true, lessB_iff]; omega
    cases hl : foldJ joinL l with
    | none =>
      rw [hl] at h
      simp only [comb, Option.some.injEq] at h
      subst h
      have := (foldJ_none l).1 hl
      subst this
      exact ⟨by simp, fun y hy => by simp at hy; subst hy; exact irr⟩
    | some b =>
      rw [hl] at h
      simp only [comb, Option.some.injEq] at h
      obtain ⟨h1, h2⟩ := ih b hl
      unfold joinL at h
      by_cases q : lessB b a = true
      · rw [if_pos q] at h
        subst h
        refine ⟨by simp [h1], fun y hy => ?_⟩
        rcases List.mem_cons.1 hy with rfl | hy
        · rw [← Bool.not_eq_true, lessB_iff]
          have := (lessB_iff _ _).1 q
          omega
        · exact h2 y hy
      · rw [if_neg q] at h
        subst h
        refine ⟨by simp, fun y hy => ?_⟩
        rcases List.mem_cons.1 hy with rfl | hy
        · exact irr
        · have h3 := h2 y hy
          rw [← Bool.not_eq_true, lessB_iff] at h3 ⊢
          have q2 : ¬ (b.1 < a.1 ∨ b.1 = a.1 ∧ b.2 < a.2) := fun p => q ((lessB_iff _ _).2 p)
          omega
end Go.Proofs.Ytkonoggmdcdeeaa
end
section
set_option linter.unusedVariables false
set_option linter.unusedSimpArgs false
namespace Go.Proofs.Ytkonoggmdcdeeaa
open Go.V
theorem bst1_mem {x : Ir} {o : List (List Int)} {t y : List Int} : y ∈ bst1 x o t ↔ y ∈ o ∨ (addB x o t = true ∧ y = t) := by
  unfold bst1
  split
  · rename_i h; simp [h]
  · rename_i h; simp [h]
theorem bstN_spec (x : Ir) : ∀ i, i ≤ (truA x).length → (0 < i → 0 < (bstN x i).length) ∧ (∀ t ∈ bstN x i, ∀ t' ∈ (truA x).take i, popW x t ≤ popW x t') ∧ ∀ t ∈ (truA x).take i, (∀ t' ∈ (truA x).take i, popW x t ≤ popW x t') → t ∈ bstN x i := by
  intro i
  induction i with
  | zero => intro _; exact ⟨fun h => absurd h (by omega), fun t h => by simp [bstN] at h, fun t h => by simp at h⟩
  | succ i ih =>
    intro hi
    obtain ⟨h0, h1, h2⟩ := ih (by omega)
    have hm := (bstN_mem (x := x) (i := i) (by omega)).2
    have ht : (truA x).take (i + 1) = (truA x).take i ++ [(truA x).getD i []] := take_snoc _ i [] (by omega)
    have eb : bstN x (i + 1) = bst1 x (if clrB x (bstN x i) ((truA x).getD i []) = true then [] else bstN x i) ((truA x).getD i []) := rfl
    rw [ht]
    generalize (truA x).getD i [] = w at *
    generalize (truA x).take i = L at *
    refine ⟨fun _ => by rw [eb]; exact bst1_pos _ _ _, ?_⟩
    by_cases hz : i = 0
    · subst hz
      have hL : ∀ y, y ∈ bstN x 0 ↔ False := fun y => by simp [bstN]
      have hl0 : L = [] := by
        cases L with
        | nil => rfl
        | cons a L =>
          exfalso
          have := congrArg List.length ht
          simp at this
          omega
      subst hl0
      have e2 : bstN x 1 = [w] := by
        rw [eb]
        have : (if clrB x (bstN x 0) w = true then ([] : List (List Int)) else bstN x 0) = [] := by split <;> rfl
        rw [this]; rfl
      rw [e2]
      refine ⟨fun t h t' h' => ?_, fun t h _ => h⟩
      simp at h h'
      subst h h'
      exact Nat.le_refl _
    · have hpos := h0 (by omega)
      have hd : (bstN x i).getD 0 [] ∈ bstN x i := mem_getD _ 0 [] hpos
      have hmin := h1 _ hd
      have hall : ∀ y ∈ bstN x i, popW x y = popW x ((bstN x i).getD 0 []) ∨ True := fun _ _ => .inr trivial
      by_cases hc : clrB x (bstN x i) w = true
      · rw [if_pos hc] at eb
        simp only [clrB, Bool.and_eq_true, decide_eq_true_eq] at hc
        have e2 : bstN x (i + 1) = [w] := by rw [eb]; rfl
        rw [e2]
        refine ⟨fun t h t' h' => ?_, fun t h hle => ?_⟩
        · rw [List.mem_singleton] at h; subst h
          rcases List.mem_append.1 h' with h' | h'
          · have := hmin t' h'; omega
          · rw [List.mem_singleton] at h'; subst h'; exact Nat.le_refl _
        · rcases List.mem_append.1 h with h | h
          · have q1 := hmin t h
            have q2 := hle w (by simp)
            omega
          · exact h
      · rw [if_neg hc] at eb
        simp only [clrB, Bool.and_eq_true, decide_eq_true_eq] at hc
        have hge : popW x ((bstN x i).getD 0 []) ≤ popW x w := by
          apply Nat.le_of_not_lt
          intro q
          exact hc ⟨hpos, q⟩
        have hadd : addB x (bstN x i) w = true ↔ popW x w = popW x ((bstN x i).getD 0 []) := by
          simp only [addB, Bool.or_eq_true, decide_eq_true_eq]
          constructor
          · rintro (q | q)
            · omega
            · exact q
          · exact .inr
        rw [eb]
        refine ⟨fun t h t' h' => ?_, fun t h hle => ?_⟩
        · have hb : popW x t ≤ popW x ((bstN x i).getD 0 []) ∧ ∀ q ∈ L, popW x t ≤ popW x q := by
            rcases bst1_mem.1 h with h | ⟨q, rfl⟩
            · refine ⟨?_, h1 t h⟩
              by_cases e : (bstN x i).getD 0 [] ∈ L
              · exact h1 t h _ e
              · exfalso
                -- every likely one is among the first
                have : ∀ j, j ≤ (truA x).length → ∀ y ∈ bstN x j, y ∈ (truA x).take j := by
                  intro j
                  induction j with
                  | zero => intro _ y hy; simp [bstN] at hy
                  | succ j ihj =>
                    intro hj y hy
                    rw [take_snoc _ j [] (by omega)]
                    simp only [bstN] at hy
                    rcases bst1_mem.1 hy with hy | ⟨_, rfl⟩
                    · split at hy
                      · simp at hy
                      · exact List.mem_append_left _ (ihj (by omega) y hy)
                    · simp
                have hL : L = (truA x).take i := by
                  have h3 := congrArg (fun l => l.take i) ht
                  simp only [List.take_take, Nat.min_eq_left (Nat.le_succ i)] at h3
                  have hlen : L.length = i := by
                    have := congrArg List.length ht
                    simp at this
                    omega
                  rw [h3, List.take_append_of_le_length (by omega), List.take_of_length_le (by omega)]
                exact e (hL ▸ this i (by omega) _ hd)
            · exact ⟨Nat.le_of_eq (hadd.1 q), fun y hy => by rw [hadd.1 q]; exact hmin y hy⟩
          rcases List.mem_append.1 h' with h' | h'
          · exact hb.2 t' h'
          · rw [List.mem_singleton] at h'; subst h'; omega
        · rcases List.mem_append.1 h with h | h
          · exact bst1_mem.2 (.inl (h2 t h fun t' h' => hle t' (List.mem_append_left _ h')))
          · rw [List.mem_singleton] at h
            subst h
            have hmem : (bstN x i).getD 0 [] ∈ L ++ [t] := by
              have := hm _ hd
              by_cases e : (bstN x i).getD 0 [] ∈ L
              · exact List.mem_append_left _ e
              · exfalso
                have key : ∀ j, j ≤ (truA x).length → ∀ y ∈ bstN x j, y ∈ (truA x).take j := by
                  intro j
                  induction j with
                  | zero => intro _ y hy; simp [bstN] at hy
                  | succ j ihj =>
                    intro hj y hy
                    rw [take_snoc _ j [] (by omega)]
                    simp only [bstN] at hy
                    rcases bst1_mem.1 hy with hy | ⟨_, rfl⟩
                    · split at hy
                      · simp at hy
                      · exact List.mem_append_left _ (ihj (by omega) y hy)
                    · simp
                have hL : L = (truA x).take i := by
                  have h3 := congrArg (fun l => l.take i) ht
                  simp only [List.take_take, Nat.min_eq_left (Nat.le_succ i)] at h3
                  have hlen : L.length = i := by
                    have := congrArg List.length ht
                    simp at this
                    omega
                  rw [h3, List.take_append_of_le_length (by omega), List.take_of_length_le (by omega)]
                exact e (hL ▸ key i (by omega) _ hd)
            exact bst1_mem.2 (.inr ⟨hadd.2 (Nat.le_antisymm (hle _ hmem) hge), rfl⟩)
theorem bestL_iff {x : Ir} {t : List Int} : t ∈ bestL x ↔ t ∈ truA x ∧ ∀ t' ∈ truA x, popW x t ≤ popW x t' := by
  have h := bstN_spec x (truA x).length (Nat.le_refl _)
  rw [List.take_length] at h
  exact ⟨fun h' => ⟨(bstN_mem (x := x) (Nat.le_refl _)).2 t h', h.2.1 t h'⟩, fun h' => h.2.2 t h'.1 h'.2⟩
end Go.Proofs.Ytkonoggmdcdeeaa
end
section
set_option linter.unusedVariables false
set_option linter.unusedSimpArgs false
namespace Go.Proofs.Ytkonoggmdcdeeaa
open Go.V
theorem tlW_truth {x : Ir} (k : Ok x) : tlW x (fullS x) (fullC x) false = foldJ joinL ((truA x).map fun t => (popW x t, wrongT x t)) := by
  have h : truA x = cont x (fullS x) (fullC x) false x.st.length 0 u0 := truS_cont x (fullS x) (fullC x) k.gd
  have e : (truA x).map (valT (0, 0) (moreL x (fullC x)) 0) = (truA x).map fun t => (popW x t, wrongT x t) := List.map_congr_left fun t ht => val_wrong k (truA_mem ht).1
  rw [tlW_eq, ← h, e]
theorem fitB_with {x : Ir} (k : Ok x) {s o o' s' : Nat} (ho : o' < x.ow.length) (hs : s' < x.st.length) : fitB (withI x s o) o' s' = (fitB x o' s' && (decide (s' ≠ s) || decide (o' = o))) := by
  have hfl := k.ow o' ho
  unfold fitB
  rw [withI_ow ho, withI_st hs]
  have hold : (x.st.getD s' []).all (fitM (owW x o o')) = (x.st.getD s' []).all (fitM (x.ow.getD o' [])) := by
    rw [Bool.eq_iff_iff, List.all_eq_true, List.all_eq_true]
    have hm : ∀ m ∈ x.st.getD s' [], fitM (owW x o o') m = fitM (x.ow.getD o' []) m := fun m hm => by
      obtain ⟨i, hi, rfl⟩ := List.getElem_of_mem hm
      have hsf := k.sf s' hs i hi
      have e1 : (x.st.getD s' []).getD i mk0 = (x.st.getD s' [])[i] := by rw [List.getD_eq_getElem?_getD, List.getElem?_eq_getElem hi]; rfl
      rw [e1] at hsf
      unfold fitM
      rw [owW, getD_snoc, if_neg (by omega)]
    exact ⟨fun h m hm' => by rw [← hm m hm']; exact h m hm', fun h m hm' => by rw [hm m hm']; exact h m hm'⟩
  unfold stW
  by_cases e : s' = s
  · rw [if_pos e, List.all_append, hold]
    congr 1
    rw [show decide (s' ≠ s) = false from decide_eq_false (by simp [e]), Bool.false_or]
    simp only [List.all_cons, List.all_nil, Bool.and_true, fitM]
    have eg : (owW x o o').getD x.F.toNat 0 = if o' = o then 1 else 0 := by
      rw [owW, getD_snoc, if_pos (by omega)]
    rw [eg]
    by_cases e2 : o' = o
    · rw [if_pos e2, decide_eq_true e2]; rfl
    · rw [if_neg e2, decide_eq_false e2]; rfl
  · rw [if_neg e, hold, show decide (s' ≠ s) = true from decide_eq_true e, Bool.true_or, Bool.and_true]
theorem filter_flat {α β : Type} (p : β → Bool) (f : α → List β) (l : List α) : (l.flatMap f).filter p = l.flatMap fun a => (f a).filter p := by
  induction l with
  | nil => rfl
  | cons a l ih => simp only [List.flatMap_cons, List.filter_append, ih]
theorem flat_congr {α β : Type} {f g : α → List β} : ∀ {l : List α}, (∀ a ∈ l, f a = g a) → l.flatMap f = l.flatMap g
  | [], _ => rfl
  | a :: l, h => by
    simp only [List.flatMap_cons, h a (by simp), flat_congr (l := l) fun b hb => h b (by simp [hb])]
theorem tru_with {x : Ir} (k : Ok x) {s o : Nat} (hs : s < x.st.length) (ho : o < x.ow.length) (S : Nat) (hS : ∀ j, j < x.st.length → S.testBit j = true) :
    ∀ n b, b.length + n = x.st.length → tru (withI x s o) S n b = (tru x S n b).filter fun t => decide (s < b.length) || decide (t.getD s 0 = (o : Int)) := by
  have lo : (withI x s o).ow.length = x.ow.length := by simp [withI]
  intro n
  induction n with
  | zero =>
    intro b hb
    simp only [tru]
    rw [List.filter_cons_of_pos (by rw [decide_eq_true (by omega)]; rfl)]
    rfl
  | succ n ih =>
    intro b hb
    have hbit := hS b.length (by omega)
    simp only [tru, hbit, if_true, lo]
    rw [filter_flat]
    refine flat_congr fun o' ho' => ?_
    rw [List.mem_range] at ho'
    have hcan : canO (withI x s o) b o' = (canO x b o' && (decide (b.length ≠ s) || decide (o' = o))) := by
      simp only [canO, fitB_with k ho' (show b.length < x.st.length by omega)]
      rw [show (withI x s o).mo = x.mo from rfl, Bool.and_assoc, Bool.and_assoc, Bool.and_comm (decide _ || decide _)]
    rw [hcan]
    have hlen : (b ++ [(o' : Int)]).length = b.length + 1 := by simp
    by_cases hc : canO x b o' = true
    · rw [hc, Bool.true_and, if_pos rfl]
      have hm : ∀ t ∈ tru x S n (b ++ [(o' : Int)]), t.getD b.length 0 = (o' : Int) := fun t ht => by
        rw [(tru_mem ht).2.1 b.length (by omega), getD_snoc, if_pos rfl]
      by_cases e : b.length = s
      · have e1 : decide (b.length ≠ s) = false := decide_eq_false (by simp [e])
        rw [e1, Bool.false_or]
        by_cases e2 : o' = o
        · rw [if_pos (by rw [decide_eq_true e2]), ih _ (by omega)]
          subst e2
          rw [List.filter_eq_self.2 fun t ht => by rw [decide_eq_true (by omega)]; rfl]
          rw [List.filter_eq_self.2 fun t ht => by rw [← e, decide_eq_true (hm t ht)]; simp]
        · rw [if_neg (by rw [decide_eq_false e2]; decide)]
          rw [List.filter_eq_nil_iff.2]
          intro t ht
          have := hm t ht
          rw [e] at this
          rw [decide_eq_false (by omega), decide_eq_false (by omega)]
          decide
      · rw [if_pos (by rw [decide_eq_true e]; rfl), ih _ (by omega)]
        congr 1
        funext t
        rw [hlen]
        by_cases q : s < b.length
        · rw [decide_eq_true q, decide_eq_true (by omega : s < b.length + 1)]
        · rw [decide_eq_false q, decide_eq_false (by omega : ¬ s < b.length + 1)]
    · rw [Bool.not_eq_true] at hc
      rw [hc, Bool.false_and]
      rfl
theorem truA_with {x : Ir} (k : Ok x) {s o : Nat} (hs : s < x.st.length) (ho : o < x.ow.length) : truS (withI x s o) (fullS x) = (truA x).filter fun t => decide (t.getD s 0 = (o : Int)) := by
  have ls : (withI x s o).st.length = x.st.length := by simp [withI]
  have h := tru_with k hs ho (fullS x) (fun j hj => full_bit _ _ hj) x.st.length [] (by simp)
  rw [truS, ls, h]
  congr 1
end Go.Proofs.Ytkonoggmdcdeeaa
end
section
set_option linter.unusedVariables false
set_option linter.unusedSimpArgs false
namespace Go.Proofs.Ytkonoggmdcdeeaa
open Go.V
theorem tru_fit {x : Ir} {S : Nat} : ∀ {n : Nat} {b t : List Int}, t ∈ tru x S n b → ∀ j, b.length ≤ j → j < b.length + n → S.testBit j = true → fitB x (t.getD j 0).toNat j = true := by
  intro n
  induction n with
  | zero => intro b t _ j h1 h2; omega
  | succ n ih =>
    intro b t h j h1 h2 hj
    cases hb : S.testBit b.length with
    | true =>
      rw [tru_yes hb, truP_mem] at h
      obtain ⟨o, ho, hc, h⟩ := h
      by_cases e : j = b.length
      · subst e
        have := (tru_mem h).2.1 b.length (by simp)
        rw [this, getD_snoc, if_pos rfl, Int.toNat_natCast]
        simp only [canO, Bool.and_eq_true] at hc
        exact hc.1
      · exact ih h j (by simp; omega) (by simp; omega) hj
    | false =>
      rw [tru_no hb] at h
      by_cases e : j = b.length
      · subst e; rw [hb] at hj; cases hj
      · exact ih h j (by simp; omega) (by simp; omega) hj
theorem likN_bit (x : Ir) (s n o : Nat) : (likN x s n).testBit o = (decide (o < n) && likB x s o) := by
  induction n with
  | zero => simp [likN]
  | succ n ih =>
    have hlt := likN_lt x s n
    simp only [likN]
    by_cases h : likB x s n = true
    · rw [if_pos h, ← or_bit _ _ hlt, Nat.testBit_or, ih, Nat.testBit_two_pow]
      by_cases e : n = o
      · subst e; simp [h]
      · rw [decide_eq_false e, Bool.or_false]
        congr 1
        exact decide_eq_decide.2 (by omega)
    · rw [if_neg h, Nat.add_zero, ih]
      by_cases e : n = o
      · subst e
        rw [Bool.not_eq_true] at h
        simp [h]
      · congr 1
        exact decide_eq_decide.2 (by omega)
theorem wrO_with (x : Ir) (s o C s' : Nat) (o' : Int) (n : Nat) : wrO (withI x s o) C s' o' n = wrO x C s' o' n := by
  induction n with
  | zero => rfl
  | succ n ih =>
    simp only [wrO, ih]
    rfl
theorem tlW_with {x : Ir} (k : Ok x) {s o : Nat} (hs : s < x.st.length) (ho : o < x.ow.length) : tlW (withI x s o) (fullS x) (fullC x) false = foldJ joinL (((truA x).filter fun t => decide (t.getD s 0 = (o : Int))).map fun t => (popW x t, wrongT x t)) := by
  have h : truS (withI x s o) (fullS x) = cont (withI x s o) (fullS x) (fullC x) false (withI x s o).st.length 0 u0 := truS_cont (withI x s o) (fullS x) (fullC x) (withI_gd k s o)
  have em : moreL (withI x s o) (fullC x) = moreL x (fullC x) := by
    funext s' o' r
    simp only [moreL]
    rw [show (withI x s o).cl = x.cl from rfl, wrO_with]
  rw [tlW_eq, ← h, em, truA_with k hs ho]
  have e : ((truA x).filter fun t => decide (t.getD s 0 = (o : Int))).map (valT (0, 0) (moreL x (fullC x)) 0) = ((truA x).filter fun t => decide (t.getD s 0 = (o : Int))).map fun t => (popW x t, wrongT x t) :=
    List.map_congr_left fun t ht => val_wrong k (truA_mem (List.mem_filter.1 ht).1).1
  rw [e]
theorem foldJ_some {l : List (Nat × Nat)} (h : l ≠ []) : ∃ m, foldJ joinL l = some m := by
  cases hf : foldJ joinL l with
  | none => exact absurd ((foldJ_none l).1 hf) h
  | some m => exact ⟨m, rfl⟩
theorem likB_iff {x : Ir} (k : Ok x) {s o : Nat} (hs : s < x.st.length) (ho : o < x.ow.length) : likB x s o = true ↔ ∃ t ∈ bestL x, t.getD s 0 = (o : Int) := by
  have hp : ∀ t ∈ truA x, ∃ m, foldJ joinL ((truA x).map fun t => (popW x t, wrongT x t)) = some m ∧ (∃ t0 ∈ truA x, popW x t0 = m.1) ∧ ∀ t ∈ truA x, m.1 ≤ popW x t := fun t ht => by
    obtain ⟨m, hm⟩ := foldJ_some (l := (truA x).map fun t => (popW x t, wrongT x t)) (by intro q; rw [List.map_eq_nil_iff] at q; rw [q] at ht; simp at ht)
    obtain ⟨h1, h2⟩ := foldJ_min _ m hm
    obtain ⟨t0, ht0, rfl⟩ := List.mem_map.1 h1
    refine ⟨_, hm, ⟨t0, ht0, rfl⟩, fun t ht => ?_⟩
    have := h2 _ (List.mem_map.2 ⟨t, ht, rfl⟩)
    rw [← Bool.not_eq_true, lessB_iff] at this
    simp only [] at this ⊢
    omega
  unfold likB
  rw [tlW_with k hs ho, tlW_truth k]
  simp only [Bool.and_eq_true, decide_eq_true_eq]
  constructor
  · rintro ⟨hf, hso, he⟩
    cases hw : foldJ joinL (((truA x).filter fun t => decide (t.getD s 0 = (o : Int))).map fun t => (popW x t, wrongT x t)) with
    | none => rw [hw] at hso; cases hso
    | some m =>
      obtain ⟨h1, h2⟩ := foldJ_min _ m hw
      obtain ⟨t1, ht1, rfl⟩ := List.mem_map.1 h1
      obtain ⟨ht1, hq⟩ := List.mem_filter.1 ht1
      obtain ⟨m0, e0, _, hle⟩ := hp t1 ht1
      rw [hw, e0] at he
      simp only [Option.getD_some] at he
      exact ⟨t1, bestL_iff.2 ⟨ht1, fun t' h' => by rw [he]; exact hle t' h'⟩, of_decide_eq_true hq⟩
  · rintro ⟨t, ht, hq⟩
    obtain ⟨ht1, hle⟩ := bestL_iff.1 ht
    have hfit : fitB x o s = true := by
      have := tru_fit ht1 s (Nat.zero_le _) (by simp; exact hs) (full_bit _ _ hs)
      rwa [hq, Int.toNat_natCast] at this
    have hmem : t ∈ (truA x).filter fun t => decide (t.getD s 0 = (o : Int)) := List.mem_filter.2 ⟨ht1, decide_eq_true hq⟩
    obtain ⟨m, hm⟩ := foldJ_some (l := ((truA x).filter fun t => decide (t.getD s 0 = (o : Int))).map fun t => (popW x t, wrongT x t)) (by intro q; rw [List.map_eq_nil_iff] at q; rw [q] at hmem; simp at hmem)
    obtain ⟨m0, e0, ⟨t0, ht0, e1⟩, hle0⟩ := hp t ht1
    obtain ⟨h1, h2⟩ := foldJ_min _ m hm
    obtain ⟨t2, ht2, rfl⟩ := List.mem_map.1 h1
    have h3 := h2 _ (List.mem_map.2 ⟨t, hmem, rfl⟩)
    rw [← Bool.not_eq_true, lessB_iff] at h3
    simp only [] at h3
    have q1 := hle t0 ht0
    have q2 := hle0 t2 (List.mem_filter.1 ht2).1
    rw [hm, e0]
    refine ⟨hfit, rfl, ?_⟩
    simp only [Option.getD_some]
    omega
end Go.Proofs.Ytkonoggmdcdeeaa
end
section
set_option linter.unusedVariables false
set_option linter.unusedSimpArgs false
set_option maxHeartbeats 4000000
set_option maxRecDepth 100000
namespace Go.Proofs.Ytkonoggmdcdeeaa
open Go.V
/-- All claims of a set, of the first ones, are right in a truth. -/
def okR (x : Ir) (set : Nat) (t : List Int) : Nat → Bool
  | 0 => true
  | n + 1 => okR x set t n && (!set.testBit n || rightT x t n)
/-- In no truth all are. -/
def clsB (x : Ir) (L : List (List Int)) (set : Nat) : Bool := L.all fun t => !okR x set t x.cl.length
/-- The smallest set, as the document looks for it: from all, each that is smaller. -/
def bsN (f : Nat → Bool) (b : Nat) : Nat → Nat
  | 0 => b
  | j + 1 => if (decide (pop j < pop (bsN f b j)) && f j) = true then j else bsN f b j
theorem bsN_lt (f : Nat → Bool) (b B : Nat) (hb : b < B) : ∀ j, j ≤ B → bsN f b j < B := by
  intro j
  induction j with
  | zero => intro _; exact hb
  | succ j ih => intro hj; simp only [bsN]; split; (· omega); (· exact ih (by omega))
def rset (f : Nat → Bool) (m : Nat) : Option Nat := if f (2 ^ m - 1) = true then some (bsN f (2 ^ m - 1) (2 ^ m)) else none
end Go.Proofs.Ytkonoggmdcdeeaa
end
section
set_option linter.unusedVariables false
set_option linter.unusedSimpArgs false
set_option maxHeartbeats 4000000
set_option maxRecDepth 100000
namespace Go.Proofs.Ytkonoggmdcdeeaa
open Go.V
/-- There is no truth with the strakes of a set alone. -/
def shD (x : Ir) (set : Nat) : Bool := decide ((truS x set).length = 0)
end Go.Proofs.Ytkonoggmdcdeeaa
end
section
set_option linter.unusedVariables false
set_option linter.unusedSimpArgs false
namespace Go.Proofs.Ytkonoggmdcdeeaa
open Go.V
theorem inn_none (f : Nat → Bool) (z n : Nat) : ∀ j, inn f z n j = none → ∀ i, j ≤ i → i < j + n → f i = true → pop i ≠ z := by
  induction n with
  | zero => intro j _ i h1 h2; omega
  | succ n ih =>
    intro j h i h1 h2 hf he
    simp only [inn] at h
    split at h
    · cases h
    · rename_i hc
      by_cases e : i = j
      · subst e; apply hc; rw [hf, decide_eq_true he]; rfl
      · exact ih (j + 1) h i (by omega) (by omega) hf he
theorem inn_first (f : Nat → Bool) (z n : Nat) : ∀ j r, inn f z n j = some r → ∀ i, j ≤ i → i < j + n → f i = true → pop i = z → r ≤ i := by
  induction n with
  | zero => intro j r h; cases h
  | succ n ih =>
    intro j r h i h1 h2 hf he
    simp only [inn] at h
    split at h
    · cases h; exact h1
    · rename_i hc
      by_cases e : i = j
      · subst e; exfalso; apply hc; rw [hf, decide_eq_true he]; rfl
      · exact ih (j + 1) r h i (by omega) (by omega) hf he
/-- The least set that suits. -/
structure LeastSet (f : Nat → Bool) (m r : Nat) : Prop where
  lt : r < 2 ^ m
  is : f r = true
  le : ∀ i, i < 2 ^ m → f i = true → pop r < pop i ∨ pop r = pop i ∧ r ≤ i
theorem LeastSet.uniq {f : Nat → Bool} {m r r' : Nat} (h : LeastSet f m r) (h' : LeastSet f m r') : r = r' := by
  have h1 := h.le r' h'.lt h'.is
  have h2 := h'.le r h.lt h.is
  omega
theorem outF_some (f : Nat → Bool) (m n : Nat) : ∀ z r, outF f m n z = some r → z ≤ pop r ∧ (∀ i, i < 2 ^ m → f i = true → z ≤ pop i → pop r < pop i ∨ pop r = pop i ∧ r ≤ i) := by
  induction n with
  | zero => intro z r h; cases h
  | succ n ih =>
    intro z r h
    simp only [outF] at h
    split at h
    · rename_i j hj
      cases h
      obtain ⟨_, _, h3, _⟩ := inn_lt _ _ _ _ _ hj
      refine ⟨by omega, fun i hi hf hz => ?_⟩
      by_cases e : pop i = z
      · exact .inr ⟨by omega, inn_first f z _ 0 _ hj i (Nat.zero_le _) (by omega) hf e⟩
      · exact .inl (by omega)
    · rename_i hj
      obtain ⟨h1, h2⟩ := ih (z + 1) r h
      refine ⟨by omega, fun i hi hf hz => ?_⟩
      have := inn_none f z _ 0 hj i (Nat.zero_le _) (by omega) hf
      exact h2 i hi hf (by omega)
theorem outF_none (f : Nat → Bool) (m n : Nat) : ∀ z, outF f m n z = none → ∀ i, i < 2 ^ m → f i = true → z ≤ pop i → z + n ≤ pop i := by
  induction n with
  | zero => intro z _ i _ _ h; exact h
  | succ n ih =>
    intro z h i hi hf hz
    simp only [outF] at h
    split at h
    · cases h
    · rename_i hj
      have := inn_none f z _ 0 hj i (Nat.zero_le _) (by omega) hf
      have := ih (z + 1) h i hi hf (by omega)
      omega
theorem pop_all : ∀ m, m < 9 → ∀ i, i < 256 → i < 2 ^ m → pop i ≤ m ∧ (pop i = m → i = 2 ^ m - 1) := by decide +kernel
theorem pop_full : ∀ m, m < 9 → pop (2 ^ m - 1) = m := by decide +kernel
theorem fewV_some {f : Nat → Bool} {m r : Nat} (h : fewV f m = some r) : LeastSet f m r := by
  obtain ⟨h1, h2⟩ := outF_lt f m (m + 1) 0 r h
  exact ⟨h1, h2, fun i hi hf => (outF_some f m (m + 1) 0 r h).2 i hi hf (Nat.zero_le _)⟩
theorem fewV_none {f : Nat → Bool} {m : Nat} (hm : m ≤ 8) (h : fewV f m = none) : ∀ i, i < 2 ^ m → f i = false := by
  intro i hi
  rw [← Bool.not_eq_true]
  intro hf
  have h1 := outF_none f m (m + 1) 0 h i hi hf (Nat.zero_le _)
  have hp : 2 ^ m ≤ 2 ^ 8 := Nat.pow_le_pow_right (by decide) hm
  have h2 := (pop_all m (by omega) i (by omega) hi).1
  omega
theorem bsN_spec (f : Nat → Bool) (b : Nat) : ∀ j, (bsN f b j = b ∨ (bsN f b j < j ∧ f (bsN f b j) = true)) ∧ pop (bsN f b j) ≤ pop b ∧ ∀ i, i < j → f i = true → pop (bsN f b j) < pop i ∨ pop (bsN f b j) = pop i ∧ (bsN f b j ≤ i ∨ bsN f b j = b) := by
  intro j
  induction j with
  | zero => exact ⟨.inl rfl, Nat.le_refl _, fun i hi => by omega⟩
  | succ j ih =>
    obtain ⟨h1, h2, h3⟩ := ih
    simp only [bsN]
    by_cases hc : (decide (pop j < pop (bsN f b j)) && f j) = true
    · rw [if_pos hc]
      simp only [Bool.and_eq_true, decide_eq_true_eq] at hc
      refine ⟨.inr ⟨by omega, hc.2⟩, by omega, fun i hi hf => ?_⟩
      by_cases e : i = j
      · subst e; exact .inr ⟨rfl, .inl (Nat.le_refl _)⟩
      · have := h3 i (by omega) hf
        exact .inl (by omega)
    · rw [if_neg hc]
      simp only [Bool.and_eq_true, decide_eq_true_eq] at hc
      refine ⟨h1.imp id fun h => ⟨by omega, h.2⟩, h2, fun i hi hf => ?_⟩
      by_cases e : i = j
      · subst e
        have : ¬ pop i < pop (bsN f b i) := fun q => hc ⟨q, hf⟩
        rcases h1 with h | h
        · by_cases q : pop (bsN f b i) = pop i
          · exact .inr ⟨q, .inr h⟩
          · exact .inl (by omega)
        · by_cases q : pop (bsN f b i) = pop i
          · exact .inr ⟨q, .inl (by omega)⟩
          · exact .inl (by omega)
      · exact h3 i (by omega) hf
theorem rset_least {f : Nat → Bool} {m r : Nat} (hm : m ≤ 8) (h : rset f m = some r) : LeastSet f m r := by
  unfold rset at h
  split at h
  · rename_i hf
    cases h
    have hp0 : 0 < 2 ^ m := Nat.pow_pos (by decide)
    have hp : 2 ^ m ≤ 2 ^ 8 := Nat.pow_le_pow_right (by decide) hm
    have hlt := bsN_lt f (2 ^ m - 1) (2 ^ m) (by omega) (2 ^ m) (Nat.le_refl _)
    obtain ⟨h1, h2, h3⟩ := bsN_spec f (2 ^ m - 1) (2 ^ m)
    refine ⟨hlt, ?_, fun i hi hfi => ?_⟩
    · rcases h1 with h | h
      · rw [h]; exact hf
      · exact h.2
    · rcases h3 i hi hfi with q | ⟨q, q2 | q2⟩
      · exact .inl q
      · exact .inr ⟨q, q2⟩
      · refine .inr ⟨q, ?_⟩
        rw [q2] at q
        rw [pop_full m (by omega)] at q
        have := (pop_all m (by omega) i (by omega) hi).2 q.symm
        rw [q2, this]
        exact Nat.le_refl _
  · cases h
/-- The two ways agree, if a set suits whenever a part of it does. -/
theorem few_rset {f : Nat → Bool} {m : Nat} (hm : m ≤ 8) (hmon : ∀ i, i < 2 ^ m → f i = true → f (2 ^ m - 1) = true) : fewV f m = rset f m := by
  cases hr : rset f m with
  | some r =>
    have hl := rset_least hm hr
    cases hw : fewV f m with
    | some w => rw [(fewV_some hw).uniq hl]
    | none => have := fewV_none hm hw r hl.lt; rw [hl.is] at this; cases this
  | none =>
    cases hw : fewV f m with
    | none => rfl
    | some w =>
      have hl := fewV_some hw
      unfold rset at hr
      rw [if_pos (hmon w hl.lt hl.is)] at hr
      cases hr

theorem wrO_zero (x : Ir) (C s : Nat) (o : Int) (n : Nat) : (wrO x C s o n).1 = 0 ↔ ∀ k, k < n → wrB x C s o k = false := by
  induction n with
  | zero => exact ⟨fun _ k hk => by omega, fun _ => rfl⟩
  | succ n ih =>
    simp only [wrO]
    constructor
    · intro h k hk
      by_cases hc : wrB x C s o n = true
      · rw [if_pos hc] at h; simp at h
      · rw [if_neg hc] at h
        by_cases e : k = n
        · subst e; simpa using hc
        · exact ih.1 h k (by omega)
    · intro h
      rw [h n (by omega), if_neg (by decide)]
      exact ih.2 fun k hk => h k (by omega)
theorem flB_cons {x : Ir} {C k s : Nat} {o : Int} {t : List Int} (hc : 0 ≤ (x.cl.getD k cl0).s) : flB x C k s (o :: t) = (wrB x C s o k || flB x C k (s + 1) t) := by
  by_cases e : (x.cl.getD k cl0).s.toNat = s
  · have h1 : flB x C k (s + 1) t = false := by
      simp only [flB]; rw [decide_eq_false (by omega)]; rfl
    rw [h1, Bool.or_false]
    simp only [flB, wrB, List.length_cons]
    rw [decide_eq_true (by omega), e, Nat.sub_self, List.getD_cons_zero, decide_eq_true (by omega : (x.cl.getD k cl0).s = (s : Int))]
  · have h2 : wrB x C s o k = false := by
      simp only [wrB]; rw [decide_eq_false (by omega)]; rfl
    rw [h2, Bool.false_or]
    simp only [flB, List.length_cons]
    by_cases q : s + 1 ≤ (x.cl.getD k cl0).s.toNat
    · obtain ⟨d, hd⟩ : ∃ d, (x.cl.getD k cl0).s.toNat - s = d + 1 := ⟨(x.cl.getD k cl0).s.toNat - s - 1, by omega⟩
      rw [hd, List.getD_cons_succ, show (x.cl.getD k cl0).s.toNat - (s + 1) = d by omega]
      rw [show decide (s ≤ (x.cl.getD k cl0).s.toNat ∧ (x.cl.getD k cl0).s.toNat < s + (t.length + 1)) = decide (s + 1 ≤ (x.cl.getD k cl0).s.toNat ∧ (x.cl.getD k cl0).s.toNat < s + 1 + t.length) from decide_eq_decide.2 (by omega)]
    · rw [decide_eq_false (by omega), decide_eq_false (by omega)]; rfl
/-- No claim of a set is false from this strake on. -/
def noF (x : Ir) (C s : Nat) (t : List Int) : Bool := (List.range x.cl.length).all fun k => !flB x C k s t
theorem noF_cons {x : Ir} (kx : Ok x) (C s : Nat) (o : Int) (t : List Int) : noF x C s (o :: t) = ((!decide (0 < (wrO x C s o x.cl.length).1)) && noF x C (s + 1) t) := by
  rw [Bool.eq_iff_iff]
  simp only [noF, List.all_eq_true, List.mem_range, Bool.and_eq_true, Bool.not_eq_true', decide_eq_false_iff_not]
  constructor
  · intro h
    refine ⟨?_, fun k hk => ?_⟩
    · have : (wrO x C s o x.cl.length).1 = 0 := (wrO_zero x C s o _).2 fun k hk => by
        have := h k hk
        rw [flB_cons (kx.cs k hk).1] at this
        exact (Bool.or_eq_false_iff.1 this).1
      omega
    · have := h k hk
      rw [flB_cons (kx.cs k hk).1] at this
      exact (Bool.or_eq_false_iff.1 this).2
  · rintro ⟨h1, h2⟩ k hk
    rw [flB_cons (kx.cs k hk).1, (wrO_zero x C s o x.cl.length).1 (by omega) k hk, h2 k hk]
    rfl
theorem cont_must {x : Ir} (kx : Ok x) (S C C' : Nat) : ∀ n s u, (∀ j, s ≤ j → j < s + n → S.testBit j = true) → cont x S C true n s u = (cont x S C' false n s u).filter (noF x C s) := by
  intro n
  induction n with
  | zero =>
    intro s u _
    simp only [cont]
    rw [List.filter_cons_of_pos]
    · rfl
    · simp only [noF, List.all_eq_true, List.mem_range, Bool.not_eq_true']
      intro k _
      simp only [flB, List.length_nil, Nat.add_zero]
      rw [decide_eq_false (by omega)]; rfl
  | succ n ih =>
    intro s u hS
    have hb := hS s (Nat.le_refl _) (by omega)
    simp only [cont, nxt, hb, if_true]
    rw [List.flatMap_map, List.flatMap_map, filter_flat]
    have hg : ∀ o, goB x C true s u o = (goB x C' false s u o && !decide (0 < (wrO x C s (o : Int) x.cl.length).1)) := fun o => by
      simp only [goB, Bool.true_and, Bool.false_and, Bool.not_false, Bool.and_true]
    have key : ∀ l : List Nat, (l.filter (goB x C true s u)).flatMap (fun o : Nat => (cont x S C true n (s + 1) (u.set o (u.getD o 0 + 1))).map ((o : Int) :: ·)) =
        (l.filter (goB x C' false s u)).flatMap fun o : Nat => ((cont x S C' false n (s + 1) (u.set o (u.getD o 0 + 1))).map ((o : Int) :: ·)).filter (noF x C s) := by
      intro l
      induction l with
      | nil => rfl
      | cons o l ihl =>
        have e1 : ((cont x S C' false n (s + 1) (u.set o (u.getD o 0 + 1))).map ((o : Int) :: ·)).filter (noF x C s) = if 0 < (wrO x C s (o : Int) x.cl.length).1 then [] else (cont x S C true n (s + 1) (u.set o (u.getD o 0 + 1))).map ((o : Int) :: ·) := by
          rw [List.filter_map]
          have e2 : (noF x C s ∘ ((o : Int) :: ·)) = fun t => (!decide (0 < (wrO x C s (o : Int) x.cl.length).1)) && noF x C (s + 1) t := by
            funext t
            exact noF_cons kx C s o t
          rw [e2]
          by_cases q : 0 < (wrO x C s (o : Int) x.cl.length).1
          · rw [if_pos q, decide_eq_true q]
            simp
          · rw [if_neg q, decide_eq_false q]
            simp only [Bool.not_false, Bool.true_and]
            rw [ih (s + 1) _ fun j h1 h2 => hS j (by omega) (by omega)]
        simp only [List.filter_cons, hg o]
        by_cases h1 : goB x C' false s u o = true
        · rw [h1, Bool.true_and, if_pos rfl, List.flatMap_cons, e1]
          by_cases q : 0 < (wrO x C s (o : Int) x.cl.length).1
          · rw [decide_eq_true q, if_pos q, if_neg (by decide), ihl]; rfl
          · rw [decide_eq_false q, if_neg q, if_pos (by rfl), List.flatMap_cons, ihl]
        · rw [Bool.not_eq_true] at h1
          rw [h1, Bool.false_and, if_neg (by decide), if_neg (by decide), ihl]
    exact key _
theorem okR_iff (x : Ir) (set : Nat) (t : List Int) (n : Nat) : okR x set t n = true ↔ ∀ k, k < n → set.testBit k = true → rightT x t k = true := by
  induction n with
  | zero => exact ⟨fun _ k hk => by omega, fun _ => rfl⟩
  | succ n ih =>
    simp only [okR, Bool.and_eq_true, ih, Bool.or_eq_true, Bool.not_eq_true']
    constructor
    · rintro ⟨h1, h2⟩ k hk hb
      by_cases e : k = n
      · subst e
        rcases h2 with h2 | h2
        · rw [hb] at h2; cases h2
        · exact h2
      · exact h1 k (by omega) hb
    · intro h
      refine ⟨fun k hk => h k (by omega), ?_⟩
      cases hb : set.testBit n with
      | false => exact .inl rfl
      | true => exact .inr (h n (by omega) hb)
theorem noF_okR {x : Ir} (kx : Ok x) {set : Nat} {t : List Int} (ht : t.length = x.st.length) : noF x set 0 t = okR x set t x.cl.length := by
  rw [Bool.eq_iff_iff, okR_iff]
  simp only [noF, List.all_eq_true, List.mem_range, Bool.not_eq_true']
  have hf : ∀ k, k < x.cl.length → flB x set k 0 t = (set.testBit k && !rightT x t k) := fun k hk => by
    have hc := kx.cs k hk
    simp only [flB, rightT, Nat.sub_zero]
    rw [decide_eq_true (by omega), Bool.true_and]
  constructor
  · intro h k hk hb
    have := h k hk
    rw [hf k hk, hb] at this
    simpa using this
  · intro h k hk
    rw [hf k hk]
    cases hb : set.testBit k with
    | false => rfl
    | true => rw [h k hk hb]; rfl
theorem clash_pred {x : Ir} (k : Ok x) (set : Nat) : clP x set = clsB x (truA x) set := by
  have h : truA x = cont x (fullS x) 0 false x.st.length 0 u0 := truS_cont x (fullS x) 0 k.gd
  have e : (tlN x (fullS x) set true).getD 0 = ((truA x).filter (noF x set 0)).length := by
    rw [tlN, tl_eq x (fullS x) set true 1 moreN joinN (fun a b c => Nat.add_assoc a b c) (fun s o a b => rfl), foldN, List.length_map, cont_must k (fullS x) set 0 x.st.length 0 u0 (fun j _ hj => full_bit _ _ (by omega)), ← h]
    intro a ha
    obtain ⟨t, _, rfl⟩ := List.mem_map.1 ha
    exact valN 0 t
  rw [clP, e, Bool.eq_iff_iff, decide_eq_true_eq, List.length_eq_zero_iff, List.filter_eq_nil_iff, clsB, List.all_eq_true]
  constructor
  · intro h t ht
    have := h t ht
    rw [noF_okR k (truA_mem ht).1] at this
    simpa using this
  · intro h t ht
    have := h t ht
    rw [noF_okR k (truA_mem ht).1]
    simpa using this
theorem clash_eq {x : Ir} (k : Ok x) : clashR x = rset (clsB x (truA x)) x.cl.length := by
  have e : clP x = clsB x (truA x) := by funext set; exact clash_pred k set
  rw [clashR, e]
  refine few_rset k.nC fun i hi hf => ?_
  rw [clsB, List.all_eq_true] at hf ⊢
  intro t ht
  have h1 := hf t ht
  rw [Bool.not_eq_true'] at h1 ⊢
  rw [← Bool.not_eq_true, okR_iff] at h1 ⊢
  intro h2
  exact h1 fun k hk _ => h2 k hk (full_bit _ _ hk)
end Go.Proofs.Ytkonoggmdcdeeaa
end
section
set_option linter.unusedVariables false
set_option linter.unusedSimpArgs false
namespace Go.Proofs.Ytkonoggmdcdeeaa
open Go.V
theorem tru_less {x : Ir} {S S' : Nat} : ∀ (n : Nat) (b b' : List Int), b'.length = b.length → (∀ j, b.length ≤ j → j < b.length + n → S'.testBit j = true → S.testBit j = true) → (∀ o : Nat, cntB b' o ≤ cntB b o) → tru x S n b ≠ [] → tru x S' n b' ≠ [] := by
  intro n
  induction n with
  | zero => intro b b' _ _ _ _; simp [tru]
  | succ n ih =>
    intro b b' hl hS hc h
    obtain ⟨t, ht⟩ := List.exists_mem_of_ne_nil _ h
    have hne : ∀ (c c' : List Int), t ∈ tru x S n c → c'.length = c.length → c.length = b.length + 1 → (∀ o : Nat, cntB c' o ≤ cntB c o) → tru x S' n c' ≠ [] := fun c c' hm h1 h2 h3 =>
      ih c c' h1 (fun j q1 q2 => hS j (by omega) (by omega)) h3 (List.ne_nil_of_mem hm)
    cases hb' : S'.testBit b'.length with
    | true =>
      have hb : S.testBit b.length = true := hS b.length (Nat.le_refl _) (by omega) (by rw [← hl]; exact hb')
      rw [tru_yes hb, truP_mem] at ht
      obtain ⟨o, ho, hcan, ht⟩ := ht
      have hcan' : canO x b' o = true := by
        simp only [canO, Bool.and_eq_true, decide_eq_true_eq] at hcan ⊢
        rw [hl]
        exact ⟨hcan.1, by have := hc o; omega⟩
      have := hne (b ++ [(o : Int)]) (b' ++ [(o : Int)]) ht (by simp [hl]) (by simp) (fun q => by rw [cntB_snoc, cntB_snoc]; have := hc q; omega)
      obtain ⟨t', ht'⟩ := List.exists_mem_of_ne_nil _ this
      rw [tru_yes hb']
      exact List.ne_nil_of_mem (truP_mem.2 ⟨o, ho, hcan', ht'⟩)
    | false =>
      rw [tru_no hb']
      cases hb : S.testBit b.length with
      | true =>
        rw [tru_yes hb, truP_mem] at ht
        obtain ⟨o, ho, hcan, ht⟩ := ht
        exact hne (b ++ [(o : Int)]) (b' ++ [-1]) ht (by simp [hl]) (by simp) (fun q => by rw [cntB_snoc, cntB_snoc, if_neg (by omega)]; have := hc q; omega)
      | false =>
        rw [tru_no hb] at ht
        exact hne (b ++ [-1]) (b' ++ [-1]) ht (by simp [hl]) (by simp) (fun q => by rw [cntB_snoc, cntB_snoc, if_neg (by omega)]; have := hc q; omega)
theorem short_eq {x : Ir} (k : Ok x) : shortR x = rset (shD x) x.st.length := by
  have e : shP x = shD x := by
    funext set
    rw [shP, shD, tlN_len k.gd]
  rw [shortR, e]
  refine few_rset (Nat.le_trans k.nS (by decide)) fun i hi hf => ?_
  rw [shD, decide_eq_true_eq, List.length_eq_zero_iff] at hf ⊢
  apply Classical.byContradiction
  intro h
  exact tru_less x.st.length [] [] rfl (fun j _ hj _ => full_bit _ _ (by simp at hj; exact hj)) (fun o => Nat.le_refl _) h hf
end Go.Proofs.Ytkonoggmdcdeeaa
end
section
set_option linter.unusedVariables false
set_option linter.unusedSimpArgs false
set_option maxHeartbeats 4000000
set_option maxRecDepth 100000
namespace Go.Proofs.Ytkonoggmdcdeeaa
open Go.V
/-- Irons of which a strake is known to be an owner's are not too large. -/
def fxB (x : Ir) (s : Nat) : Bool := decide (x.F + 1 ≤ 4) && decide ((x.st.getD s []).length + 1 ≤ 6)
def rowF (x : Ir) (o : Nat) : Nat → List AV := fun j => [intsAV (owW x o j)]
end Go.Proofs.Ytkonoggmdcdeeaa
end
section
set_option linter.unusedVariables false
set_option linter.unusedSimpArgs false
namespace Go.Proofs.Ytkonoggmdcdeeaa
open Go.V
/-- How many truths there are with one of the first owners. -/
def sumO (x : Ir) (s : Nat) : Nat → Nat
  | 0 => 0
  | o + 1 => sumO x s o + ((truA x).filter fun t => decide (t.getD s 0 = (o : Int))).length
def wantW (own o : Nat) (nt : Bool) : Int :=
  if nt = true then 2 - (if own.testBit o = false then 0 else if own = 2 ^ o then 2 else 1) else if own.testBit o = false then 0 else if own = 2 ^ o then 2 else 1
end Go.Proofs.Ytkonoggmdcdeeaa
end
section
set_option linter.unusedVariables false
set_option linter.unusedSimpArgs false
set_option maxHeartbeats 4000000
set_option maxRecDepth 100000
namespace Go.Proofs.Ytkonoggmdcdeeaa
open Go.V
theorem fine_tri (x : Ir) (H : Hp) (hO : x.ow.length < 2 ^ 63) (hS : x.st.length < 2 ^ 63) : PTri Try.prog (fnA 33) [x.av] H (boo (!farB x && decide (Ok x))) := by
  refine tri_v0 (fun _ => false) Try.func33 (by kernel_rfl) rfl (by simp only [List.length_append, List.length_cons, List.length_nil, Try.ntmps33]; decide) ?_
  simp only [vsAll, loadA, loadRow, partA, partOk, boxA, okAll, stAll, opsA, opA, dstOk, nilSliceOp, argFr, Nat.reduceAdd, Nat.reduceLT, Nat.reduceEqDiff, ↓reduceIte, eq_self, wtAll, Try.ntmps33]
  refine callK_pure (far_tri x _ hO hS) ?_
  simp only [vsAll, unA, loadA, loadRow, partA, partOk, opA, guardV, dstOk, Nat.reduceLT, Nat.reduceEqDiff, ↓reduceIte, implies_true, eq_self, wtAll]
  refine gcall _ (fun g => ⟨by simp only [vsAll, opA], by simp only [vsAll, okAll, opsA, opA, ↓reduceIte, eq_self, g], rirons_tri x _ (far_near (by simpa using g))⟩) ?_
  simp only [vsAll, pickA, opA, dstOk, nilSliceOp, resA, retA.eq_1, Nat.reduceLT, Nat.reduceEqDiff, ↓reduceIte, implies_true, eq_self, Try.results33]
end Go.Proofs.Ytkonoggmdcdeeaa
end
section
set_option linter.unusedVariables false
set_option linter.unusedSimpArgs false
set_option maxHeartbeats 4000000
set_option maxRecDepth 100000
namespace Go.Proofs.Ytkonoggmdcdeeaa
open Go.V
/-- The claims of a set, of the first ones. -/
def partL (x : Ir) (set : Nat) : Nat → List Cl
  | 0 => []
  | i + 1 => if set.testBit i = true then partL x set i ++ [x.cl.getD i cl0] else partL x set i
def partI (x : Ir) (set : Nat) : Ir := { x with cl := partL x set x.cl.length }
theorem partL_len (x : Ir) (set i : Nat) : (partL x set i).length ≤ i := by
  induction i with
  | zero => exact Nat.le_refl _
  | succ i ih =>
    simp only [partL]
    split
    · rw [List.length_append]; simp only [List.length_cons, List.length_nil]; omega
    · omega
theorem app_cl (l : List Cl) (c : Cl) (g : Nat → List AV) (hg : g 0 = c.cs) : appF l.length 1 (clF l) g = clF (l ++ [c]) := app_lF Cl.cs cl0 l c g hg
theorem partL_mem {x : Ir} {set : Nat} {c : Cl} : ∀ {i : Nat}, c ∈ partL x set i ↔ ∃ k, k < i ∧ set.testBit k = true ∧ c = x.cl.getD k cl0 := by
  intro i
  induction i with
  | zero => simp [partL]
  | succ i ih =>
    simp only [partL]
    constructor
    · intro h
      split at h
      · rename_i hb
        rcases List.mem_append.1 h with h | h
        · obtain ⟨k, h1, h2⟩ := ih.1 h; exact ⟨k, by omega, h2⟩
        · rw [List.mem_singleton] at h; exact ⟨i, by omega, hb, h⟩
      · obtain ⟨k, h1, h2⟩ := ih.1 h; exact ⟨k, by omega, h2⟩
    · rintro ⟨k, h1, h2, h3⟩
      by_cases e : k = i
      · subst e
        rw [if_pos h2]
        exact List.mem_append_right _ (by rw [h3]; simp)
      · have := ih.2 ⟨k, by omega, h2, h3⟩
        split
        · exact List.mem_append_left _ this
        · exact this
theorem partI_ok {x : Ir} (k : Ok x) (set : Nat) : Ok (partI x set) := by
  have hl : (partI x set).cl.length ≤ 8 := Nat.le_trans (partL_len x set x.cl.length) k.nC
  have hm : ∀ i, i < (partI x set).cl.length → ∃ q, q < x.cl.length ∧ (partI x set).cl.getD i cl0 = x.cl.getD q cl0 := fun i hi => by
    obtain ⟨q, h1, _, h3⟩ := partL_mem.1 (mem_getD (partI x set).cl i cl0 hi)
    exact ⟨q, h1, h3⟩
  refine ⟨k.F, k.nO, k.nM, k.nS, hl, k.ow, k.mo, k.ov, k.st, k.sf, k.sl, fun i hi => ?_, fun i hi => ?_⟩
  · obtain ⟨q, h1, h2⟩ := hm i hi
    rw [h2]; exact k.cs q h1
  · obtain ⟨q, h1, h2⟩ := hm i hi
    rw [h2]; exact k.co q h1
/-- Not all claims of a set can be right: asked of irons with these alone. -/
def cfB (x : Ir) (set : Nat) : Bool := decide (falseE (partI x set) = 0) && decide (0 < (falseP (partI x set)).1)
end Go.Proofs.Ytkonoggmdcdeeaa
end
section
set_option linter.unusedVariables false
set_option linter.unusedSimpArgs false
namespace Go.Proofs.Ytkonoggmdcdeeaa
open Go.V
theorem tru_part (x : Ir) (set S : Nat) : ∀ n b, tru (partI x set) S n b = tru x S n b := by
  intro n
  induction n with
  | zero => intro b; rfl
  | succ n ih =>
    intro b
    simp only [tru, ih]
    rfl
theorem truA_part (x : Ir) (set : Nat) : truA (partI x set) = truA x := tru_part x set _ _ _
theorem wrongN_zero (x : Ir) (t : List Int) (n : Nat) : wrongN x t n = 0 ↔ ∀ k, k < n → rightT x t k = true := by
  induction n with
  | zero => exact ⟨fun _ k hk => by omega, fun _ => rfl⟩
  | succ n ih =>
    have hp : 0 < 2 ^ n := Nat.pow_pos (by decide)
    simp only [wrongN]
    constructor
    · intro h k hk
      by_cases e : k = n
      · subst e
        cases hr : rightT x t k with
        | true => rfl
        | false => rw [hr] at h; simp at h
      · refine ih.1 ?_ k (by omega)
        split at h <;> omega
    · intro h
      have h1 := ih.2 fun k hk => h k (by omega)
      rw [h n (by omega), h1]
      simp
theorem pop_zero_iff : ∀ w, w < 256 → (pop w = 0 ↔ w = 0) := by decide +kernel
theorem false_zero {x : Ir} (k : Ok x) (h : 0 < (truA x).length) : (falseP x).1 = 0 ↔ ∃ t ∈ truA x, wrongT x t = 0 := by
  have e : falseE x = 0 := errE_told k h
  have hw : ∀ t, wrongT x t < 256 := fun t => by
    have h1 := wrongN_lt x t x.cl.length
    have h2 : 2 ^ x.cl.length ≤ 2 ^ 8 := Nat.pow_le_pow_right (by decide) k.nC
    exact Nat.lt_of_lt_of_le h1 h2
  obtain ⟨m, hm⟩ := foldJ_some (l := (truA x).map fun t => (popW x t, wrongT x t)) (by intro q; rw [List.map_eq_nil_iff] at q; rw [q] at h; simp at h)
  have ev : falseP x = m := by rw [falseP, if_pos e, tlW_truth k, hm]; rfl
  obtain ⟨h1, h2⟩ := foldJ_min _ m hm
  obtain ⟨t0, ht0, rfl⟩ := List.mem_map.1 h1
  rw [ev]
  constructor
  · intro hp
    exact ⟨t0, ht0, (pop_zero_iff _ (hw t0)).1 hp⟩
  · rintro ⟨t, ht, hz⟩
    have h3 := h2 _ (List.mem_map.2 ⟨t, ht, rfl⟩)
    have h4 : popW x t = 0 := (pop_zero_iff _ (hw t)).2 hz
    rw [← Bool.not_eq_true, lessB_iff, h4] at h3
    simp only [] at h3
    omega
theorem wrong_part (x : Ir) (set : Nat) (t : List Int) : wrongT (partI x set) t = 0 ↔ okR x set t x.cl.length = true := by
  rw [wrongT, wrongN_zero, okR_iff]
  have hr : ∀ (y : Ir) k, rightT y t k = rightO (y.cl.getD k cl0) (t.getD (y.cl.getD k cl0).s.toNat 0) := fun _ _ => rfl
  constructor
  · intro h k hk hb
    have hm : x.cl.getD k cl0 ∈ (partI x set).cl := partL_mem.2 ⟨k, hk, hb, rfl⟩
    obtain ⟨i, hi, he⟩ := List.getElem_of_mem hm
    have := h i hi
    rw [hr, List.getD_eq_getElem?_getD, List.getElem?_eq_getElem hi, Option.getD_some, he] at this
    rw [hr]; exact this
  · intro h i hi
    obtain ⟨k, h1, h2, h3⟩ := partL_mem.1 (mem_getD (partI x set).cl i cl0 hi)
    have := h k h1 h2
    rw [hr] at this ⊢
    rw [h3]; exact this
theorem cfB_eq {x : Ir} (k : Ok x) (h : 0 < (truA x).length) (set : Nat) : cfB x set = clsB x (truA x) set := by
  have kp := partI_ok k set
  have hp : 0 < (truA (partI x set)).length := by rw [truA_part]; exact h
  have e : falseE (partI x set) = 0 := errE_told kp hp
  have hz := false_zero kp hp
  rw [truA_part] at hz
  rw [cfB, e, Bool.eq_iff_iff]
  simp only [decide_true, Bool.true_and, decide_eq_true_eq, clsB, List.all_eq_true, Bool.not_eq_true']
  constructor
  · intro hpos t ht
    rw [← Bool.not_eq_true, ← wrong_part]
    intro hw
    have := hz.2 ⟨t, ht, hw⟩
    omega
  · intro hall
    apply Nat.pos_of_ne_zero
    intro hzz
    obtain ⟨t, ht, hw⟩ := hz.1 hzz
    have := hall t ht
    rw [(wrong_part x set t).1 hw] at this
    cases this
theorem false_full {x : Ir} (k : Ok x) (h : 0 < (truA x).length) : decide ((falseP x).1 = 0) = !clsB x (truA x) (2 ^ x.cl.length - 1) := by
  have e : ∀ t, wrongT x t = 0 ↔ okR x (2 ^ x.cl.length - 1) t x.cl.length = true := fun t => by
    rw [wrongT, wrongN_zero, okR_iff]
    exact ⟨fun h k hk _ => h k hk, fun h k hk => h k hk (full_bit _ _ hk)⟩
  rw [Bool.eq_iff_iff, decide_eq_true_eq, false_zero k h]
  simp only [Bool.not_eq_true', clsB, List.all_eq_false, Bool.not_eq_true, Bool.not_eq_false', Bool.not_eq_false]
  exact ⟨fun ⟨t, h1, h2⟩ => ⟨t, h1, (e t).1 h2⟩, fun ⟨t, h1, h2⟩ => ⟨t, h1, (e t).2 h2⟩⟩
theorem cls_zero {x : Ir} (h : 0 < (truA x).length) : clsB x (truA x) 0 = false := by
  rw [clsB, List.all_eq_false]
  refine ⟨_, mem_getD (truA x) 0 [] h, ?_⟩
  rw [(okR_iff x 0 _ _).2 fun k _ hb => by rw [Nat.zero_testBit] at hb; cases hb]
  decide
theorem pop_less : ∀ i, i < 8 → ∀ r, r < 256 → r.testBit i = true → r ^^^ (r &&& 2 ^ i) < 256 ∧ pop (r ^^^ (r &&& 2 ^ i)) < pop r := by decide +kernel
theorem clash_cases {x : Ir} (k : Ok x) (h : 0 < (truA x).length) : (clashR x = none ∧ (falseP x).1 = 0) ∨ ∃ r, clashR x = some r ∧ (falseP x).1 ≠ 0 ∧ 1 ≤ r ∧ r < 2 ^ x.cl.length ∧ cfB x r = true ∧ (∀ i, i < x.cl.length → r.testBit i = true → cfB x (r ^^^ (r &&& 2 ^ i)) = false) ∧ ∀ o, o < 2 ^ x.cl.length → cfB x o = true → pop r < pop o ∨ pop r = pop o ∧ r ≤ o := by
  have hf := false_full k h
  have nC := k.nC
  have hp : 2 ^ x.cl.length ≤ 2 ^ 8 := Nat.pow_le_pow_right (by decide) nC
  have he : clP x = clsB x (truA x) := by funext set; exact clash_pred k set
  have hr := clash_eq k
  cases hc : clashR x with
  | none =>
    left
    rw [hc] at hr
    refine ⟨rfl, ?_⟩
    unfold rset at hr
    split at hr
    · cases hr
    · rename_i q
      rw [Bool.not_eq_true] at q
      rw [q] at hf
      exact of_decide_eq_true hf
  | some r =>
    right
    have hs := hc
    rw [clashR, he] at hs
    have L := fewV_some hs
    rw [hc] at hr
    have hff : clsB x (truA x) (2 ^ x.cl.length - 1) = true := by
      unfold rset at hr
      split at hr
      · assumption
      · cases hr
    rw [hff] at hf
    refine ⟨r, rfl, of_decide_eq_false hf, ?_, L.lt, by rw [cfB_eq k h]; exact L.is, fun i hi hb => ?_, fun o ho hco => L.le o ho (by rw [← cfB_eq k h]; exact hco)⟩
    · apply Nat.pos_of_ne_zero
      rintro rfl
      have := L.is
      rw [cls_zero h] at this
      cases this
    · have hl := L.lt
      obtain ⟨q1, q2⟩ := pop_less i (by omega) r (by omega) hb
      rw [cfB_eq k h, ← Bool.not_eq_true]
      intro hco
      have hlt : r ^^^ (r &&& 2 ^ i) < 2 ^ x.cl.length := Nat.xor_lt_two_pow hl (Nat.lt_of_le_of_lt Nat.and_le_left hl)
      have := L.le _ hlt hco
      omega
end Go.Proofs.Ytkonoggmdcdeeaa
end
section
set_option linter.unusedVariables false
set_option linter.unusedSimpArgs false
set_option maxHeartbeats 4000000
set_option maxRecDepth 100000
namespace Go.Proofs.Ytkonoggmdcdeeaa
open Go.V
/-- Without the claims of a set the others can be right. -/
def cnB (x : Ir) (e set : Nat) : Bool := decide (setE (errE (partI x (e ^^^ (e &&& set))) true true) (clashR (partI x (e ^^^ (e &&& set)))) = 4)
end Go.Proofs.Ytkonoggmdcdeeaa
end
section
set_option linter.unusedVariables false
set_option linter.unusedSimpArgs false
namespace Go.Proofs.Ytkonoggmdcdeeaa
open Go.V
/-- A set is a part of another. -/
def SubB (w s : Nat) : Prop := ∀ j, w.testBit j = true → s.testBit j = true
theorem SubB.half {w s : Nat} (h : SubB w s) : SubB (w / 2) (s / 2) := fun j hj => by
  rw [Nat.testBit_div_two] at hj ⊢
  exact h _ hj
theorem SubB.odd {w s : Nat} (h : SubB w s) : w % 2 ≤ s % 2 := by
  have := h 0
  rw [Nat.testBit_zero, Nat.testBit_zero, decide_eq_true_eq, decide_eq_true_eq] at this
  omega
theorem SubB.popN : ∀ (f : Nat) {w s : Nat}, SubB w s → popN f w ≤ popN f s
  | 0, _, _, _ => Nat.le_refl _
  | f + 1, w, s, h => Nat.add_le_add h.odd (SubB.popN f h.half)
theorem SubB.pop {w s : Nat} (h : SubB w s) : pop w ≤ pop s := SubB.popN 64 h
theorem SubB.le {w s : Nat} (h : SubB w s) : w ≤ s := by
  have e : w &&& s = w := by
    apply Nat.eq_of_testBit_eq
    intro j
    rw [Nat.testBit_and]
    cases hb : w.testBit j with
    | false => rfl
    | true => rw [h j hb]; rfl
  rw [← e]
  exact Nat.and_le_right
/-- The truth that False tells of. -/
structure FSpec (x : Ir) (t0 : List Int) : Prop where
  mem : t0 ∈ truA x
  val : falseP x = (popW x t0, wrongT x t0)
  le : ∀ t ∈ truA x, popW x t0 < popW x t ∨ popW x t0 = popW x t ∧ wrongT x t0 ≤ wrongT x t
theorem false_spec {x : Ir} (k : Ok x) (h : 0 < (truA x).length) : ∃ t0, FSpec x t0 := by
  have e : falseE x = 0 := errE_told k h
  obtain ⟨m, hm⟩ := foldJ_some (l := (truA x).map fun t => (popW x t, wrongT x t)) (by intro q; rw [List.map_eq_nil_iff] at q; rw [q] at h; simp at h)
  have ev : falseP x = m := by rw [falseP, if_pos e, tlW_truth k, hm]; rfl
  obtain ⟨h1, h2⟩ := foldJ_min _ m hm
  obtain ⟨t0, ht0, rfl⟩ := List.mem_map.1 h1
  refine ⟨t0, ht0, ev, fun t ht => ?_⟩
  have := h2 _ (List.mem_map.2 ⟨t, ht, rfl⟩)
  rw [← Bool.not_eq_true, lessB_iff] at this
  simp only [] at this
  omega
end Go.Proofs.Ytkonoggmdcdeeaa
end
section
set_option linter.unusedVariables false
set_option linter.unusedSimpArgs false
namespace Go.Proofs.Ytkonoggmdcdeeaa
open Go.V
def stR (x : Ir) (s : Nat) (m : Mk) (j : Nat) : List Mk := if j = s then x.st.getD s [] ++ [m] else x.st.getD j []
def readI (x : Ir) (s : Nat) (m : Mk) : Ir := { x with st := (List.range x.st.length).map (stR x s m) }
def saidI (x : Ir) (c : Cl) : Ir := { x with cl := x.cl ++ [c] }
def moR (x : Ir) (o j : Nat) : Int := if j = o then min 6 (x.mo.getD o 0 + 1) else x.mo.getD j 0
def moreI (x : Ir) (o : Nat) : Ir := { x with mo := (List.range x.mo.length).map (moR x o) }

theorem flat_sub {α β : Type} {f g : α → List β} : ∀ {l : List α}, (∀ a ∈ l, (f a).Sublist (g a)) → (l.flatMap f).Sublist (l.flatMap g)
  | [], _ => by simp
  | a :: l, h => by
    simp only [List.flatMap_cons]
    exact List.Sublist.append (h a (by simp)) (flat_sub fun b hb => h b (by simp [hb]))
theorem tru_sub {x y : Ir} {S : Nat} (hl : y.ow.length = x.ow.length) {L : Nat} (hc : ∀ b o, o < x.ow.length → b.length < L → canO y b o = true → canO x b o = true) :
    ∀ n b, b.length + n ≤ L → (tru y S n b).Sublist (tru x S n b) := by
  intro n
  induction n with
  | zero => intro b _; exact List.Sublist.refl _
  | succ n ih =>
    intro b hb
    cases hS : S.testBit b.length with
    | true =>
      simp only [tru, hS, if_true, hl]
      refine flat_sub fun o ho => ?_
      rw [List.mem_range] at ho
      by_cases h : canO y b o = true
      · rw [if_pos h, if_pos (hc b o ho (by omega) h)]
        exact ih _ (by simp; omega)
      · rw [if_neg h]
        exact List.nil_sublist _
    | false =>
      rw [tru_no hS, tru_no hS]
      exact ih _ (by simp; omega)

/-- The same irons, but for more marks. -/
structure LessI (x y : Ir) : Prop where
  ow : y.ow = x.ow
  mo : y.mo = x.mo
  cl : y.cl = x.cl
  len : y.st.length = x.st.length
  fit : ∀ o s, s < x.st.length → fitB y o s = true → fitB x o s = true
theorem LessI.refl (x : Ir) : LessI x x := ⟨rfl, rfl, rfl, rfl, fun _ _ _ h => h⟩
theorem LessI.tru {x y : Ir} (h : LessI x y) : (truA y).Sublist (truA x) := by
  have := tru_sub (x := x) (y := y) (S := 2 ^ x.st.length - 1) (by rw [h.ow]) (L := x.st.length) (fun b o ho hb hc => by
    simp only [canO, Bool.and_eq_true] at hc ⊢
    rw [h.mo] at hc
    exact ⟨h.fit _ _ hb hc.1, hc.2⟩) x.st.length [] (by simp)
  unfold truA truS
  rw [h.len]
  exact this
end Go.Proofs.Ytkonoggmdcdeeaa
end
section
set_option linter.unusedVariables false
namespace Go.V
/-- l is an order of all operations that are not in 'done', each behind what B puts ahead of it. -/
structure TopoB (ops : Array Oper) (B : Nat → Nat → Bool) (done : Nat → Prop) (l : List Nat) : Prop where
  lt : ∀ i ∈ l, i < ops.size
  nodup : l.Nodup
  apart : ∀ i ∈ l, ¬ done i
  all : ∀ i, i < ops.size → done i ∨ i ∈ l
  edges : ∀ l1 i l2, l = l1 ++ i :: l2 → ∀ k, B i k = true → done k ∨ k ∈ l1
theorem TopoB.tail {ops : Array Oper} {B : Nat → Nat → Bool} {done : Nat → Prop} {i : Nat} {l : List Nat} (h : TopoB ops B done (i :: l)) : TopoB ops B (fun j => done j ∨ j = i) l where
  lt := fun j hj => h.lt j (by simp [hj])
  nodup := (List.nodup_cons.1 h.nodup).2
  apart := fun j hj hd => by
    rcases hd with hd | rfl
    · exact h.apart j (by simp [hj]) hd
    · exact (List.nodup_cons.1 h.nodup).1 hj
  all := fun j hj => by
    rcases h.all j hj with hd | hm
    · exact .inl (.inl hd)
    · rcases List.mem_cons.1 hm with rfl | hm
      · exact .inl (.inr rfl)
      · exact .inr hm
  edges := fun l1 j l2 hl k hb => by
    rcases h.edges (i :: l1) j l2 (by rw [hl]; rfl) k hb with hd | hm
    · exact .inl (.inl hd)
    · rcases List.mem_cons.1 hm with hm | hm
      · exact .inl (.inr hm)
      · exact .inr hm
theorem TopoB.head {ops : Array Oper} {B : Nat → Nat → Bool} {done : Nat → Prop} {i k : Nat} {l : List Nat} (h : TopoB ops B done (i :: l)) (hb : B i k = true) : done k := by
  rcases h.edges [] i l rfl k hb with hd | hm
  · exact hd
  · simp at hm

structure Plan3 (ops : Array Oper) (B : Nat → Nat → Bool) (sg : Nat → Nat) (stages : List Stg) (last : List Nat) : Prop where
  ssa : ∀ i k, i < ops.size → k < ops.size → ∀ d, (opAt ops.toList k).dst = some d → (d ∈ readsOf ops.toList (opAt ops.toList i) → B i k = true ∨ (B k i = true ∧ sg k % 2 = 1)) ∧ (k ≠ i → (opAt ops.toList i).dst ≠ some d)
  st : ∀ j st kp e, stages[j]? = some (st, kp, e) → st = (List.range ops.size).filter (fun i => sg i == 2 * j) ∧ e < ops.size ∧ (∀ i, i < ops.size → (sg i = 2 * j + 1 ↔ i = e)) ∧
    (∀ i, i < ops.size → 2 * j + 2 ≤ sg i → B i e = true) ∧
    (∀ i, i < ops.size → sg i % 2 = 0 → sg i ≤ 2 * j → B e i = true ∨ heapFree (opAt ops.toList i).op = true ∨ i ∈ kp)
  last : last = (List.range ops.size).filter (fun i => sg i == 2 * stages.length)
  le : ∀ i, i < ops.size → sg i ≤ 2 * stages.length
  ord : ∀ i k, i < ops.size → k < ops.size → B i k = true → sg k ≤ sg i
  lt : ∀ i k, i < ops.size → k < ops.size → B i k = true → sg i = sg k → sg i % 2 = 0 → k < i

/-- What the quiet operations of a stage give. -/
theorem stage_facts3 {r : Option Nat} {P : Program} {n : Nat} {ops : Array Oper} {B : Nat → Nat → Bool} {sg : Nat → Nat} {stages : List Stg} {last : List Nat} (pl : Plan3 ops B sg stages last) {H : Hp} {c : Nat} {s : Fr} {K : Fr → Prop}
    (hev : c % 2 = 0) (h : vcQ P n ops.toList H (pickO ops.toList ((List.range ops.size).filter fun i => sg i == c)) s K) :
    ∃ sF, K sF ∧ (∀ t, (∀ i, i < ops.size → sg i = c → (opAt ops.toList i).dst ≠ some t) → sF t = s t) ∧ ∀ i, i < ops.size → sg i = c → QF r P n ops.toList H sF (opAt ops.toList i) := by
  have hpw : ((List.range ops.size).filter fun i => sg i == c).Pairwise (· < ·) := List.Pairwise.filter _ List.pairwise_lt_range
  have hmem : ∀ k, k ∈ ((List.range ops.size).filter fun i => sg i == c) ↔ k < ops.size ∧ sg k = c := fun k => by simp
  obtain ⟨sF, k1, k2, k3⟩ := vcQ_facts2 (r := r) (readsOf ops.toList) (fun _ => rfl) _ s K (by
    intro i o ho k o' hik ho' d hd
    obtain ⟨x, hx, rfl⟩ := pickO_get ho
    obtain ⟨y, hy, rfl⟩ := pickO_get ho'
    obtain ⟨hx1, hx2⟩ := (hmem x).1 (List.mem_of_getElem? hx)
    obtain ⟨hy1, hy2⟩ := (hmem y).1 (List.mem_of_getElem? hy)
    have hle : x ≤ y ∧ (i < k → x < y) := by
      obtain ⟨hil, hxe⟩ := List.getElem?_eq_some_iff.1 hx
      obtain ⟨hkl, hye⟩ := List.getElem?_eq_some_iff.1 hy
      have hlt : i < k → x < y := fun hlt => by
        have := List.pairwise_iff_getElem.1 hpw i k hil hkl hlt
        rw [hxe, hye] at this; exact this
      refine ⟨?_, hlt⟩
      rcases Nat.lt_or_ge i k with hl | hl
      · have := hlt hl; omega
      · have e : i = k := by omega
        subst e
        rw [hx] at hy; cases hy; exact Nat.le_refl _
    obtain ⟨g1, g2⟩ := pl.ssa x y hx1 hy1 d hd
    refine ⟨fun hm => ?_, fun hlt => g2 (by have := hle.2 hlt; omega)⟩
    rcases g1 hm with g1 | ⟨_, g1⟩
    · have := pl.lt x y hx1 hy1 g1 (by omega) (by omega)
      omega
    · omega) h
  refine ⟨sF, k1, fun t ht => k2 t fun o ho => ?_, fun i hi hs => k3 _ ?_⟩
  · obtain ⟨k, hk, rfl⟩ := pickO_mem ho
    obtain ⟨a, b⟩ := (hmem k).1 hk
    exact ht k a b
  · exact List.mem_map.2 ⟨i, (hmem i).2 ⟨hi, hs⟩, rfl⟩

theorem draw_run3 {r : Option Nat} {P : Program} {mm : Option Tmp → Bool} {n : Nat} {ops : Array Oper} {B : Nat → Nat → Bool} {Q : Post} {sg : Nat → Nat} {stages : List Stg} {last : List Nat} (pl : Plan3 ops B sg stages last)
    (hr : r = none ∨ ops.toList.all (fun o => quietOk o.op) = true) :
    ∀ (l : List Nat) (done : Nat → Prop) (j : Nat) (s : Fr) (ds : List AD) (H : Hp) (S : St) (a : Act), TopoB ops B done l →
      (∀ i, i < ops.size → done i → sg i ≤ 2 * j) → (∀ i, i < ops.size → sg i % 2 = 1 → sg i < 2 * j → done i) →
      (∀ i, i < ops.size → sg i % 2 = 0 → sg i ≤ 2 * j → ¬ done i → QF r P n ops.toList H s (opAt ops.toList i)) →
      vcD' P mm n ops.toList (preOf stages j) (stages.drop j) last s ds H Q →
      a.tmps.size = n → HRel S H → DRel S ds a.defers → PFrame2 S ops sg j done s a → wpOpsIn (FW r) 0 P ops (Lift S n Q) l a S.w := by
  intro l
  induction l with
  | nil =>
    intro done j s ds H S a ht I1 I2 hfact hv hsz hH hD hP
    have hall : ∀ i, i < ops.size → done i := fun i hi => (ht.all i hi).resolve_right (by simp)
    have hj : stages.length ≤ j := by
      rcases Nat.lt_or_ge j stages.length with hlt | hge
      · rcases hx : stages[j] with ⟨st, kp, e⟩
        have hs : stages[j]? = some (st, kp, e) := by rw [List.getElem?_eq_getElem hlt, hx]
        obtain ⟨_, g2, g3, _⟩ := pl.st j st kp e hs
        have := I1 e g2 (hall e g2)
        have := (g3 e g2).2 rfl
        omega
      · exact hge
    have hF : FRel S s a := fun t => by
      rcases hP t with ⟨k, hk, _, hnd, _⟩ | h
      · exact absurd (hall k hk) hnd
      · exact h
    rw [List.drop_eq_nil_of_le hj] at hv
    exact ⟨S, .normal, s, ds, H, rfl, Le.refl S, hH, hF, hD, hsz, trivial, hv⟩
  | cons i l ih =>
    intro done j s ds H S a ht I1 I2 hfact hv hsz hH hD hP
    have hi := ht.lt i (by simp)
    have hni : ¬ done i := ht.apart i (by simp)
    have ho := opAt_get hi
    have hread : ∀ t, t ∈ readsOf ops.toList (opAt ops.toList i) → VRel S (s t) (a.tmps.getD t undef) := by
      intro t htr
      rcases hP t with ⟨k, hk, hkq, hnd, hd⟩ | h
      · rcases (pl.ssa i k hi hk t hd).1 htr with g | ⟨_, g⟩
        · exact absurd (ht.head g) hnd
        · omega
      · exact h
    have hops : ∀ x ∈ (opAt ops.toList i).op.operands.toList, VRel S (opA s x) (a.eval x) := by
      intro x hx
      cases x with
      | tmp t => exact hread t (mem_reads_op hx)
      | const v => exact .lit v
      | global g => exact .any _
      | func f => exact .func rfl rfl (fun k hk => absurd hk (by simp)) (fun k hk => absurd hk (by simp))
    by_cases hev : sg i % 2 = 0
    · -- a quiet operation
      have hle : sg i ≤ 2 * j := by
        apply Classical.byContradiction
        intro hgt
        have := pl.le i hi
        have hlt : j < stages.length := by omega
        rcases hx : stages[j] with ⟨st, kp, e⟩
        have hs : stages[j]? = some (st, kp, e) := by rw [List.getElem?_eq_getElem hlt, hx]
        obtain ⟨_, g2, g3, g4, _⟩ := pl.st j st kp e hs
        have hde := ht.head (g4 i hi (by omega))
        have := I1 e g2 hde
        have := (g3 e g2).2 rfl
        omega
      obtain ⟨hd, v, hv', hg⟩ := (hfact i hi hev hle hni).fact
      have ih' : ∀ (S' : St) (cv : Value), Le S S' → HRel S' H → VRel S' v cv → wpOpsIn (FW r) 0 P ops (Lift S n Q) l (a.put (opAt ops.toList i).dst cv) S'.w := by
        intro S' cv hle' hH' hvr
        refine lift_wpOpsIn hle' l _ _ (ih (fun j => done j ∨ j = i) j s ds H S' _ ht.tail ?_ (fun x hx ho hl => .inl (I2 x hx ho hl)) ?_ hv ?_ hH' ?_ ?_)
        · rintro x hx (hd | rfl)
          · exact I1 x hx hd
          · exact hle
        · intro x hx he hl hnd
          exact hfact x hx he hl fun h => hnd (.inl h)
        · have := put_size (a := a) (d := (opAt ops.toList i).dst) (cv := cv) (df := a.defers)
          exact this.trans hsz
        · have := put_defers (a := a) (d := (opAt ops.toList i).dst) (cv := cv) (df := a.defers)
          have e : (a.put (opAt ops.toList i).dst cv).defers = a.defers := this
          rw [e]; exact hD.mono hle'
        · intro t
          by_cases hdt : (opAt ops.toList i).dst = some t
          · right
            rw [hv' t hdt]
            have ht' : t < a.tmps.size := by rw [hsz]; rw [hdt] at hd; exact hd
            rw [hdt]
            have := put_getD_same (a := a) (t := t) (cv := cv) (df := a.defers) ht'
            rw [show (a.put (some t) cv).tmps.getD t undef = cv from this]
            exact hvr
          · rcases hP t with ⟨k, hk, hkq, hnd, hd'⟩ | h
            · left
              refine ⟨k, hk, hkq, ?_, hd'⟩
              rintro (hx | rfl)
              · exact hnd hx
              · exact hdt hd'
            · right
              rw [put_getD' hdt]
              exact h.mono hle'
      simp only [wpOpsIn, ho]
      generalize opAt ops.toList i = o at *
      cases hgd : o.guard with
      | none =>
        rw [hgd] at hg
        simp only [Region.wanted, hgd, if_true]
        exact hg S a _ _ hH hops ih'
      | some jw =>
        obtain ⟨jj, w⟩ := jw
        rw [hgd] at hg
        obtain ⟨b, v0, hb, rfl, hex⟩ := hg
        have hwant : Region.wanted o (yielded ops a.tmps) = b := wanted_rel hgd (fun q d hq hd' => hread d (mem_reads_guard hgd hq hd')) hb
        rw [hwant]
        cases hwb : b with
        | false =>
          simp only [Bool.false_eq_true, if_false]
          exact ⟨fun _ _ => trivial, ih' S undef (Le.refl S) hH (.under (fun x => by rw [hwb] at x; cases x) fun _ => rfl)⟩
        | true =>
          simp only [if_true]
          exact hex hwb S a _ _ hH hops fun S' cv hle hH' hvr => ih' S' cv hle hH' (.under (fun _ => hvr) fun x => by rw [hwb] at x; cases x)
    · -- an effect
      have hlow : 2 * j < sg i := by
        apply Classical.byContradiction
        intro h
        exact hni (I2 i hi (by omega) (by omega))
      have hlt : j < stages.length := by have := pl.le i hi; omega
      rcases hx : stages[j] with ⟨st, kp, e⟩
      have hs : stages[j]? = some (st, kp, e) := by rw [List.getElem?_eq_getElem hlt, hx]
      obtain ⟨_, g2, g3, g4, g5⟩ := pl.st j st kp e hs
      have hsi : sg i = 2 * j + 1 := by
        apply Classical.byContradiction
        intro h
        have hde := ht.head (g4 i hi (by omega))
        have := I1 e g2 hde
        have := (g3 e g2).2 rfl
        omega
      have hei : i = e := (g3 i hi).1 hsi
      subst hei
      have hdrop : stages.drop j = (st, kp, i) :: stages.drop (j + 1) := by
        rw [List.drop_eq_getElem_cons hlt, hx]
      rw [hdrop] at hv
      obtain ⟨hd, hgn, heff⟩ := hv
      have hq : r = none ∨ ∀ c, (opAt ops.toList i).op ≠ .defer c := hr.imp (fun x => x) fun hall c e => by
        have hm : opAt ops.toList i ∈ ops.toList := List.mem_of_getElem? (i := i) (by simpa using ho)
        have := List.all_eq_true.1 hall _ hm
        rw [e] at this; cases this
      have hnext : hdS (stages.drop (j + 1)) last = (List.range ops.size).filter fun x => sg x == 2 * (j + 1) := by
        rcases Nat.lt_or_ge (j + 1) stages.length with h1 | h1
        · rcases hx' : stages[j + 1] with ⟨st', kp', e'⟩
          have hs' : stages[j + 1]? = some (st', kp', e') := by rw [List.getElem?_eq_getElem h1, hx']
          rw [List.drop_eq_getElem_cons h1, hx']
          exact (pl.st (j + 1) st' kp' e' hs').1
        · rw [List.drop_eq_nil_of_le h1]
          have : j + 1 = stages.length := by omega
          rw [this]; exact pl.last
      simp only [wpOpsIn, ho]
      have hw : Region.wanted (opAt ops.toList i) (yielded ops a.tmps) = true := by simp [Region.wanted, hgn]
      rw [hw]
      simp only [if_true]
      refine effA_sound heff hq hH hops hD _ _ ?_ ?_
      · rintro S' cv v ds' df H' hle hH' hv' hD' ⟨hkp, hk⟩
        rw [vcD_eq, hnext, ← preOf_succ hs] at hk
        obtain ⟨sF, k1, k2, k3⟩ := stage_facts3 (r := r) pl (by omega) hk
        have hkf := vcRs_fact (r := r) _ hkp
        refine lift_wpOpsIn hle l _ _ (ih (fun x => done x ∨ x = i) (j + 1) sF ds' H' S' _ ht.tail ?_ ?_ ?_ k1 (by rw [put_size]; exact hsz) hH' (by rw [put_defers]; exact hD') ?_)
        · rintro x hx (hd | rfl)
          · have := I1 x hx hd; omega
          · omega
        · intro x hx ho hl
          by_cases h : sg x < 2 * j
          · exact .inl (I2 x hx ho h)
          · exact .inr ((g3 x hx).1 (by omega))
        · intro x hx he hl hnd
          by_cases h : sg x = 2 * (j + 1)
          · exact k3 x hx h
          · have hxl : sg x ≤ 2 * j := by omega
            have hnx : ¬ done x := fun h => hnd (.inl h)
            have base : QF r P n ops.toList H' s (opAt ops.toList x) := by
              rcases g5 x hx he hxl with hb | hf | hm
              · exact absurd (ht.head hb) hnx
              · exact (hfact x hx he hxl hnx).move hf H'
              · exact hkf _ (List.mem_map.2 ⟨x, hm, rfl⟩)
            have hpi : ∀ t, (opAt ops.toList i).dst ≠ some t → put s (opAt ops.toList i).dst v t = s t := fun t h => by
              cases hdd : (opAt ops.toList i).dst with
              | none => rfl
              | some d => simp only [put]; rw [if_neg]; intro e; exact h (by rw [hdd, e])
            refine base.congr (fun t htr => ?_) (fun d hd => ?_)
            · rw [k2 t fun y hy hys hyd => ?_, hpi t fun hid => ?_]
              · rcases (pl.ssa x i hx hi t hid).1 htr with g | ⟨g, _⟩
                · have := pl.ord x i hx hi g; omega
                · exact hnx (ht.head g)
              · rcases (pl.ssa x y hx hy t hyd).1 htr with g | ⟨_, g⟩
                · have := pl.ord x y hx hy g; omega
                · omega
            · rw [k2 d fun y hy hys hyd => ?_, hpi d fun hid => ?_]
              · exact (pl.ssa x i hx hi d hid).2 (fun e => by rw [← e] at hxl; omega) hd
              · exact (pl.ssa x y hx hy d hyd).2 (fun e => by rw [e] at hys; omega) hd
        · intro t
          by_cases hex : ∃ k, k < ops.size ∧ (sg k % 2 = 0 ∧ sg k ≤ 2 * (j + 1)) ∧ ¬ (done k ∨ k = i) ∧ (opAt ops.toList k).dst = some t
          · exact .inl hex
          · right
            have hst : ∀ y, y < ops.size → sg y = 2 * (j + 1) → (opAt ops.toList y).dst ≠ some t := fun y hy hys hyd =>
              hex ⟨y, hy, ⟨by omega, by omega⟩, fun h => by
                rcases h with h | h
                · have := I1 y hy h; omega
                · rw [h] at hys; omega, hyd⟩
            rw [k2 t hst]
            by_cases hdt : (opAt ops.toList i).dst = some t
            · rw [hdt]
              have ht' : t < a.tmps.size := by rw [hsz]; rw [hdt] at hd; exact hd
              rw [put_getD_same ht']
              simp only [put, if_true]
              exact hv'
            · rw [put_getD hdt]
              have : put s (opAt ops.toList i).dst v t = s t := by
                cases hdd : (opAt ops.toList i).dst with
                | none => rfl
                | some d => simp only [put]; rw [if_neg]; intro e; exact hdt (by rw [hdd, e])
              rw [this]
              rcases hP t with ⟨k, hk, hkq, hnd, hd'⟩ | h
              · exact absurd ⟨k, hk, ⟨hkq.1, by omega⟩, fun h => h.elim hnd fun e => hdt (by rw [← e]; exact hd'), hd'⟩ hex
              · exact h.mono hle
      · intro S' cv v H' hle hH' hv' hk
        refine ⟨S', .pan v, wipe (pickO ops.toList (preOf stages j ++ st)) s, ds, H', rfl, hle, hH', fun t => ?_, hD.mono hle, hsz, ⟨cv, rfl, hv'⟩, hk⟩
        simp only [wipe]
        split
        · exact .any _
        · rename_i hno
          rcases hP t with ⟨k, hk, hkq, hnd, hd'⟩ | h
          · exfalso
            apply hno
            rw [List.any_eq_true]
            refine ⟨opAt ops.toList k, List.mem_map.2 ⟨k, ?_, rfl⟩, by rw [hd']; simp⟩
            rw [show st = (st, kp, i).1 from rfl, ← preOf_succ hs]
            obtain ⟨q, hq⟩ : ∃ q, sg k = 2 * q := ⟨sg k / 2, by omega⟩
            have hql : q < stages.length := by omega
            rcases hxq : stages[q] with ⟨st', kp', e'⟩
            have hsq : stages[q]? = some (st', kp', e') := by rw [List.getElem?_eq_getElem hql, hxq]
            have hst' := (pl.st q st' kp' e' hsq).1
            simp only [preOf, List.mem_flatMap]
            refine ⟨(st', kp', e'), List.mem_of_getElem? (i := q) (by rw [List.getElem?_take_of_lt (by omega)]; exact hsq), ?_⟩
            show k ∈ st'
            rw [hst', List.mem_filter, List.mem_range]
            exact ⟨hk, by simp [hq]⟩
          · exact h.mono hle


def ordersOf (all : List Oper) : Nat → List Nat → List (List Nat)
  | 0, _ => [[]]
  | n + 1, rem => rem.flatMap fun e => if rem.any (fun k => bitM all e k) = true then [] else (ordersOf all n (rem.filter fun k => k != e)).map (e :: ·)
theorem ordersOf_mem (all : List Oper) : ∀ (n : Nat) (rem m : List Nat), m.length = n → m.Nodup → (∀ x, x ∈ m ↔ x ∈ rem) → (∀ m1 i m2, m = m1 ++ i :: m2 → ∀ k, k ∈ m → bitM all i k = true → k ∈ m1) → m ∈ ordersOf all n rem := by
  intro n
  induction n with
  | zero =>
    intro rem m hl _ _ _
    have : m = [] := List.length_eq_zero_iff.1 hl
    subst this
    simp [ordersOf]
  | succ n ih =>
    intro rem m hl hn hm ho
    cases m with
    | nil => simp at hl
    | cons e m =>
      simp only [ordersOf, List.mem_flatMap]
      refine ⟨e, (hm e).1 (by simp), ?_⟩
      rw [if_neg]
      · refine List.mem_map.2 ⟨m, ih _ m (by simpa using hl) (List.nodup_cons.1 hn).2 (fun x => ?_) (fun m1 i m2 h k hk hb => ?_), rfl⟩
        · rw [List.mem_filter]
          constructor
          · intro hx
            exact ⟨(hm x).1 (by simp [hx]), by simp only [bne_iff_ne]; rintro rfl; exact (List.nodup_cons.1 hn).1 hx⟩
          · rintro ⟨h1, h2⟩
            rcases List.mem_cons.1 ((hm x).2 h1) with h | h
            · simp [h] at h2
            · exact h
        · have := ho (e :: m1) i m2 (by rw [h]; rfl) k (by simp [hk]) hb
          rcases List.mem_cons.1 this with h3 | h3
          · subst h3; exact absurd hk (List.nodup_cons.1 hn).1
          · exact h3
      · intro hany
        rw [List.any_eq_true] at hany
        obtain ⟨k, hk, hb⟩ := hany
        have := ho [] e m rfl k ((hm k).2 hk) hb
        simp at this
/-- What stands ahead of an operation, where the effects come in this order. -/
def bitE (all : List Oper) (E : List Nat) (i k : Nat) : Bool := bitM all i k || E.any fun eb => (i == eb || bitM all i eb) && (E.takeWhile fun x => x != eb).any fun ea => k == ea || bitM all ea k
theorem Topo.before {ops : Array Oper} {l : List Nat} (h : Topo ops (fun _ => False) l) {j i : Nat} (ha : Anc ops j i) : ∀ l1 l2, l = l1 ++ i :: l2 → j ∈ l1 := by
  induction ha with
  | edge ho he hb hj =>
    intro l1 l2 hl
    subst hj
    exact (h.edges l1 _ l2 hl _ ho _ he hb).resolve_left id
  | trans h1 h2 ih1 ih2 =>
    intro l1 l2 hl
    obtain ⟨a, b, rfl⟩ := List.append_of_mem (ih2 l1 l2 hl)
    have := ih1 a (b ++ _ :: l2) (by rw [hl, List.append_assoc]; rfl)
    exact List.mem_append_left _ this
theorem takeW_filter {p : Nat → Bool} {eb : Nat} : ∀ {a b : List Nat}, eb ∉ a → p eb = true → ((a ++ eb :: b).filter p).takeWhile (fun x => x != eb) = a.filter p
  | [], b, _, hp => by simp [hp]
  | x :: a, b, hn, hp => by
    have h1 : x ≠ eb := fun e => hn (by simp [e])
    have ih := takeW_filter (p := p) (eb := eb) (a := a) (b := b) (fun h => hn (by simp [h])) hp
    simp only [List.cons_append, List.filter_cons]
    split
    · rw [List.takeWhile_cons, if_pos (by simp [h1]), ih]
    · exact ih
theorem topoB_of {ops : Array Oper} {l : List Nat} (h : Topo ops (fun _ => False) l) (hb : ∀ i k, bitM ops.toList i k = true → Anc ops k i) (p : Nat → Bool) : TopoB ops (bitE ops.toList (l.filter p)) (fun _ => False) l := by
  refine ⟨h.lt, h.nodup, h.apart, h.all, fun l1 i l2 hl k hB => .inr ?_⟩
  simp only [bitE, Bool.or_eq_true, List.any_eq_true, Bool.and_eq_true, beq_iff_eq] at hB
  rcases hB with hB | ⟨eb, heb, h1, ea, hea, h2⟩
  · exact h.before (hb _ _ hB) l1 l2 hl
  · obtain ⟨hebl, hpe⟩ := List.mem_filter.1 heb
    -- eb stands at i or ahead of it
    have hsplit : ∃ q r, l = q ++ eb :: r ∧ ∀ x, x ∈ q → x ∈ l1 := by
      rcases h1 with h1 | h1
      · subst h1; exact ⟨l1, l2, hl, fun _ hx => hx⟩
      · obtain ⟨q, r, hq⟩ := List.append_of_mem (h.before (hb _ _ h1) l1 l2 hl)
        exact ⟨q, r ++ i :: l2, by rw [hl, hq, List.append_assoc]; rfl, fun x hx => by rw [hq]; exact List.mem_append_left _ hx⟩
    obtain ⟨q, r, hq, hql⟩ := hsplit
    have hne : eb ∉ q := by
      intro hm
      have hnd := h.nodup
      rw [hq] at hnd
      exact (List.nodup_append.1 hnd).2.2 eb hm eb (by simp) rfl
    rw [hq, takeW_filter hne hpe] at hea
    have heq := (List.mem_filter.1 hea).1
    rcases h2 with h2 | h2
    · rw [h2]; exact hql _ heq
    · obtain ⟨a, b, rfl⟩ := List.append_of_mem heq
      have := h.before (hb _ _ h2) a (b ++ eb :: r) (by rw [hq, List.append_assoc]; rfl)
      exact hql _ (List.mem_append_left _ this)

abbrev Pln := List Nat × List Stg × List Nat
def plan3Ok (ops : Array Oper) (E : List Nat) (sg : List Nat) (stages : List Stg) (last : List Nat) : Bool :=
  decide (stages.map (fun x => x.2.2) = E) &&
  ((List.range ops.size).all fun i => (List.range ops.size).all fun k => match (opAt ops.toList k).dst with
    | some d => (!(readsOf ops.toList (opAt ops.toList i)).contains d || bitE ops.toList E i k || (bitE ops.toList E k i && sg.getD k 0 % 2 == 1)) && (decide (k = i) || decide ((opAt ops.toList i).dst ≠ some d))
    | none => true) &&
  ((List.range stages.length).all fun j => match stages[j]? with
    | some (st, kp, e) => decide (st = (List.range ops.size).filter fun i => sg.getD i 0 == 2 * j) && decide (e < ops.size) &&
        ((List.range ops.size).all fun i => decide (sg.getD i 0 = 2 * j + 1) == decide (i = e)) &&
        ((List.range ops.size).all fun i => decide (sg.getD i 0 < 2 * j + 2) || bitE ops.toList E i e) &&
        ((List.range ops.size).all fun i => sg.getD i 0 % 2 == 1 || decide (2 * j < sg.getD i 0) || bitE ops.toList E e i || heapFree (opAt ops.toList i).op || kp.contains i)
    | none => true) &&
  decide (last = (List.range ops.size).filter fun i => sg.getD i 0 == 2 * stages.length) &&
  ((List.range ops.size).all fun i => decide (sg.getD i 0 ≤ 2 * stages.length)) &&
  ((List.range ops.size).all fun i => (List.range ops.size).all fun k => !bitE ops.toList E i k || (decide (sg.getD k 0 ≤ sg.getD i 0) && (decide (sg.getD i 0 ≠ sg.getD k 0) || decide (sg.getD i 0 % 2 ≠ 0) || decide (k < i))))

theorem plan3_of {ops : Array Oper} {E sg : List Nat} {stages : List Stg} {last : List Nat} (hb : ∀ i k, bitM ops.toList i k = true → Anc ops k i) (h : plan3Ok ops E sg stages last = true) :
    stages.map (fun x => x.2.2) = E ∧ Plan3 ops (bitE ops.toList E) (fun i => sg.getD i 0) stages last := by
  simp only [plan3Ok, Bool.and_eq_true, List.all_eq_true, List.mem_range] at h
  obtain ⟨⟨⟨⟨⟨h0, h3⟩, h4⟩, h5⟩, h6⟩, h7⟩ := h
  refine ⟨of_decide_eq_true h0, ?_, ?_, by simpa using h5, fun i hi => by simpa using h6 i hi, fun i k hi hk hbb => ?_, fun i k hi hk hbb hs he => ?_⟩
  · intro i k hi hk d hd
    have := h3 i hi k hk
    rw [hd] at this
    simp only [Bool.and_eq_true, Bool.or_eq_true, Bool.not_eq_true', decide_eq_true_eq, beq_iff_eq] at this
    obtain ⟨g1, g2⟩ := this
    refine ⟨fun hm => ?_, fun hne => ?_⟩
    · rcases g1 with (g1 | g1) | g1
      · rw [List.contains_iff_mem.2 hm] at g1; cases g1
      · exact .inl g1
      · exact .inr ⟨g1.1, by simpa using g1.2⟩
    · rcases g2 with g2 | g2
      · exact absurd g2 hne
      · exact g2
  · intro j st kp e hj
    have hjl : j < stages.length := (List.getElem?_eq_some_iff.1 hj).1
    have := h4 j hjl
    rw [hj] at this
    simp only [Bool.and_eq_true, List.all_eq_true, List.mem_range, Bool.or_eq_true, decide_eq_true_eq, beq_iff_eq] at this
    obtain ⟨⟨⟨⟨g1, g2⟩, g3⟩, g4⟩, g5⟩ := this
    refine ⟨g1, g2, fun i hi => by have := g3 i hi; simpa using this, fun i hi hs => ?_, fun i hi he hs => ?_⟩
    · rcases g4 i hi with hx | hx
      · omega
      · exact hx
    · rcases g5 i hi with (((hx | hx) | hx) | hx) | hx
      · omega
      · omega
      · exact .inl hx
      · exact .inr (.inl hx)
      · exact .inr (.inr (List.contains_iff_mem.1 hx))
  · have := h7 i hi k hk
    simp only [Bool.or_eq_true, Bool.not_eq_true', Bool.and_eq_true, decide_eq_true_eq] at this
    rcases this with hx | hx
    · rw [hbb] at hx; cases hx
    · exact hx.1
  · have := h7 i hi k hk
    simp only [Bool.or_eq_true, Bool.not_eq_true', Bool.and_eq_true, decide_eq_true_eq] at this
    rcases this with hx | ⟨_, (hx | hx) | hx⟩
    · rw [hbb] at hx; cases hx
    · exact absurd hs hx
    · exact absurd he hx
    · exact hx
theorem nodup_le {a b : List Nat} (ha : a.Nodup) (h : ∀ x, x ∈ a → x ∈ b) : a.length ≤ b.length := by
  induction a generalizing b with
  | nil => exact Nat.zero_le _
  | cons x a ih =>
    obtain ⟨h1, h2⟩ := List.nodup_cons.1 ha
    have hx : x ∈ b := h x (by simp)
    have := ih (b := b.erase x) h2 fun y hy => (List.mem_erase_of_ne (fun e => h1 (by rw [← e]; exact hy))).2 (h y (by simp [hy]))
    rw [List.length_erase_of_mem hx] at this
    have := List.length_pos_of_mem hx
    simp only [List.length_cons]
    omega
/-- A region whose order is open: a plan for each order of its effects. -/
def draw3Ok (P : Program) (ops : Array Oper) (effs : List Nat) (plans : List Pln) : Bool :=
  (P.follows .mixedOrders || !Region.departs ops) &&
  ((List.range ops.size).all fun k => match ops[k]? with
    | some o => o.after.toList.all fun e => !Region.binds .any e || decide (e.on < k)
    | none => true) &&
  effs.all (fun e => decide (e < ops.size)) && decide effs.Nodup &&
  (ordersOf ops.toList effs.length effs).all fun E => plans.any fun p => plan3Ok ops E p.1 p.2.1 p.2.2

theorem wps_draw3 {r : Option Nat} {P : Program} {mm : Option Tmp → Bool} {n id : Nat} {ops : Array Oper} {s : Fr} {ds : List AD} {H : Hp} {Q : Post} (effs : List Nat) (plans : List Pln)
    (hr : r = none ∨ ops.toList.all (fun o => quietOk o.op) = true) (hok : draw3Ok P ops effs plans = true) (h : ∀ p ∈ plans, vcD P mm n ops.toList [] p.2.1 p.2.2 s ds H Q) : WPS r P n (.region id ops true) s ds H Q := by
  simp only [draw3Ok, Bool.and_eq_true] at hok
  obtain ⟨⟨⟨⟨h1, h2⟩, h3⟩, h4⟩, h5⟩ := hok
  have hedge : ∀ k o e, ops[k]? = some o → e ∈ o.after → Region.binds .any e = true → e.on < k := by
    intro k o e ho he hb
    have hk : k < ops.size := (Array.getElem?_eq_some_iff.1 ho).1
    have := List.all_eq_true.1 h2 k (List.mem_range.2 hk)
    rw [ho] at this
    simp only [List.all_eq_true, Bool.or_eq_true, Bool.not_eq_true', decide_eq_true_eq] at this
    rcases this e (by simpa using he) with hx | hx
    · rw [hb] at hx; cases hx
    · exact hx
  have hanc : ∀ i k, bitM ops.toList i k = true → Anc ops k i := fun q j hq =>
    masks_spec ops.toList [] (fun q h1 h2 => by simp) (fun q hq => absurd hq (by simp)) q j hq
  intro S a hn hH hF hD
  refine wpIn_region_draw fun t => ?_
  have hsch : Region.schedule (P.follows .mixedOrders) ops t = Region.linearise .any ops t := by
    unfold Region.schedule
    rw [if_pos h1]
  rw [hsch]
  have htopo := linearise_topo hedge t
  generalize Region.linearise .any ops t = l at htopo ⊢
  have hE : l.filter (effs.contains ·) ∈ ordersOf ops.toList effs.length effs := by
    have hmem : ∀ x, x ∈ l.filter (effs.contains ·) ↔ x ∈ effs := fun x => by
      rw [List.mem_filter]
      constructor
      · rintro ⟨_, hx⟩; exact List.contains_iff_mem.1 hx
      · intro hx
        have := of_decide_eq_true (List.all_eq_true.1 h3 x hx)
        exact ⟨(htopo.all x this).resolve_left (fun h => h), List.contains_iff_mem.2 hx⟩
    have hnd : (l.filter (effs.contains ·)).Nodup := List.Pairwise.filter _ htopo.nodup
    refine ordersOf_mem _ _ _ _ ?_ hnd hmem fun m1 i m2 hm k hk hb => ?_
    · have hnd2 := of_decide_eq_true h4
      exact Nat.le_antisymm (nodup_le hnd fun x hx => (hmem x).1 hx) (nodup_le hnd2 fun x hx => (hmem x).2 hx)
    · have hil : i ∈ l.filter (effs.contains ·) := by rw [hm]; simp
      obtain ⟨hil, hpi⟩ := List.mem_filter.1 hil
      obtain ⟨a', b', hl⟩ := List.append_of_mem hil
      have hka := htopo.before (hanc _ _ hb) a' b' hl
      have hni : i ∉ a' := by
        intro hx
        have := htopo.nodup
        rw [hl] at this
        exact (List.nodup_append.1 this).2.2 i hx i (by simp) rfl
      have hnm : i ∉ m1 := by
        intro hx
        rw [hm] at hnd
        exact (List.nodup_append.1 hnd).2.2 i hx i (by simp) rfl
      have e1 := takeW_filter (p := (effs.contains ·)) (a := a') (b := b') hni hpi
      rw [← hl, hm] at e1
      have e2 := takeW_filter (p := fun _ => true) (a := m1) (b := m2) hnm rfl
      rw [List.filter_eq_self.2 (fun _ _ => rfl), List.filter_eq_self.2 (fun _ _ => rfl)] at e2
      rw [e2] at e1
      rw [e1]
      exact List.mem_filter.2 ⟨hka, (List.mem_filter.1 hk).2⟩
  obtain ⟨⟨sg, stages, last⟩, hp, hpk⟩ := List.any_eq_true.1 (List.all_eq_true.1 h5 _ hE)
  have hv := h _ hp
  have hpk : plan3Ok ops _ sg stages last = true := hpk
  obtain ⟨_, pl⟩ := plan3_of hanc hpk
  have hB := topoB_of htopo hanc (effs.contains ·)
  simp only [] at hv
  rw [vcD_eq] at hv
  have hst : hdS stages last = (List.range ops.size).filter fun x => sg.getD x 0 == 2 * 0 := by
    cases stages with
    | nil => exact pl.last
    | cons x r => obtain ⟨st, kp, e⟩ := x; exact (pl.st 0 st kp e rfl).1
  rw [hst] at hv
  obtain ⟨sF, k1, k2, k3⟩ := stage_facts3 (r := r) pl (by omega) hv
  have hle : Le S { S with w := { S.w with drawn := S.w.drawn + 1 } } :=
    ⟨rfl, rfl, rfl, Nat.le_refl _, fun _ h => h, fun _ _ => rfl, fun _ _ _ => rfl, Nat.le_refl _, fun _ c _ _ h => ⟨c, h, rfl⟩⟩
  have hH' : HRel { S with w := { S.w with drawn := S.w.drawn + 1 } } H :=
    ⟨hH.fresh, hH.immlt, fun i o ho => (hH.obj i o ho).keep hle (fun _ => rfl) (fun _ _ => rfl) (fun _ _ _ h => h), hH.inj⟩
  refine lift_wpOpsIn hle _ _ _ (draw_run3 (mm := mm) (sg := fun i => sg.getD i 0) pl hr l (fun _ => False) 0 sF ds H _ a hB (fun _ _ h => h.elim) (fun _ _ _ h => by omega)
    (fun i hi he hl _ => k3 i hi (by omega)) k1 hn hH' (hD.mono hle) ?_)
  intro t
  by_cases hx : ∃ k, k < ops.size ∧ (sg.getD k 0 % 2 = 0 ∧ sg.getD k 0 ≤ 2 * 0) ∧ (opAt ops.toList k).dst = some t
  · obtain ⟨k, a1, a2, a3⟩ := hx
    exact .inl ⟨k, a1, a2, fun h => h, a3⟩
  · right
    rw [k2 t (fun i hi h0 e => hx ⟨i, hi, ⟨by omega, by omega⟩, e⟩)]
    exact (hF t).mono hle

section
variable {r : Option Nat} {P : Program} {m : Option Tmp → Bool} {n : Nat} {k : List It} {s : Fr} {ds : List AD} {H : Hp} {Q : Post}
theorem vs_draw3 {id : Nat} {l : List Oper} (effs : List Nat) (plans : List Pln) (hok : draw3Ok P l.toArray effs plans = true) (h : ∀ p ∈ plans, VS none P m n (expand l [] p.2.2 p.2.1 k) s ds H Q) :
    VS none P m n (.code (.region id l.toArray true) :: k) s ds H Q := by
  show WPS none P n (.region id l.toArray true) s ds H (TK none P m n k Q)
  refine wps_draw3 (mm := m) effs plans (.inl rfl) hok fun p hp => ?_
  rw [List.toList_toArray, vcD_expand]; exact h p hp
end
end Go.V
end
section
set_option linter.unusedVariables false
namespace Go.V
def CutS {σ : Type} (inv : σ → Prop) (fr : σ → List (Nat × AV)) (hp : σ → Hp) (ds0 : List AD) : Post := fun e s ds H => match e with
  | .normal => Ent s ds H fun s2 ds2 H2 => ∃ x, inv x ∧ s2 = Fr.of (fr x) ∧ ds2 = ds0 ∧ H2 = hp x
  | _ => False
section
variable {P : Program} {m : Option Tmp → Bool} {n : Nat} {k : List It} {s : Fr} {ds : List AD} {H : Hp} {Q : Post}
end
end Go.V
end
section
set_option linter.unusedVariables false
set_option linter.unusedSimpArgs false
namespace Go.Proofs.Ytkonoggmdcdeeaa
open Go.V
def cn (p : Nat → Bool) : Nat → Nat
  | 0 => 0
  | n + 1 => cn p n + if p n = true then 1 else 0
def sm (g : Nat → Nat) : Nat → Nat
  | 0 => 0
  | n + 1 => sm g n + g n
def anyN (p : Nat → Bool) : Nat → Bool
  | 0 => false
  | n + 1 => anyN p n || p n
theorem anyN_iff (p : Nat → Bool) (n : Nat) : anyN p n = true ↔ ∃ s, s < n ∧ p s = true := by
  induction n with
  | zero => exact ⟨fun h => (by cases h), fun ⟨_, h, _⟩ => (by omega)⟩
  | succ n ih =>
    simp only [anyN, Bool.or_eq_true, ih]
    constructor
    · rintro (⟨s, h1, h2⟩ | h)
      · exact ⟨s, by omega, h2⟩
      · exact ⟨n, by omega, h⟩
    · rintro ⟨s, h1, h2⟩
      by_cases e : s = n
      · subst e; exact .inr h2
      · exact .inl ⟨s, by omega, h2⟩
theorem cn_congr {p q : Nat → Bool} {n : Nat} (h : ∀ s, s < n → p s = q s) : cn p n = cn q n := by
  induction n with
  | zero => rfl
  | succ n ih => simp only [cn, ih fun s hs => h s (by omega), h n (by omega)]
theorem cn_mono {p q : Nat → Bool} {n : Nat} (h : ∀ s, s < n → p s = true → q s = true) : cn p n ≤ cn q n := by
  induction n with
  | zero => exact Nat.le_refl _
  | succ n ih =>
    have := ih fun s hs => h s (by omega)
    have h2 := h n (by omega)
    simp only [cn]
    split
    · rename_i hp; rw [if_pos (h2 hp)]; omega
    · omega
theorem cn_split (p q : Nat → Bool) (n : Nat) : cn p n = cn (fun s => p s && q s) n + cn (fun s => p s && !q s) n := by
  induction n with
  | zero => rfl
  | succ n ih =>
    have key : ∀ a b : Bool, (if a = true then 1 else 0) = (if (a && b) = true then 1 else 0) + if (a && !b) = true then 1 else 0 := by decide
    simp only [cn, ih]
    rw [key (p n) (q n)]
    omega
theorem cn_zero {p : Nat → Bool} {n : Nat} : cn p n = 0 ↔ ∀ s, s < n → p s = false := by
  induction n with
  | zero => exact ⟨fun _ s h => by omega, fun _ => rfl⟩
  | succ n ih =>
    simp only [cn]
    constructor
    · intro h s hs
      by_cases e : s = n
      · subst e
        cases hp : p s with
        | false => rfl
        | true => rw [hp] at h; simp at h
      · exact ih.1 (by omega) s (by omega)
    · intro h
      rw [h n (by omega), ih.2 fun s hs => h s (by omega)]
      rfl
theorem cn_one {s n : Nat} (h : s < n) : cn (fun j => decide (j = s)) n = 1 := by
  induction n with
  | zero => omega
  | succ n ih =>
    simp only [cn]
    by_cases e : n = s
    · subst e
      rw [cn_zero.2 fun j hj => decide_eq_false (by omega), if_pos (by simp)]
    · rw [ih (by omega), if_neg (by simp [e])]
theorem sm_mono {f g : Nat → Nat} {n : Nat} (h : ∀ o, o < n → f o ≤ g o) : sm f n ≤ sm g n := by
  induction n with
  | zero => exact Nat.le_refl _
  | succ n ih =>
    have := ih fun s hs => h s (by omega)
    have := h n (by omega)
    simp only [sm]
    omega
theorem sm_add (f g : Nat → Nat) (n : Nat) : sm (fun o => f o + g o) n = sm f n + sm g n := by
  induction n with
  | zero => rfl
  | succ n ih => simp only [sm, ih]; omega
theorem sm_congr {f g : Nat → Nat} {n : Nat} (h : ∀ o, o < n → f o = g o) : sm f n = sm g n := by
  induction n with
  | zero => rfl
  | succ n ih => simp only [sm, ih fun s hs => h s (by omega), h n (by omega)]
theorem sm_one (a n : Nat) : sm (fun o => if o = a then 1 else 0) n ≤ 1 := by
  induction n with
  | zero => exact Nat.zero_le _
  | succ n ih =>
    simp only [sm]
    by_cases e : n = a
    · subst e
      have : sm (fun o => if o = n then 1 else 0) n = 0 := by
        have : ∀ m, m ≤ n → sm (fun o => if o = n then 1 else 0) m = 0 := by
          intro m
          induction m with
          | zero => intro _; rfl
          | succ m ih => intro hm; simp only [sm, ih (by omega)]; rw [if_neg (by omega)]
        exact this n (Nat.le_refl _)
      rw [this, if_pos rfl]
      exact Nat.le_refl _
    · rw [if_neg e]; omega
theorem sm_pos {f : Nat → Nat} {n : Nat} (h : 0 < sm f n) : ∃ o, o < n ∧ 0 < f o := by
  induction n with
  | zero => exact absurd h (Nat.lt_irrefl 0)
  | succ n ih =>
    by_cases e : 0 < f n
    · exact ⟨n, by omega, e⟩
    · simp only [sm] at h
      obtain ⟨o, h1, h2⟩ := ih (by omega)
      exact ⟨o, by omega, h2⟩
/-- A set is told by where its members go. -/
theorem cn_sum {p : Nat → Bool} {f : Nat → Nat} {O n : Nat} (h : ∀ s, s < n → p s = true → f s < O) : cn p n = sm (fun o => cn (fun s => p s && decide (f s = o)) n) O := by
  induction n with
  | zero =>
    have : ∀ O, sm (fun o => cn (fun s => p s && decide (f s = o)) 0) O = 0 := fun O => by
      induction O with
      | zero => rfl
      | succ O ih => simp only [sm, ih]; rfl
    rw [this]; rfl
  | succ n ih =>
    have e : sm (fun o => cn (fun s => p s && decide (f s = o)) (n + 1)) O = sm (fun o => cn (fun s => p s && decide (f s = o)) n) O + sm (fun o => if (p n && decide (f n = o)) = true then 1 else 0) O := by
      rw [← sm_add]
      exact sm_congr fun o _ => rfl
    rw [e, ← ih fun s hs => h s (by omega)]
    simp only [cn]
    congr 1
    cases hp : p n with
    | false =>
      have : ∀ O, sm (fun o => if (false && decide (f n = o)) = true then 1 else 0) O = 0 := fun O => by
        induction O with
        | zero => rfl
        | succ O ih => simp only [sm, ih]; rfl
      rw [this]; rfl
    | true =>
      have hf := h n (by omega) hp
      simp only [Bool.true_and, decide_eq_true_eq]
      have : ∀ m, sm (fun o => if f n = o then 1 else 0) m = if f n < m then 1 else 0 := fun m => by
        induction m with
        | zero => rfl
        | succ m ih =>
          simp only [sm, ih]
          by_cases e1 : f n < m
          · rw [if_pos e1, if_neg (by omega), if_pos (by omega)]
          · by_cases e2 : f n = m
            · rw [if_neg e1, if_pos e2, if_pos (by omega)]
            · rw [if_neg e1, if_neg e2, if_neg (by omega)]
      rw [this, if_pos hf, if_pos trivial]

section
variable (fit : Nat → Nat → Bool) (O N : Nat)
/-- Some strake of the set may be this owner's. -/
def nb (q : Nat → Bool) (o : Nat) : Bool := anyN (fun s => q s && fit o s) N
def cpN (cap : Nat → Nat) (q : Nat → Bool) : Nat := sm (fun o => if nb fit N q o = true then cap o else 0) O
structure Asg (cap : Nat → Nat) (p : Nat → Bool) (f : Nat → Nat) : Prop where
  fit : ∀ s, s < N → p s = true → f s < O ∧ fit (f s) s = true
  cap : ∀ o, o < O → cn (fun s => p s && decide (f s = o)) N ≤ cap o
variable {fit O N}
theorem Asg.need {cap : Nat → Nat} {p q : Nat → Bool} {f : Nat → Nat} (a : Asg fit O N cap p f) (h : ∀ s, s < N → q s = true → p s = true) : cn q N ≤ cpN fit O N cap q := by
  rw [cn_sum (f := f) (O := O) fun s hs hq => (a.fit s hs (h s hs hq)).1]
  refine sm_mono fun o ho => ?_
  by_cases e : nb fit N q o = true
  · rw [if_pos e]
    refine Nat.le_trans (cn_mono fun s hs hh => ?_) (a.cap o ho)
    rw [Bool.and_eq_true] at hh ⊢
    exact ⟨h s hs hh.1, hh.2⟩
  · rw [if_neg e, cn_zero.2]
    · exact Nat.le_refl _
    · intro s hs
      rw [← Bool.not_eq_true]
      intro hh
      rw [Bool.and_eq_true, decide_eq_true_eq] at hh
      exact e ((anyN_iff _ _).2 ⟨s, hs, by rw [Bool.and_eq_true]; exact ⟨hh.1, hh.2 ▸ (a.fit s hs (h s hs hh.1)).2⟩⟩)
theorem hall : ∀ (k : Nat) (p : Nat → Bool) (cap : Nat → Nat), cn p N = k → (∀ q, (∀ s, s < N → q s = true → p s = true) → cn q N ≤ cpN fit O N cap q) → ∃ f, Asg fit O N cap p f := by
  intro k
  induction k using Nat.strongRecOn with
  | ind k ih =>
    intro p cap hk hall
    by_cases hz : k = 0
    · subst hz
      rw [cn_zero] at hk
      exact ⟨fun _ => 0, fun s hs hp => (by rw [hk s hs] at hp; cases hp), fun o _ => by
        rw [cn_zero.2 fun s hs => by rw [hk s hs]; rfl]; exact Nat.zero_le _⟩
    · by_cases ht : ∃ T : Nat → Bool, (∀ s, s < N → T s = true → p s = true) ∧ 0 < cn T N ∧ cn T N < k ∧ cpN fit O N cap T = cn T N
      · obtain ⟨T, t1, t2, t3, t4⟩ := ht
        obtain ⟨f1, a1⟩ := ih (cn T N) t3 T cap rfl fun q hq => hall q fun s hs h => t1 s hs (hq s hs h)
        have hsp := cn_split p T N
        have eT : cn (fun s => p s && T s) N = cn T N := cn_congr fun s hs => by
          cases h : T s with
          | false => rw [Bool.and_false]
          | true => rw [t1 s hs h]; rfl
        obtain ⟨f2, a2⟩ := ih (cn (fun s => p s && !T s) N) (by omega) (fun s => p s && !T s) (fun o => if nb fit N T o = true then 0 else cap o) rfl fun V hV => by
          have hW := hall (fun s => T s || V s) fun s hs h => by
            rw [Bool.or_eq_true] at h
            rcases h with h | h
            · exact t1 s hs h
            · have := hV s hs h
              rw [Bool.and_eq_true] at this
              exact this.1
          have hs2 := cn_split (fun s => T s || V s) T N
          have e1 : cn (fun s => (T s || V s) && T s) N = cn T N := cn_congr fun s hs => by cases T s <;> simp
          have e2 : cn (fun s => (T s || V s) && !T s) N = cn V N := cn_congr fun s hs => by
            cases hv : V s with
            | false => cases T s <;> rfl
            | true =>
              have := hV s hs hv
              rw [Bool.and_eq_true] at this
              cases hT : T s with
              | false => rfl
              | true => rw [hT] at this; cases this.2
          have e3 : cpN fit O N cap (fun s => T s || V s) = cpN fit O N cap T + cpN fit O N (fun o => if nb fit N T o = true then 0 else cap o) V := by
            unfold cpN
            rw [← sm_add]
            refine sm_congr fun o _ => ?_
            have en : nb fit N (fun s => T s || V s) o = (nb fit N T o || nb fit N V o) := by
              rw [Bool.eq_iff_iff, Bool.or_eq_true]
              unfold nb
              rw [anyN_iff, anyN_iff, anyN_iff]
              constructor
              · rintro ⟨s, h1, h2⟩
                rw [Bool.and_eq_true, Bool.or_eq_true] at h2
                rcases h2.1 with h | h
                · exact .inl ⟨s, h1, by rw [h, h2.2]; rfl⟩
                · exact .inr ⟨s, h1, by rw [h, h2.2]; rfl⟩
              · rintro (⟨s, h1, h2⟩ | ⟨s, h1, h2⟩)
                · rw [Bool.and_eq_true] at h2
                  exact ⟨s, h1, by show ((T s || V s) && fit o s) = true; rw [h2.1, h2.2]; rfl⟩
                · rw [Bool.and_eq_true] at h2
                  exact ⟨s, h1, by show ((T s || V s) && fit o s) = true; rw [h2.1, h2.2, Bool.or_true]; rfl⟩
            rw [en]
            dsimp only
            cases nb fit N T o <;> cases nb fit N V o <;> simp
          omega
        refine ⟨fun s => if T s = true then f1 s else f2 s, fun s hs hp => ?_, fun o ho => ?_⟩
        · by_cases e : T s = true
          · simp only [e, if_true]
            exact a1.fit s hs e
          · simp only [e]
            exact a2.fit s hs (by rw [hp]; simpa using e)
        · have q1 := cn_split (fun s => p s && decide ((if T s = true then f1 s else f2 s) = o)) T N
          have q2 : cn (fun s => (p s && decide ((if T s = true then f1 s else f2 s) = o)) && T s) N = cn (fun s => T s && decide (f1 s = o)) N := cn_congr fun s hs => by
            cases h : T s with
            | false => simp
            | true => simp [t1 s hs h]
          have q3 : cn (fun s => (p s && decide ((if T s = true then f1 s else f2 s) = o)) && !T s) N = cn (fun s => (p s && !T s) && decide (f2 s = o)) N := cn_congr fun s hs => by
            cases h : T s with
            | true => simp
            | false => simp
          have c1 := a1.cap o ho
          have c2 := a2.cap o ho
          rw [q1, q2, q3]
          by_cases e : nb fit N T o = true
          · rw [if_pos e] at c2
            omega
          · rw [if_neg e] at c2
            have : cn (fun s => T s && decide (f1 s = o)) N = 0 := cn_zero.2 fun s hs => by
              rw [← Bool.not_eq_true]
              intro hh
              rw [Bool.and_eq_true, decide_eq_true_eq] at hh
              exact e ((anyN_iff _ _).2 ⟨s, hs, by rw [Bool.and_eq_true]; exact ⟨hh.1, hh.2 ▸ (a1.fit s hs hh.1).2⟩⟩)
            omega
      · obtain ⟨s0, hs0, hp0⟩ : ∃ s, s < N ∧ p s = true := by
          apply Classical.byContradiction
          intro hne
          apply hz
          rw [← hk, cn_zero]
          intro s hs
          rw [← Bool.not_eq_true]
          exact fun h => hne ⟨s, hs, h⟩
        have h1 := hall (fun s => decide (s = s0)) fun s hs h => by rw [of_decide_eq_true h]; exact hp0
        rw [cn_one hs0] at h1
        obtain ⟨o0, ho0, hpos⟩ := sm_pos (Nat.lt_of_lt_of_le Nat.zero_lt_one h1)
        have hnb : nb fit N (fun s => decide (s = s0)) o0 = true := by
          apply Classical.byContradiction
          intro h
          rw [if_neg h] at hpos
          exact Nat.lt_irrefl 0 hpos
        rw [if_pos hnb] at hpos
        have hfit : fit o0 s0 = true := by
          obtain ⟨s, _, h2⟩ := (anyN_iff _ _).1 hnb
          rw [Bool.and_eq_true, decide_eq_true_eq] at h2
          rw [← h2.1]; exact h2.2
        have hsp := cn_split p (fun s => decide (s = s0)) N
        have e1 : cn (fun s => p s && decide (s = s0)) N = 1 := by
          rw [← cn_one hs0]
          exact cn_congr fun s hs => by
            by_cases e : s = s0
            · subst e; rw [hp0]; simp
            · simp [e]
        obtain ⟨f, a⟩ := ih (cn (fun s => p s && !decide (s = s0)) N) (by omega) (fun s => p s && !decide (s = s0)) (fun o => cap o - if o = o0 then 1 else 0) rfl fun q hq => by
          have hqp : ∀ s, s < N → q s = true → p s = true := fun s hs h => by
            have := hq s hs h
            rw [Bool.and_eq_true] at this
            exact this.1
          have g1 := hall q hqp
          have g2 := cn_mono hq
          by_cases e0 : cn q N = 0
          · omega
          · have g3 : cpN fit O N cap q ≠ cn q N := fun e => ht ⟨q, hqp, by omega, by omega, e⟩
            have g4 : cpN fit O N cap q ≤ cpN fit O N (fun o => cap o - if o = o0 then 1 else 0) q + 1 := by
              have := sm_one o0 O
              refine Nat.le_trans ?_ (Nat.add_le_add_left this _)
              unfold cpN
              rw [← sm_add]
              refine sm_mono fun o _ => ?_
              by_cases en : nb fit N q o = true
              · rw [if_pos en, if_pos en]
                show cap o ≤ (cap o - if o = o0 then 1 else 0) + if o = o0 then 1 else 0
                omega
              · rw [if_neg en]; exact Nat.zero_le _
            omega
        refine ⟨fun s => if s = s0 then o0 else f s, fun s hs hp => ?_, fun o ho => ?_⟩
        · by_cases e : s = s0
          · simp only [e, if_true]
            exact ⟨ho0, hfit⟩
          · simp only [e, if_false]
            exact a.fit s hs (by rw [hp]; simp [e])
        · have q1 := cn_split (fun s => p s && decide ((if s = s0 then o0 else f s) = o)) (fun s => decide (s = s0)) N
          have q3 : cn (fun s => (p s && decide ((if s = s0 then o0 else f s) = o)) && !decide (s = s0)) N = cn (fun s => (p s && !decide (s = s0)) && decide (f s = o)) N := cn_congr fun s hs => by
            by_cases e : s = s0
            · simp [e]
            · simp [e]
          have c2 : cn (fun s => (p s && !decide (s = s0)) && decide (f s = o)) N ≤ cap o - if o = o0 then 1 else 0 := a.cap o ho
          rw [q1, q3]
          by_cases e : o = o0
          · have q2 : cn (fun s => (p s && decide ((if s = s0 then o0 else f s) = o)) && decide (s = s0)) N ≤ 1 := by
              rw [← cn_one hs0]
              refine cn_mono fun s hs h => ?_
              rw [Bool.and_eq_true] at h
              exact h.2
            rw [if_pos e] at c2
            subst e
            omega
          · have q2 : cn (fun s => (p s && decide ((if s = s0 then o0 else f s) = o)) && decide (s = s0)) N = 0 := cn_zero.2 fun s hs => by
              by_cases es : s = s0
              · simp [es, Ne.symm e]
              · simp [es]
            rw [if_neg e] at c2
            omega
/-- A set that cannot be marked, while it can without any one of it, has too few places. -/
theorem hall_least {cap : Nat → Nat} {p : Nat → Bool} (hno : ¬ ∃ f, Asg fit O N cap p f) (hmin : ∀ i, i < N → p i = true → ∃ f, Asg fit O N cap (fun s => p s && !decide (s = i)) f) : cpN fit O N cap p < cn p N := by
  apply Classical.byContradiction
  intro hge
  apply hno
  refine hall _ p cap rfl fun q hq => ?_
  by_cases hall : ∀ s, s < N → p s = true → q s = true
  · have e : ∀ s, s < N → q s = p s := fun s hs => by
      rw [Bool.eq_iff_iff]
      exact ⟨hq s hs, hall s hs⟩
    have e2 : cpN fit O N cap q = cpN fit O N cap p := sm_congr fun o _ => by
      have : nb fit N q o = nb fit N p o := by
        rw [Bool.eq_iff_iff]
        unfold nb
        rw [anyN_iff, anyN_iff]
        exact ⟨fun ⟨s, h1, h2⟩ => ⟨s, h1, by rw [← e s h1]; exact h2⟩, fun ⟨s, h1, h2⟩ => ⟨s, h1, by rw [e s h1]; exact h2⟩⟩
      rw [this]
    rw [cn_congr e, e2]
    omega
  · have : ∃ i, i < N ∧ p i = true ∧ q i = false := by
      apply Classical.byContradiction
      intro hne
      apply hall
      intro s hs hp
      apply Classical.byContradiction
      intro hnq
      exact hne ⟨s, hs, hp, by simpa using hnq⟩
    obtain ⟨i, hi, hpi, hqi⟩ := this
    obtain ⟨f, a⟩ := hmin i hi hpi
    refine a.need fun s hs h => ?_
    rw [hq s hs h]
    by_cases e : s = i
    · subst e; rw [hqi] at h; cases h
    · simp [e]
end
end Go.Proofs.Ytkonoggmdcdeeaa
end
section
set_option linter.unusedVariables false
set_option linter.unusedSimpArgs false
namespace Go.Proofs.Ytkonoggmdcdeeaa
open Go.V
theorem cntB_cn (l : List Int) (o : Nat) : cntB l (o : Int) = cn (fun s => decide (l.getD s 0 = (o : Int))) l.length := by
  have key : ∀ k, k ≤ l.length → cntB (l.take k) (o : Int) = cn (fun s => decide (l.getD s 0 = (o : Int))) k := by
    intro k
    induction k with
    | zero => intro _; rfl
    | succ k ih =>
      intro hk
      rw [take_snoc l k 0 (by omega), cntB_snoc, ih (by omega)]
      simp only [cn, decide_eq_true_eq]
  have := key l.length (Nat.le_refl _)
  rwa [List.take_length] at this
theorem cn_le_len {p : Nat → Bool} {a b : Nat} (h : a ≤ b) : cn p a ≤ cn p b := by
  induction b with
  | zero => rw [show a = 0 by omega]; exact Nat.le_refl _
  | succ b ih =>
    by_cases e : a = b + 1
    · rw [e]; exact Nat.le_refl _
    · have := ih (by omega)
      simp only [cn]; omega
theorem tru_room {x : Ir} {S : Nat} : ∀ {n : Nat} {b t : List Int}, t ∈ tru x S n b → (∀ o : Nat, o < x.ow.length → (cntB b (o : Int) : Int) ≤ x.mo.getD o 0) → ∀ o : Nat, o < x.ow.length → (cntB t (o : Int) : Int) ≤ x.mo.getD o 0 := by
  intro n
  induction n with
  | zero =>
    intro b t h hb
    simp only [tru, List.mem_singleton] at h
    subst h
    exact hb
  | succ n ih =>
    intro b t h hb
    cases hS : S.testBit b.length with
    | true =>
      rw [tru_yes hS, truP_mem] at h
      obtain ⟨o', ho', hc, h⟩ := h
      refine ih h fun o ho => ?_
      rw [cntB_snoc]
      simp only [canO, Bool.and_eq_true, decide_eq_true_eq] at hc
      have := hb o ho
      split
      · rename_i e
        have e2 : o' = o := by omega
        subst e2
        have := hc.2
        omega
      · omega
    | false =>
      rw [tru_no hS] at h
      refine ih h fun o ho => ?_
      rw [cntB_snoc, if_neg (by omega)]
      exact hb o ho
abbrev capI (x : Ir) (o : Nat) : Nat := (x.mo.getD o 0).toNat
abbrev AsgI (x : Ir) (S : Nat) (f : Nat → Nat) : Prop := Asg (fitB x) x.ow.length x.st.length (capI x) (fun s => S.testBit s) f
theorem tru_asg {x : Ir} (k : Ok x) {S : Nat} (h : truS x S ≠ []) : ∃ f, AsgI x S f := by
  obtain ⟨t, ht⟩ := List.exists_mem_of_ne_nil _ h
  unfold truS at ht
  obtain ⟨h1, _, h3⟩ := tru_mem ht
  simp only [List.length_nil, Nat.zero_add] at h1 h3
  refine ⟨fun s => (t.getD s 0).toNat, fun s hs hp => ?_, fun o ho => ?_⟩
  · obtain ⟨o, ho, e⟩ := (h3 s (Nat.zero_le _) hs).1 hp
    refine ⟨?_, tru_fit ht s (Nat.zero_le _) (by simp; exact hs) hp⟩
    rw [e, Int.toNat_natCast]; exact ho
  · have hr := tru_room ht (fun o ho => by
      have := (k.mo o ho).1
      have e : cntB [] (o : Int) = 0 := rfl
      rw [e]; omega) o ho
    rw [cntB_cn, h1] at hr
    have hm : cn (fun s => S.testBit s && decide ((t.getD s 0).toNat = o)) x.st.length ≤ cn (fun s => decide (t.getD s 0 = (o : Int))) x.st.length := cn_mono fun s hs hh => by
      rw [Bool.and_eq_true, decide_eq_true_eq] at hh
      obtain ⟨o', _, e⟩ := (h3 s (Nat.zero_le _) hs).1 hh.1
      rw [decide_eq_true_eq]
      have := hh.2
      omega
    show _ ≤ (x.mo.getD o 0).toNat
    omega
def begL (S : Nat) (f : Nat → Nat) (k : Nat) : List Int := (List.range k).map fun s => if S.testBit s = true then ((f s : Nat) : Int) else -1
theorem asg_tru {x : Ir} (k : Ok x) {S : Nat} {f : Nat → Nat} (a : AsgI x S f) : truS x S ≠ [] := by
  have key : ∀ n, n ≤ x.st.length → tru x S n (begL S f (x.st.length - n)) ≠ [] := by
    intro n
    induction n with
    | zero => intro _; simp [tru]
    | succ n ih =>
      intro hn
      have hl : (begL S f (x.st.length - (n + 1))).length = x.st.length - (n + 1) := by simp [begL]
      have hs : x.st.length - (n + 1) < x.st.length := by omega
      have e : begL S f (x.st.length - n) = begL S f (x.st.length - (n + 1)) ++ [if S.testBit (x.st.length - (n + 1)) = true then ((f (x.st.length - (n + 1)) : Nat) : Int) else -1] := by
        rw [show x.st.length - n = (x.st.length - (n + 1)) + 1 by omega]
        simp only [begL, List.range_succ, List.map_append, List.map_cons, List.map_nil]
      have ih := ih (by omega)
      rw [e] at ih
      generalize hj : x.st.length - (n + 1) = j at *
      cases hS : S.testBit j with
      | true =>
        rw [hS, if_pos rfl] at ih
        obtain ⟨g1, g2⟩ := a.fit j hs hS
        have hc := a.cap (f j) g1
        have hle : cn (fun s => S.testBit s && decide (f s = f j)) (j + 1) ≤ cn (fun s => S.testBit s && decide (f s = f j)) x.st.length := cn_le_len (by omega)
        have hm : cntB (begL S f j) ((f j : Nat) : Int) ≤ cn (fun s => S.testBit s && decide (f s = f j)) j := by
          rw [cntB_cn, hl]
          refine cn_mono fun s hs' hh => ?_
          rw [decide_eq_true_eq] at hh
          have es : (begL S f j).getD s 0 = if S.testBit s = true then ((f s : Nat) : Int) else -1 := getD_mapR _ _ _ _ hs'
          rw [es] at hh
          split at hh
          · rename_i q
            rw [q, decide_eq_true (by omega)]
            rfl
          · omega
        simp only [cn, hS, decide_true, Bool.and_self, if_true] at hle
        have hmo := k.mo (f j) g1
        have hcap : capI x (f j) = (x.mo.getD (f j) 0).toNat := rfl
        have hcan : canO x (begL S f j) (f j) = true := by
          simp only [canO, Bool.and_eq_true, decide_eq_true_eq, hl]
          refine ⟨g2, ?_⟩
          omega
        obtain ⟨t, ht⟩ := List.exists_mem_of_ne_nil _ ih
        rw [tru_yes (by rw [hl]; exact hS)]
        exact List.ne_nil_of_mem (truP_mem.2 ⟨f j, g1, hcan, ht⟩)
      | false =>
        rw [hS, if_neg (by decide)] at ih
        rw [tru_no (by rw [hl]; exact hS)]
        exact ih
  have := key x.st.length (Nat.le_refl _)
  rw [Nat.sub_self] at this
  exact this
/-- A least set that cannot be marked: to all owners whose iron fits one of them fewer were given. -/
theorem short_room {x : Ir} (k : Ok x) {r : Nat} (h : truS x r = []) (hm : ∀ i, i < x.st.length → r.testBit i = true → truS x (r ^^^ (r &&& 2 ^ i)) ≠ []) : cpN (fitB x) x.ow.length x.st.length (capI x) (fun s => r.testBit s) < cn (fun s => r.testBit s) x.st.length := by
  refine hall_least (fun ⟨f, a⟩ => asg_tru k a h) fun i hi hb => ?_
  obtain ⟨f, a⟩ := tru_asg k (hm i hi hb)
  have e : ∀ s, (r.testBit s && !decide (s = i)) = (r ^^^ (r &&& 2 ^ i)).testBit s := fun s => by
    rw [Nat.testBit_xor, Nat.testBit_and, Nat.testBit_two_pow]
    by_cases e : s = i
    · subst e; simp
    · rw [decide_eq_false e, decide_eq_false (fun q => e q.symm)]; simp
  have ef : (fun s => r.testBit s && !decide (s = i)) = fun s => (r ^^^ (r &&& 2 ^ i)).testBit s := funext e
  rw [ef]
  exact ⟨f, a⟩
theorem pop_cn : ∀ N, N < 7 → ∀ r, r < 64 → r < 2 ^ N → pop r = cn (fun s => r.testBit s) N := by decide +kernel
end Go.Proofs.Ytkonoggmdcdeeaa
end
section
set_option linter.unusedVariables false
set_option linter.unusedSimpArgs false
set_option maxHeartbeats 4000000
set_option maxRecDepth 100000
namespace Go.Proofs.Ytkonoggmdcdeeaa
open Go.V
/-- The strakes of a set, of the first ones. -/
def stL (x : Ir) (set : Nat) : Nat → List (List Mk)
  | 0 => []
  | i + 1 => if set.testBit i = true then stL x set i ++ [x.st.getD i []] else stL x set i
def stI (x : Ir) (set : Nat) : Ir := { x with st := stL x set x.st.length, cl := [] }
theorem stL_len (x : Ir) (set i : Nat) : (stL x set i).length ≤ i := by
  induction i with
  | zero => exact Nat.le_refl _
  | succ i ih =>
    simp only [stL]
    split
    · rw [List.length_append]; simp only [List.length_cons, List.length_nil]; omega
    · omega
theorem stL_mem {x : Ir} {set : Nat} {c : List Mk} : ∀ {i : Nat}, c ∈ stL x set i ↔ ∃ k, k < i ∧ set.testBit k = true ∧ c = x.st.getD k [] := by
  intro i
  induction i with
  | zero => simp [stL]
  | succ i ih =>
    simp only [stL]
    constructor
    · intro h
      split at h
      · rename_i hb
        rcases List.mem_append.1 h with h | h
        · obtain ⟨k, h1, h2⟩ := ih.1 h; exact ⟨k, by omega, h2⟩
        · rw [List.mem_singleton] at h; exact ⟨i, by omega, hb, h⟩
      · obtain ⟨k, h1, h2⟩ := ih.1 h; exact ⟨k, by omega, h2⟩
    · rintro ⟨k, h1, h2, h3⟩
      by_cases e : k = i
      · subst e
        rw [if_pos h2]
        exact List.mem_append_right _ (by rw [h3]; simp)
      · have := ih.2 ⟨k, by omega, h2, h3⟩
        split
        · exact List.mem_append_left _ this
        · exact this
theorem stI_ok {x : Ir} (k : Ok x) (set : Nat) : Ok (stI x set) := by
  have hl : (stI x set).st.length ≤ 6 := Nat.le_trans (stL_len x set x.st.length) k.nS
  have hm : ∀ i, i < (stI x set).st.length → ∃ q, q < x.st.length ∧ (stI x set).st.getD i [] = x.st.getD q [] := fun i hi => by
    obtain ⟨q, h1, _, h3⟩ := stL_mem.1 (mem_getD (stI x set).st i [] hi)
    exact ⟨q, h1, h3⟩
  refine ⟨k.F, k.nO, k.nM, hl, by show 0 ≤ 8; omega, k.ow, k.mo, k.ov, fun i hi => ?_, fun i hi => ?_, fun i hi => ?_, fun i hi => absurd hi (Nat.not_lt_zero i), fun i hi => absurd hi (Nat.not_lt_zero i)⟩
  · obtain ⟨q, h1, h2⟩ := hm i hi
    rw [h2]; exact k.st q h1
  · obtain ⟨q, h1, h2⟩ := hm i hi
    rw [h2]; exact k.sf q h1
  · obtain ⟨q, h1, h2⟩ := hm i hi
    rw [h2]; exact k.sl q h1
/-- The strakes of a set cannot all have been marked. -/
def shC (x : Ir) (set : Nat) : Bool := decide (countE (stI x set) = 0) && decide (countV (stI x set) = 0)
end Go.Proofs.Ytkonoggmdcdeeaa
end
section
set_option linter.unusedVariables false
set_option linter.unusedSimpArgs false
namespace Go.Proofs.Ytkonoggmdcdeeaa
open Go.V
theorem stL_pre (x : Ir) (set i : Nat) : ∀ d, ∃ r, stL x set (i + d) = stL x set i ++ r
  | 0 => ⟨[], by simp⟩
  | d + 1 => by
    obtain ⟨r, h⟩ := stL_pre x set i d
    show ∃ r, stL x set ((i + d) + 1) = _
    simp only [stL, h]
    split
    · exact ⟨r ++ [x.st.getD (i + d) []], by rw [List.append_assoc]⟩
    · exact ⟨r, rfl⟩
theorem stL_at {x : Ir} {set i N : Nat} (hi : i < N) (hb : set.testBit i = true) : (stL x set N).getD (stL x set i).length [] = x.st.getD i [] ∧ (stL x set i).length < (stL x set N).length := by
  obtain ⟨r, h⟩ := stL_pre x set (i + 1) (N - (i + 1))
  rw [show i + 1 + (N - (i + 1)) = N by omega] at h
  have e : stL x set (i + 1) = stL x set i ++ [x.st.getD i []] := by simp only [stL, hb, if_true]
  rw [e] at h
  rw [h]
  refine ⟨?_, by simp only [List.length_append, List.length_cons, List.length_nil]; omega⟩
  simp only [List.getD_eq_getElem?_getD, List.append_assoc]
  rw [List.getElem?_append_right (Nat.le_refl _), Nat.sub_self]
  rfl
theorem tru_stI (x : Ir) (set : Nat) : ∀ n b b', b.length + n = x.st.length → b'.length = (stL x set b.length).length → (∀ o : Nat, cntB b' (o : Int) = cntB b (o : Int)) →
    ((∃ t, t ∈ tru x set n b) ↔ ∃ t, t ∈ tru (stI x set) (2 ^ (stI x set).st.length - 1) ((stI x set).st.length - b'.length) b') := by
  intro n
  induction n with
  | zero =>
    intro b b' h1 h2 h3
    have e : (stI x set).st.length - b'.length = 0 := by
      rw [h2, show b.length = x.st.length by omega]
      exact Nat.sub_self _
    rw [e]
    simp only [tru]
    exact ⟨fun _ => ⟨b', by simp⟩, fun _ => ⟨b, by simp⟩⟩
  | succ n ih =>
    intro b b' h1 h2 h3
    cases hb : set.testBit b.length with
    | true =>
      obtain ⟨g1, g2⟩ := stL_at (x := x) (N := x.st.length) (by omega) hb
      have hlt : b'.length < (stI x set).st.length := by rw [h2]; exact g2
      have hbit : (2 ^ (stI x set).st.length - 1).testBit b'.length = true := full_bit _ _ hlt
      have e1 : (stL x set (b.length + 1)).length = b'.length + 1 := by
        simp only [stL, hb, if_true, List.length_append, List.length_cons, List.length_nil, h2]
      rw [show (stI x set).st.length - b'.length = ((stI x set).st.length - (b'.length + 1)) + 1 by omega, tru_yes hb, tru_yes hbit]
      have hcan : ∀ o, canO (stI x set) b' o = canO x b o := fun o => by
        have ef : fitB (stI x set) o b'.length = fitB x o b.length := by
          have : (stI x set).st.getD b'.length [] = x.st.getD b.length [] := by rw [h2]; exact g1
          unfold fitB
          rw [this]; rfl
        unfold canO
        rw [ef, h3 o]; rfl
      have hih : ∀ o : Nat, ((∃ t, t ∈ tru x set n (b ++ [(o : Int)])) ↔ ∃ t, t ∈ tru (stI x set) (2 ^ (stI x set).st.length - 1) ((stI x set).st.length - (b'.length + 1)) (b' ++ [(o : Int)])) := fun o => by
        have := ih (b ++ [(o : Int)]) (b' ++ [(o : Int)]) (by simp; omega) (by simp [e1]) (fun q => by rw [cntB_snoc, cntB_snoc, h3 q])
        rw [show (b' ++ [(o : Int)]).length = b'.length + 1 by simp] at this
        exact this
      simp only [truP_mem]
      constructor
      · rintro ⟨t, o, ho, hc, ht⟩
        obtain ⟨t', h'⟩ := (hih o).1 ⟨t, ht⟩
        exact ⟨t', o, ho, by rw [hcan]; exact hc, h'⟩
      · rintro ⟨t, o, ho, hc, ht⟩
        obtain ⟨t', h'⟩ := (hih o).2 ⟨t, ht⟩
        exact ⟨t', o, ho, by rw [← hcan]; exact hc, h'⟩
    | false =>
      rw [tru_no hb]
      have e1 : stL x set (b.length + 1) = stL x set b.length := by simp only [stL, hb, Bool.false_eq_true, if_false]
      exact ih (b ++ [-1]) b' (by simp; omega) (by rw [h2, show (b ++ [(-1 : Int)]).length = b.length + 1 by simp, e1]) (fun o => by rw [cntB_snoc, if_neg (by omega)]; exact h3 o)
theorem shC_eq {x : Ir} (k : Ok x) (set : Nat) : shC x set = shD x set := by
  have e : countE (stI x set) = 0 := errE_ok (stI_ok k set)
  have ev : countV (stI x set) = (truA (stI x set)).length := by rw [countV, if_pos e]
  have h := tru_stI x set x.st.length [] [] (by simp) rfl (fun _ => rfl)
  rw [shC, e, ev, shD, Bool.eq_iff_iff]
  simp only [decide_true, Bool.true_and, decide_eq_true_eq, List.length_eq_zero_iff]
  rw [List.eq_nil_iff_forall_not_mem, List.eq_nil_iff_forall_not_mem]
  unfold truA truS
  constructor
  · intro q t ht
    obtain ⟨t', h'⟩ := h.1 ⟨t, ht⟩
    exact q t' h'
  · intro q t ht
    obtain ⟨t', h'⟩ := h.2 ⟨t, ht⟩
    exact q t' h'
theorem pop_less6 : ∀ i, i < 6 → ∀ r, r < 64 → r.testBit i = true → pop (r ^^^ (r &&& 2 ^ i)) < pop r := by decide +kernel
theorem shD_iff (x : Ir) (set : Nat) : shD x set = true ↔ truS x set = [] := by rw [shD, decide_eq_true_eq, List.length_eq_zero_iff]
/-- To all owners whose iron fits one of them so many were given. -/
theorem short_cases {x : Ir} (k : Ok x) : (shortR x = none ∧ (truA x).length ≠ 0) ∨ ∃ r, shortR x = some r ∧ (truA x).length = 0 ∧ 1 ≤ r ∧ r < 2 ^ x.st.length ∧ shC x r = true ∧ (∀ i, i < x.st.length → r.testBit i = true → shC x (r ^^^ (r &&& 2 ^ i)) = false) ∧
    (∀ o, o < 2 ^ x.st.length → shC x o = true → pop r < pop o ∨ pop r = pop o ∧ r ≤ o) ∧ cpN (fitB x) x.ow.length x.st.length (capI x) (fun s => r.testBit s) < pop r := by
  have nS := k.nS
  have hp : 2 ^ x.st.length ≤ 2 ^ 6 := Nat.pow_le_pow_right (by decide) nS
  have he : shP x = shD x := by
    funext set
    rw [shP, shD, tlN_len k.gd]
  have hr := short_eq k
  have hA : shD x (2 ^ x.st.length - 1) = decide ((truA x).length = 0) := rfl
  cases hc : shortR x with
  | none =>
    left
    rw [hc] at hr
    refine ⟨rfl, ?_⟩
    unfold rset at hr
    split at hr
    · cases hr
    · rename_i q
      rw [hA] at q
      simpa using q
  | some r =>
    right
    have hs := hc
    rw [shortR, he] at hs
    have L := fewV_some hs
    have hlt := L.lt
    rw [hc] at hr
    have hz : (truA x).length = 0 := by
      unfold rset at hr
      split at hr
      · rename_i q
        rw [hA] at q
        exact of_decide_eq_true q
      · cases hr
    have hmin : ∀ i, i < x.st.length → r.testBit i = true → shD x (r ^^^ (r &&& 2 ^ i)) = false := fun i hi hb => by
      have hl : r ^^^ (r &&& 2 ^ i) < 2 ^ x.st.length := Nat.xor_lt_two_pow hlt (Nat.lt_of_le_of_lt Nat.and_le_left hlt)
      have h2 := pop_less6 i (by omega) r (by omega) hb
      rw [← Bool.not_eq_true]
      intro hh
      have := L.le _ hl hh
      omega
    refine ⟨r, rfl, hz, ?_, hlt, by rw [shC_eq k]; exact L.is, fun i hi hb => by rw [shC_eq k]; exact hmin i hi hb, fun o ho hco => L.le o ho (by rw [← shC_eq k]; exact hco), ?_⟩
    · apply Nat.pos_of_ne_zero
      rintro rfl
      have h0 := (shD_iff x 0).1 L.is
      have : AsgI x 0 (fun _ => 0) := ⟨fun s hs hb => (by rw [Nat.zero_testBit] at hb; cases hb), fun o _ => by
        rw [cn_zero.2 fun s hs => by rw [Nat.zero_testBit]; rfl]; exact Nat.zero_le _⟩
      exact asg_tru k this h0
    · rw [pop_cn x.st.length (by omega) r (by omega) hlt]
      exact short_room k ((shD_iff x r).1 L.is) fun i hi hb h => by
        have := hmin i hi hb
        rw [(shD_iff x _).2 h] at this
        cases this
end Go.Proofs.Ytkonoggmdcdeeaa
end
section
set_option linter.unusedVariables false
set_option linter.unusedSimpArgs false
set_option maxHeartbeats 4000000
set_option maxRecDepth 100000
namespace Go.Proofs.Ytkonoggmdcdeeaa
open Go.V
abbrev exM (l : List Mk) (m : Mk) : Nat → List AV := appF l.length 1 (appF 0 l.length (fun i => []) (mkF l)) (fun i => [[i64 m.f, i64 m.lo, i64 m.hi]].getD i [])
/-- What is left of the function once the three irons are made. -/
def MoreTail (x : Ir) (w c u : Int) (s o i16 i17 i18 : Nat) (H : Hp) (K : List It) (Q : Post) : Prop :=
  ∀ (y : Ir) (ib : Nat), LessI x y → (¬ ib = i16 ∧ ¬ ib = i17 ∧ ¬ ib = i18 ∧ H ib = none) →
    VS none Try.prog (mset [88, 91, 92, 95, 107, 113, 129, 131, 134, 142]) 270 K (Fr.of [(1, .lit (.int .u8 w)), (2, .lit (.int .u8 c)), (3, .lit (.int .u8 u)), (4, .rptr 1 5 (fun _ => x.cs) 0 0), (9, i64 s), (10, i64 o), (11, i64 ((truA x).length : Nat)), (13, i64 ((falseP x).1 : Nat)), (15, i64 (falseE x)), (16, .ref i16 0 5 0 0), (17, .ref i17 0 5 0 0), (18, .ref i18 0 5 0 0)]) []
      ((((H.set ib (.row 1 x.ow.length (intF x.mo))).set i18 (.box 5 1 fun _ => [i64 x.F, llAV x.ow, .sl ib 1 x.ow.length, stAV x.st, clAV x.cl])).set i16 (.box 5 1 fun _ => y.cs)).set i17 (.box 5 1 fun _ => (saidI x ⟨s, o, decide (u.tmod 2 = 0)⟩).cs)) Q
end Go.Proofs.Ytkonoggmdcdeeaa
end
section
set_option linter.unusedVariables false
set_option linter.unusedSimpArgs false
set_option maxHeartbeats 4000000
set_option maxRecDepth 100000
namespace Go.Proofs.Ytkonoggmdcdeeaa
open Go.V
/-- Irons, and who truly marked the strakes. -/
structure MadeI (x : Ir) (t : List Int) : Prop where
  ok : Ok x
  len : t.length = x.st.length
  own : ∀ s, s < x.st.length → 0 ≤ t.getD s 0 ∧ t.getD s 0 < x.ow.length
  fit : ∀ s, s < x.st.length → fitB x (t.getD s 0).toNat s = true
  room : ∀ o : Nat, o < x.ow.length → (cntB t (o : Int) : Int) ≤ x.mo.getD o 0
theorem cntB_take (l : List Int) (o : Int) (j : Nat) (hj : j < l.length) : cntB (l.take (j + 1)) o = cntB (l.take j) o + if l.getD j 0 = o then 1 else 0 := by
  rw [take_snoc l j 0 hj, cntB_snoc]
theorem cntB_take_le (l : List Int) (o : Int) (j : Nat) : cntB (l.take j) o ≤ cntB l o := by
  unfold cntB
  exact (List.take_sublist j l).countP_le
theorem MadeI.mem {x : Ir} {t : List Int} (h : MadeI x t) : t ∈ truA x := by
  have key : ∀ n, n ≤ x.st.length → t ∈ tru x (2 ^ x.st.length - 1) n (t.take (x.st.length - n)) := by
    intro n
    induction n with
    | zero =>
      intro _
      rw [tru, Nat.sub_zero, ← h.len, List.take_length]
      exact List.mem_singleton.2 rfl
    | succ n ih =>
      intro hn
      have ih := ih (by omega)
      have e : x.st.length - n = (x.st.length - (n + 1)) + 1 := by omega
      rw [e] at ih
      generalize hj : x.st.length - (n + 1) = j at *
      have hjl : j < t.length := by rw [h.len]; omega
      have hl : (t.take j).length = j := by rw [List.length_take]; omega
      have ho := h.own j (by omega)
      have eo : (((t.getD j 0).toNat : Nat) : Int) = t.getD j 0 := by omega
      rw [tru_yes (by rw [hl]; exact full_bit _ _ (by omega)), truP_mem]
      refine ⟨(t.getD j 0).toNat, by omega, ?_, ?_⟩
      · have h1 := h.room (t.getD j 0).toNat (by omega)
        have h2 := cntB_take t (((t.getD j 0).toNat : Nat) : Int) j hjl
        have h3 := cntB_take_le t (((t.getD j 0).toNat : Nat) : Int) (j + 1)
        rw [if_pos eo.symm] at h2
        simp only [canO, Bool.and_eq_true, decide_eq_true_eq, hl]
        exact ⟨h.fit j (by omega), by omega⟩
      · rw [eo, ← take_snoc t j 0 hjl]
        exact ih
  have := key x.st.length (Nat.le_refl _)
  rw [Nat.sub_self, List.take_zero] at this
  exact this
/-- How many claims are false, of the first ones. -/
def wrC (x : Ir) (t : List Int) : Nat → Nat
  | 0 => 0
  | k + 1 => wrC x t k + if rightT x t k = true then 0 else 1
theorem wrC_pop {x : Ir} (t : List Int) : ∀ n, n ≤ 8 → wrC x t n = pop (wrongN x t n) := by
  intro n
  induction n with
  | zero => intro _; simp [wrC, wrongN, pop, popN_zero]
  | succ n ih =>
    intro hn
    have ih := ih (by omega)
    have hw := wrongN_lt x t n
    have hp : 2 ^ n ≤ 2 ^ 7 := Nat.pow_le_pow_right (by decide) (by omega)
    simp only [wrC, wrongN, ih]
    split
    · rw [Nat.add_zero, Nat.add_zero]
    · rw [pop_add n (by omega) _ (by omega) hw]
theorem MadeI.falseE {x : Ir} {t : List Int} (h : MadeI x t) : falseE x = 0 := errE_told h.ok (List.length_pos_of_mem h.mem)
end Go.Proofs.Ytkonoggmdcdeeaa
end
section
set_option linter.unusedVariables false
set_option linter.unusedSimpArgs false
set_option maxHeartbeats 4000000
set_option maxRecDepth 100000
namespace Go.Proofs.Ytkonoggmdcdeeaa
open Go.V
abbrev u16 (n : Int) : AV := .lit (.int .u16 n)
def byF (b : Nat → Int) : Nat → List AV := fun i => [u16 (b i)]
abbrev drawAV (i4 N : Nat) (b : Nat → Int) : AV := .func (.func 72) [] [.ref i4 0 1 0 0, .rptr 1 1 (fun _ => [.rsl N 1 (byF b)]) 0 0]
/-- A number is drawn. -/
def drawR (i5 a : Nat) (n : Int) (H : Hp) : Res → Hp → Prop := fun r H' => ∃ v : Int, (0 ≤ v ∧ v < n) ∧ r = .ret (i64 v) ∧ H' = H.set i5 (.box 1 1 fun _ => [i64 ((a + 1 : Nat) : Int)])
/-- Irons while owners are drawn. -/
structure OwA (F : Int) (ow : List (List Int)) (mo : List Int) : Prop where
  hF : 0 ≤ F ∧ F ≤ 4
  nO : ow.length ≤ 5
  nM : mo.length = ow.length
  ow : ∀ l ∈ ow, (l.length : Int) = F ∧ ∀ v ∈ l, 0 ≤ v ∧ v ≤ 3
  mo : ∀ v ∈ mo, 0 ≤ v ∧ v ≤ 1
/-- A mark that was read rightly. -/
structure MkA (F : Int) (row : List Int) (m : Mk) : Prop where
  f : 0 ≤ m.f ∧ m.f < F
  v : 0 ≤ m.lo ∧ m.lo ≤ m.hi ∧ m.hi ≤ 9
  fit : fitM row m = true
/-- Strakes that are drawn. -/
structure StA (F : Int) (ow : List (List Int)) (st : List (List Mk)) (t : List Int) : Prop where
  n : st.length ≤ 6
  len : t.length = st.length
  own : ∀ s, s < st.length → 0 ≤ t.getD s 0 ∧ t.getD s 0 < ow.length
  mks : ∀ s, s < st.length → ((st.getD s []).length : Int) ≤ F ∧ ∀ m ∈ st.getD s [], MkA F (ow.getD (t.getD s 0).toNat []) m
structure ClA (ow : List (List Int)) (st : List (List Mk)) (cl : List Cl) : Prop where
  n : cl.length ≤ 8
  cl : ∀ c ∈ cl, (0 ≤ c.s ∧ c.s < st.length) ∧ 0 ≤ c.o ∧ c.o < ow.length

theorem app_mk (l : List Mk) (m : Mk) (g : Nat → List AV) (hg : g 0 = [i64 m.f, i64 m.lo, i64 m.hi]) : appF l.length 1 (mkF l) g = mkF (l ++ [m]) := app_lF (fun m : Mk => m.cs) mk0 l m g hg
theorem stF_frz2 {st : List (List Mk)} {l : List Mk} {il q c : Nat} (hq : q < st.length + 1) (hc : c < 1) :
    Frz il 3 l.length (mkF l) ((appF st.length 1 (stF st) (fun q => [[AV.sl il 3 l.length]].getD q []) q).getD c .any) ((stF (st ++ [l]) q).getD c .any) := by
  have hc0 : c = 0 := by omega
  subst hc0
  rw [appF_at (by omega)]
  simp only [stF, getD_snoc]
  by_cases e : q = st.length
  · rw [if_neg (by omega), if_pos e, e, Nat.sub_self]; exact Frz.hit
  · rw [if_pos (by omega), if_neg e]; exact Frz.rfl
/-- How many strakes each owner marked, of the first ones. -/
def cnF (t : List Int) (i : Nat) : Nat → List AV := fun o => [i64 (cntB (t.take i) (o : Int) : Nat)]
/-- How many strakes were given to each owner. -/
def moD (mo t : List Int) (j : Nat) : Int := min 6 (mo.getD j 0 + (cntB t (j : Int) : Nat))
def moF (mo t : List Int) (i : Nat) : Nat → List AV := fun j => [i64 (if j < i then moD mo t j else mo.getD j 0)]
def moL (mo t : List Int) (n : Nat) : List Int := (List.range n).map (moD mo t)
/-- Irons, and a truth, are made. -/
def madeR (H : Hp) : Res → Hp → Prop := fun r H' => ∃ (x : Ir) (t : List Int), MadeI x t ∧ r = .ret (.tuple [x.av, intsAV t]) ∧ H' = H
end Go.Proofs.Ytkonoggmdcdeeaa
end
section
set_option linter.unusedVariables false
set_option linter.unusedSimpArgs false
namespace Go.Proofs.Ytkonoggmdcdeeaa
open Go.V
def revM (l : List Mk) : List Mk := (List.range l.length).map fun k => l.getD (l.length - 1 - k) mk0
def flC (n m : Nat) (c : Cl) : Cl := ⟨(m : Int) - 1 - c.s, (n : Int) - 1 - c.o, c.nt⟩
/-- The same irons, numbered from the other end. -/
def turnI (x : Ir) : Ir where
  F := x.F
  ow := (List.range x.ow.length).map fun i => x.ow.getD (x.ow.length - 1 - i) []
  mo := (List.range x.ow.length).map fun i => x.mo.getD (x.ow.length - 1 - i) 0
  st := (List.range x.st.length).map fun i => revM (x.st.getD (x.st.length - 1 - i) [])
  cl := (List.range x.cl.length).map fun i => flC x.ow.length x.st.length (x.cl.getD (x.cl.length - 1 - i) cl0)
def turnT (x : Ir) (t : List Int) : List Int := (List.range x.st.length).map fun i => (x.ow.length : Int) - 1 - t.getD (x.st.length - 1 - i) 0

theorem turn_nO (x : Ir) : (turnI x).ow.length = x.ow.length := by simp [turnI]
theorem turn_nM (x : Ir) : (turnI x).mo.length = x.ow.length := by simp [turnI]
theorem turn_nS (x : Ir) : (turnI x).st.length = x.st.length := by simp [turnI]
theorem turn_nC (x : Ir) : (turnI x).cl.length = x.cl.length := by simp [turnI]
theorem turn_ow {x : Ir} {i : Nat} (h : i < x.ow.length) : (turnI x).ow.getD i [] = x.ow.getD (x.ow.length - 1 - i) [] := getD_mapR _ _ _ _ h
theorem turn_mo {x : Ir} {i : Nat} (h : i < x.ow.length) : (turnI x).mo.getD i 0 = x.mo.getD (x.ow.length - 1 - i) 0 := getD_mapR _ _ _ _ h
theorem turn_st {x : Ir} {i : Nat} (h : i < x.st.length) : (turnI x).st.getD i [] = revM (x.st.getD (x.st.length - 1 - i) []) := getD_mapR _ _ _ _ h
theorem turn_cl {x : Ir} {i : Nat} (h : i < x.cl.length) : (turnI x).cl.getD i cl0 = flC x.ow.length x.st.length (x.cl.getD (x.cl.length - 1 - i) cl0) := getD_mapR _ _ _ _ h
theorem turnT_len (x : Ir) (t : List Int) : (turnT x t).length = x.st.length := by simp [turnT]
theorem turnT_at {x : Ir} {t : List Int} {i : Nat} (h : i < x.st.length) : (turnT x t).getD i 0 = (x.ow.length : Int) - 1 - t.getD (x.st.length - 1 - i) 0 := getD_mapR _ _ _ _ h
theorem revM_len (l : List Mk) : (revM l).length = l.length := by simp [revM]
theorem revM_at {l : List Mk} {k : Nat} (h : k < l.length) : (revM l).getD k mk0 = l.getD (l.length - 1 - k) mk0 := getD_mapR _ _ _ _ h
theorem ext_getD {α : Type} {a b : List α} (d : α) (hl : a.length = b.length) (h : ∀ i, i < b.length → a.getD i d = b.getD i d) : a = b := by
  refine List.ext_getElem hl fun i h1 h2 => ?_
  have := h i h2
  rwa [List.getD_eq_getElem?_getD, List.getD_eq_getElem?_getD, List.getElem?_eq_getElem h1, List.getElem?_eq_getElem h2] at this
theorem revM_revM (l : List Mk) : revM (revM l) = l := by
  refine ext_getD mk0 (by rw [revM_len, revM_len]) fun i hi => ?_
  rw [revM_at (by rw [revM_len]; exact hi), revM_len, revM_at (by omega)]
  congr 1; omega
theorem revM_mem {l : List Mk} {m : Mk} : m ∈ revM l ↔ m ∈ l := by
  have key : ∀ l : List Mk, m ∈ revM l → m ∈ l := fun l h => by
    obtain ⟨k, hk, e⟩ := getD_mem mk0 h
    rw [revM_len] at hk
    rw [revM_at hk] at e
    rw [← e]
    exact mem_getD _ _ _ (by omega)
  refine ⟨key l, fun h => ?_⟩
  have := key (revM l) (by rw [revM_revM]; exact h)
  exact this
theorem turn_turn {x : Ir} (h : x.mo.length = x.ow.length) : turnI (turnI x) = x := by
  have e1 : (turnI (turnI x)).ow = x.ow := by
    refine ext_getD [] (by rw [turn_nO, turn_nO]) fun i hi => ?_
    rw [turn_ow (by rw [turn_nO]; exact hi), turn_nO, turn_ow (by omega)]
    congr 1; omega
  have e2 : (turnI (turnI x)).mo = x.mo := by
    refine ext_getD 0 (by rw [turn_nM, turn_nO, h]) fun i hi => ?_
    rw [turn_mo (by rw [turn_nO]; omega), turn_nO, turn_mo (by omega)]
    congr 1; omega
  have e3 : (turnI (turnI x)).st = x.st := by
    refine ext_getD [] (by rw [turn_nS, turn_nS]) fun i hi => ?_
    rw [turn_st (by rw [turn_nS]; exact hi), turn_nS, turn_st (by omega), revM_revM]
    congr 1; omega
  have e4 : (turnI (turnI x)).cl = x.cl := by
    refine ext_getD cl0 (by rw [turn_nC, turn_nC]) fun i hi => ?_
    rw [turn_cl (by rw [turn_nC]; exact hi), turn_nO, turn_nS, turn_nC, turn_cl (by omega)]
    rw [show x.cl.length - 1 - (x.cl.length - 1 - i) = i by omega]
    generalize x.cl.getD i cl0 = c
    cases c
    simp only [flC, Cl.mk.injEq]
    exact ⟨by omega, by omega, trivial⟩
  cases x
  simp only [turnI] at e1 e2 e3 e4 ⊢
  rw [e1, e2, e3, e4]
theorem turnT_turnT {x : Ir} {t : List Int} (h : t.length = x.st.length) : turnT (turnI x) (turnT x t) = t := by
  refine ext_getD 0 (by rw [turnT_len, turn_nS, h]) fun i hi => ?_
  rw [turnT_at (by rw [turn_nS]; omega), turn_nO, turn_nS, turnT_at (by omega), show x.st.length - 1 - (x.st.length - 1 - i) = i by omega]
  omega
theorem turn_ok {x : Ir} (k : Ok x) : Ok (turnI x) := by
  have nM := k.nM
  refine ⟨k.F, by rw [turn_nO]; exact k.nO, by rw [turn_nM, turn_nO], by rw [turn_nS]; exact k.nS, by rw [turn_nC]; exact k.nC, fun i hi => ?_, fun i hi => ?_, fun i hi => ?_, fun i hi => ?_, fun i hi => ?_, fun i hi => ?_, fun i hi => ?_, fun i hi => ?_⟩
  · rw [turn_nO] at hi
    rw [turn_ow hi]
    exact k.ow _ (by omega)
  · rw [turn_nO] at hi
    rw [turn_mo hi]
    exact k.mo _ (by omega)
  · rw [turn_nO] at hi
    rw [turn_ow hi]
    exact k.ov _ (by omega)
  · rw [turn_nS] at hi
    rw [turn_st hi, revM_len]
    exact k.st _ (by omega)
  · rw [turn_nS] at hi
    rw [turn_st hi, revM_len]
    intro j hj
    rw [revM_at hj]
    exact k.sf _ (by omega) _ (by omega)
  · rw [turn_nS] at hi
    rw [turn_st hi, revM_len]
    intro j hj
    rw [revM_at hj]
    exact k.sl _ (by omega) _ (by omega)
  · rw [turn_nC] at hi
    rw [turn_cl hi, turn_nS]
    have := k.cs (x.cl.length - 1 - i) (by omega)
    simp only [flC]
    omega
  · rw [turn_nC] at hi
    rw [turn_cl hi, turn_nO]
    have := k.co (x.cl.length - 1 - i) (by omega)
    simp only [flC]
    omega
theorem fit_turn {x : Ir} {o s : Nat} (ho : o < x.ow.length) (hs : s < x.st.length) : fitB (turnI x) o s = fitB x (x.ow.length - 1 - o) (x.st.length - 1 - s) := by
  unfold fitB
  rw [turn_st hs, turn_ow ho, Bool.eq_iff_iff, List.all_eq_true, List.all_eq_true]
  exact ⟨fun h m hm => h m (revM_mem.2 hm), fun h m hm => h m (revM_mem.1 hm)⟩
theorem cn_shift (p : Nat → Bool) (n : Nat) : cn p (n + 1) = (if p 0 = true then 1 else 0) + cn (fun s => p (s + 1)) n := by
  induction n with
  | zero => simp [cn]
  | succ n ih => rw [cn, ih]; simp only [cn]; omega
theorem cn_rev (n : Nat) : ∀ p : Nat → Bool, cn (fun s => p (n - 1 - s)) n = cn p n := by
  induction n with
  | zero => intro p; rfl
  | succ n ih =>
    intro p
    rw [cn_shift]
    have e : (fun s => p (n + 1 - 1 - (s + 1))) = fun s => p (n - 1 - s) := by funext s; congr 1; omega
    rw [e, ih p]
    show (if p (n - 0) = true then 1 else 0) + cn p n = cn p n + if p n = true then 1 else 0
    rw [Nat.sub_zero]; omega
theorem cn_eq {p q : Nat → Bool} (n : Nat) (h : ∀ s, s < n → p s = q s) : cn p n = cn q n := by
  induction n with
  | zero => rfl
  | succ n ih => rw [cn, cn, ih fun s hs => h s (by omega), h n (by omega)]
theorem turn_made {x : Ir} {t : List Int} (h : MadeI x t) : MadeI (turnI x) (turnT x t) := by
  refine ⟨turn_ok h.ok, by rw [turnT_len, turn_nS], fun s hs => ?_, fun s hs => ?_, fun o ho => ?_⟩
  · rw [turn_nS] at hs
    rw [turnT_at hs, turn_nO]
    have := h.own (x.st.length - 1 - s) (by omega)
    omega
  · rw [turn_nS] at hs
    have h1 := h.own (x.st.length - 1 - s) (by omega)
    have h2 := h.fit (x.st.length - 1 - s) (by omega)
    rw [turnT_at hs, fit_turn (by omega) hs]
    rw [show x.ow.length - 1 - ((x.ow.length : Int) - 1 - t.getD (x.st.length - 1 - s) 0).toNat = (t.getD (x.st.length - 1 - s) 0).toNat by omega]
    exact h2
  · rw [turn_nO] at ho
    have h1 := h.room (x.ow.length - 1 - o) (by omega)
    rw [turn_mo ho]
    have e : cntB (turnT x t) (o : Int) = cntB t ((x.ow.length - 1 - o : Nat) : Int) := by
      rw [cntB_cn, cntB_cn, turnT_len, h.len, ← cn_rev x.st.length fun s => decide (t.getD s 0 = ((x.ow.length - 1 - o : Nat) : Int))]
      refine cn_eq _ fun s hs => ?_
      simp only [turnT_at hs]
      rw [decide_eq_decide]
      omega
    rw [e]
    exact h1
theorem made_iff {x : Ir} (k : Ok x) {t : List Int} : t ∈ truA x ↔ MadeI x t := by
  refine ⟨fun h => ?_, fun h => h.mem⟩
  obtain ⟨h1, h2⟩ := truA_mem h
  refine ⟨k, h1, fun s hs => ?_, fun s hs => ?_, ?_⟩
  · obtain ⟨o, ho, e⟩ := h2 s hs
    omega
  · exact tru_fit h s (Nat.zero_le _) (by simpa using hs) (full_bit _ _ hs)
  · refine tru_room h fun o ho => ?_
    have := k.mo o ho
    simp only [cntB, List.countP_nil]
    omega
theorem turn_mem {x : Ir} (k : Ok x) {t : List Int} (h : t ∈ truA x) : turnT x t ∈ truA (turnI x) := (turn_made ((made_iff k).1 h)).mem
theorem tru_nodup (x : Ir) (S : Nat) : ∀ n b, (tru x S n b).Nodup := by
  intro n
  induction n with
  | zero => intro b; simp [tru]
  | succ n ih =>
    intro b
    cases hS : S.testBit b.length with
    | true =>
      rw [tru_yes hS, truP, List.Nodup, List.pairwise_flatMap]
      refine ⟨fun o _ => ?_, ?_⟩
      · split
        · exact ih _
        · exact List.Pairwise.nil
      · refine List.Pairwise.imp_of_mem ?_ List.nodup_range
        intro o1 o2 _ _ hne t1 h1 t2 h2 e
        subst e
        have q : ∀ o : Nat, t1 ∈ (if canO x b o = true then tru x S n (b ++ [(o : Int)]) else []) → t1.getD b.length 0 = (o : Int) := fun o h => by
          split at h
          · have := (tru_mem h).2.1 b.length (by simp)
            rw [this, getD_snoc, if_pos rfl]
          · simp at h
        have a1 := q o1 h1
        have a2 := q o2 h2
        omega
    | false => rw [tru_no hS]; exact ih _
theorem nodup_len {α : Type} [BEq α] [LawfulBEq α] : ∀ {l l' : List α}, l.Nodup → (∀ a ∈ l, a ∈ l') → l.length ≤ l'.length := by
  intro l
  induction l with
  | nil => intro l' _ _; exact Nat.zero_le _
  | cons a l ih =>
    intro l' hn hs
    rw [List.nodup_cons] at hn
    have ha := hs a (List.mem_cons_self)
    have := ih (l' := l'.erase a) hn.2 fun c hc => (List.mem_erase_of_ne (fun e => hn.1 (by rw [← e]; exact hc))).2 (hs c (List.mem_cons_of_mem _ hc))
    rw [List.length_erase_of_mem ha] at this
    have := List.length_pos_of_mem ha
    simp only [List.length_cons]
    omega
theorem map_nodup {α β : Type} {f : α → β} {l : List α} (hn : l.Nodup) (hf : ∀ a ∈ l, ∀ b ∈ l, f a = f b → a = b) : (l.map f).Nodup := by
  rw [List.Nodup, List.pairwise_map]
  exact List.Pairwise.imp_of_mem (fun ha hb hne e => hne (hf _ ha _ hb e)) hn
theorem turn_le {x : Ir} (k : Ok x) : (truA x).length ≤ (truA (turnI x)).length := by
  have h := nodup_len (l := (truA x).map (turnT x)) (l' := truA (turnI x)) (map_nodup (tru_nodup x _ _ _) fun a ha b hb e => by
    have e1 := congrArg (turnT (turnI x)) e
    rwa [turnT_turnT (truA_mem ha).1, turnT_turnT (truA_mem hb).1] at e1) fun t ht => by
    obtain ⟨a, ha, rfl⟩ := List.mem_map.1 ht
    exact turn_mem k ha
  rwa [List.length_map] at h
theorem turn_count {x : Ir} (k : Ok x) : (truA (turnI x)).length = (truA x).length := by
  have h1 := turn_le k
  have h2 := turn_le (turn_ok k)
  rw [turn_turn k.nM] at h2
  omega
end Go.Proofs.Ytkonoggmdcdeeaa
end
section
set_option linter.unusedVariables false
set_option linter.unusedSimpArgs false
namespace Go.Proofs.Ytkonoggmdcdeeaa
open Go.V
theorem turn_right {x : Ir} (k : Ok x) {t : List Int} (ht : t.length = x.st.length) {i : Nat} (hi : i < x.cl.length) : rightT (turnI x) (turnT x t) i = rightT x t (x.cl.length - 1 - i) := by
  unfold rightT
  have hc := k.cs (x.cl.length - 1 - i) (by omega)
  rw [turn_cl hi]
  generalize x.cl.getD (x.cl.length - 1 - i) cl0 = c at *
  have e : (turnT x t).getD ((x.st.length : Int) - 1 - c.s).toNat 0 = (x.ow.length : Int) - 1 - t.getD c.s.toNat 0 := by
    rw [turnT_at (by omega), show x.st.length - 1 - ((x.st.length : Int) - 1 - c.s).toNat = c.s.toNat by omega]
  have e2 : decide ((turnT x t).getD ((x.st.length : Int) - 1 - c.s).toNat 0 = (x.ow.length : Int) - 1 - c.o) = decide (t.getD c.s.toNat 0 = c.o) := decide_eq_decide.2 (by omega)
  show (!(decide ((turnT x t).getD ((x.st.length : Int) - 1 - c.s).toNat 0 = (x.ow.length : Int) - 1 - c.o) == c.nt)) = !(decide (t.getD c.s.toNat 0 = c.o) == c.nt)
  rw [e2]
theorem wrC_cn (x : Ir) (t : List Int) (n : Nat) : wrC x t n = cn (fun i => !rightT x t i) n := by
  induction n with
  | zero => rfl
  | succ n ih =>
    rw [wrC, cn, ih]
    by_cases h : rightT x t n = true
    · rw [if_pos h, if_neg (by rw [h]; decide)]
    · rw [if_neg h, if_pos (by simpa using h)]
theorem popW_cn {x : Ir} (k : Ok x) (t : List Int) : popW x t = cn (fun i => !rightT x t i) x.cl.length := by
  rw [← wrC_cn, wrC_pop t _ k.nC]; rfl
theorem turn_pop {x : Ir} (k : Ok x) {t : List Int} (ht : t.length = x.st.length) : popW (turnI x) (turnT x t) = popW x t := by
  rw [popW_cn (turn_ok k), popW_cn k, turn_nC, ← cn_rev x.cl.length fun i => !rightT x t i]
  exact cn_eq _ fun i hi => by rw [turn_right k ht hi]
theorem turn_falseE {x : Ir} (k : Ok x) : falseE (turnI x) = falseE x := by
  by_cases h : (truA x).length = 0
  · rw [show falseE x = 10 from errE_clash k h, show falseE (turnI x) = 10 from errE_clash (turn_ok k) (by rw [turn_count k]; exact h)]
  · rw [show falseE x = 0 from errE_told k (by omega), show falseE (turnI x) = 0 from errE_told (turn_ok k) (by rw [turn_count k]; omega)]
theorem few_le {x : Ir} (k : Ok x) (h : 0 < (truA x).length) : (falseP (turnI x)).1 ≤ (falseP x).1 := by
  obtain ⟨t0, f⟩ := false_spec k h
  obtain ⟨t1, g⟩ := false_spec (turn_ok k) (by rw [turn_count k]; exact h)
  have := g.le _ (turn_mem k f.mem)
  rw [turn_pop k (truA_mem f.mem).1] at this
  rw [f.val, g.val]
  show popW (turnI x) t1 ≤ popW x t0
  omega
theorem turn_few {x : Ir} (k : Ok x) : (falseP (turnI x)).1 = (falseP x).1 := by
  by_cases h : 0 < (truA x).length
  · have h1 := few_le k h
    have h2 := few_le (turn_ok k) (by rw [turn_count k]; exact h)
    rw [turn_turn k.nM] at h2
    omega
  · have e1 : falseE x = 10 := errE_clash k (by omega)
    have e2 : falseE (turnI x) = 10 := by rw [turn_falseE k, e1]
    rw [falseP, falseP, e1, e2]; rfl
theorem turn_can {x : Ir} (k : Ok x) {s o : Nat} (hs : s < x.st.length) (ho : o < x.ow.length) : (who (truA (turnI x)) (x.st.length - 1 - s)).testBit (x.ow.length - 1 - o) = (who (truA x) s).testBit o := by
  have hsy : x.st.length - 1 - s < (turnI x).st.length := by rw [turn_nS]; omega
  have key : ∀ {x : Ir} (k : Ok x) {s o : Nat} (hs : s < x.st.length) (ho : o < x.ow.length), (who (truA x) s).testBit o = true → (who (truA (turnI x)) (x.st.length - 1 - s)).testBit (x.ow.length - 1 - o) = true := by
    intro x k s o hs ho h
    obtain ⟨t, ht, e⟩ := (who_bit (truA_own k hs) o).1 h
    refine (who_bit (truA_own (turn_ok k) (by rw [turn_nS]; omega)) _).2 ⟨_, turn_mem k ht, ?_⟩
    rw [turnT_at (by omega), show x.st.length - 1 - (x.st.length - 1 - s) = s by omega]
    omega
  rw [Bool.eq_iff_iff]
  refine ⟨fun h => ?_, key k hs ho⟩
  have := key (turn_ok k) hsy (o := x.ow.length - 1 - o) (by rw [turn_nO]; omega) h
  rw [turn_turn k.nM, turn_nS, turn_nO] at this
  rwa [show x.st.length - 1 - (x.st.length - 1 - s) = s by omega, show x.ow.length - 1 - (x.ow.length - 1 - o) = o by omega] at this
theorem turn_best {x : Ir} (k : Ok x) {t : List Int} (h : t ∈ bestL x) : turnT x t ∈ bestL (turnI x) := by
  obtain ⟨h1, h2⟩ := bestL_iff.1 h
  refine bestL_iff.2 ⟨turn_mem k h1, fun t' ht' => ?_⟩
  have h3 := turn_mem (turn_ok k) ht'
  rw [turn_turn k.nM] at h3
  have h4 := h2 _ h3
  have h5 := turn_pop (turn_ok k) (truA_mem ht').1
  rw [turn_turn k.nM] at h5
  rw [turn_pop k (truA_mem h1).1]
  omega
theorem turn_lik {x : Ir} (k : Ok x) {s o : Nat} (hs : s < x.st.length) (ho : o < x.ow.length) : (likN (turnI x) (x.st.length - 1 - s) x.ow.length).testBit (x.ow.length - 1 - o) = (likN x s x.ow.length).testBit o := by
  have hsy : x.st.length - 1 - s < (turnI x).st.length := by rw [turn_nS]; omega
  have key : ∀ {x : Ir} (k : Ok x) {s o : Nat} (hs : s < x.st.length) (ho : o < x.ow.length), (likN x s x.ow.length).testBit o = true → (likN (turnI x) (x.st.length - 1 - s) x.ow.length).testBit (x.ow.length - 1 - o) = true := by
    intro x k s o hs ho h
    rw [likN_bit, Bool.and_eq_true] at h
    obtain ⟨t, ht, e⟩ := (likB_iff k hs ho).1 h.2
    rw [likN_bit, decide_eq_true (by omega), Bool.true_and]
    refine (likB_iff (turn_ok k) (by rw [turn_nS]; omega) (by rw [turn_nO]; omega)).2 ⟨_, turn_best k ht, ?_⟩
    rw [turnT_at (by omega), show x.st.length - 1 - (x.st.length - 1 - s) = s by omega]
    omega
  rw [Bool.eq_iff_iff]
  refine ⟨fun h => ?_, key k hs ho⟩
  rw [← turn_nO x] at h
  have := key (turn_ok k) hsy (o := x.ow.length - 1 - o) (by rw [turn_nO]; omega) (by rw [turn_nO] at h ⊢; exact h)
  rw [turn_turn k.nM, turn_nS, turn_nO] at this
  rwa [show x.st.length - 1 - (x.st.length - 1 - s) = s by omega, show x.ow.length - 1 - (x.ow.length - 1 - o) = o by omega] at this
theorem turn_claim {x : Ir} (k : Ok x) {i : Nat} (hi : i < x.cl.length) : claimV (turnI x) ((x.cl.length - 1 - i : Nat) : Int) = claimV x i ∧ claimE (turnI x) ((x.cl.length - 1 - i : Nat) : Int) = claimE x i := by
  have v1 : numB x (i : Int) = true := (numB_iff _ _).2 (by omega)
  have v2 : numB (turnI x) ((x.cl.length - 1 - i : Nat) : Int) = true := (numB_iff _ _).2 (by rw [turn_nC]; omega)
  by_cases h : (truA x).length = 0
  · have e1 : claimE x i = 10 := by unfold claimE; rw [v1]; exact errE_clash k h
    have e2 : claimE (turnI x) ((x.cl.length - 1 - i : Nat) : Int) = 10 := by unfold claimE; rw [v2]; exact errE_clash (turn_ok k) (by rw [turn_count k]; exact h)
    exact ⟨by rw [claimV, claimV, e1, e2]; rfl, by rw [e1, e2]⟩
  · have e1 : claimE x i = 0 := by unfold claimE; rw [v1]; exact errE_told k (by omega)
    have e2 : claimE (turnI x) ((x.cl.length - 1 - i : Nat) : Int) = 0 := by unfold claimE; rw [v2]; exact errE_told (turn_ok k) (by rw [turn_count k]; omega)
    refine ⟨?_, by rw [e1, e2]⟩
    rw [claimV, claimV, if_pos e1, if_pos e2, Int.toNat_natCast, Int.toNat_natCast]
    have key : ∀ (P : Bool → Prop), (∀ t ∈ truA (turnI x), P (rightT (turnI x) t (x.cl.length - 1 - i))) ↔ ∀ t ∈ truA x, P (rightT x t i) := fun P => by
      constructor
      · intro h t ht
        have := h _ (turn_mem k ht)
        rwa [turn_right k (truA_mem ht).1 (by omega), show x.cl.length - 1 - (x.cl.length - 1 - i) = i by omega] at this
      · intro h t ht
        have h3 := turn_mem (turn_ok k) ht
        rw [turn_turn k.nM] at h3
        have h4 := h _ h3
        have h5 := turn_right (turn_ok k) (t := t) (truA_mem ht).1 (i := i) (by rw [turn_nC]; exact hi)
        rw [turn_turn k.nM, turn_nC] at h5
        rwa [h5] at h4
    have a1 : rcN (turnI x) (x.cl.length - 1 - i) (truA (turnI x)).length = (truA (turnI x)).length ↔ rcN x i (truA x).length = (truA x).length := by
      rw [rcN_all, rcN_all]; exact key fun b => b = true
    have a2 : rcN (turnI x) (x.cl.length - 1 - i) (truA (turnI x)).length = 0 ↔ rcN x i (truA x).length = 0 := by
      rw [rcN_no, rcN_no]; exact key fun b => ¬ b = true
    simp only [a1, a2]
/-- A set, numbered from the other end. -/
def revB (r : Nat) : Nat → Nat → Nat
  | 0, _ => 0
  | k + 1, n => revB r k n + if r.testBit (n - 1 - k) = true then 2 ^ k else 0
theorem revB_lt (r k n : Nat) : revB r k n < 2 ^ k := by
  induction k with
  | zero => simp [revB]
  | succ k ih => simp only [revB, Nat.pow_succ]; split <;> omega
theorem revB_bit (r n k j : Nat) : (revB r k n).testBit j = (decide (j < k) && r.testBit (n - 1 - j)) := by
  induction k with
  | zero => simp [revB]
  | succ k ih =>
    have hl := revB_lt r k n
    simp only [revB]
    by_cases hb : r.testBit (n - 1 - k) = true
    · rw [if_pos hb, ← or_bit _ _ hl, Nat.testBit_or, ih, Nat.testBit_two_pow]
      by_cases e : k = j
      · subst e; simp [hb]
      · rw [decide_eq_false e, Bool.or_false]
        congr 1
        exact decide_eq_decide.2 (by omega)
    · rw [if_neg hb, Nat.add_zero, ih]
      by_cases e : j = k
      · subst e
        rw [decide_eq_false (by omega), decide_eq_true (by omega), Bool.false_and, Bool.true_and]
        simpa using hb
      · rw [show decide (j < k) = decide (j < k + 1) from decide_eq_decide.2 (by omega)]
theorem pop_cn8 : ∀ N, N < 9 → ∀ r, r < 256 → r < 2 ^ N → pop r = cn (fun s => r.testBit s) N := by decide +kernel
theorem revB_pop {r n : Nat} (hn : n ≤ 8) (hr : r < 2 ^ n) : pop (revB r n n) = pop r := by
  have hp : 2 ^ n ≤ 2 ^ 8 := Nat.pow_le_pow_right (by decide) hn
  have hl := revB_lt r n n
  rw [pop_cn8 n (by omega) _ (by omega) hl, pop_cn8 n (by omega) r (by omega) hr, ← cn_rev n fun s => r.testBit s]
  exact cn_eq _ fun s hs => by rw [revB_bit, decide_eq_true hs, Bool.true_and]
theorem cls_turn {x : Ir} (k : Ok x) {r : Nat} (h : clsB x (truA x) r = true) : clsB (turnI x) (truA (turnI x)) (revB r x.cl.length x.cl.length) = true := by
  rw [clsB, List.all_eq_true] at h ⊢
  intro t' ht'
  have h3 := turn_mem (turn_ok k) ht'
  rw [turn_turn k.nM] at h3
  have h4 := h _ h3
  rw [Bool.not_eq_true', ← Bool.not_eq_true] at h4 ⊢
  refine fun h5 => h4 ?_
  rw [okR_iff] at h5 ⊢
  intro j hj hb
  have h6 := h5 (x.cl.length - 1 - j) (by rw [turn_nC]; omega) (by rw [revB_bit, decide_eq_true (by omega), Bool.true_and, show x.cl.length - 1 - (x.cl.length - 1 - j) = j by omega]; exact hb)
  have h7 := turn_right (turn_ok k) (t := t') (truA_mem ht').1 (i := j) (by rw [turn_nC]; exact hj)
  rw [turn_turn k.nM, turn_nC] at h7
  rw [h7]
  exact h6
/-- The claims that clash are as many. -/
theorem turn_clash {x : Ir} (k : Ok x) (h : 0 < (truA x).length) : (clashR x = none ∧ clashR (turnI x) = none) ∨ ∃ r r', clashR x = some r ∧ clashR (turnI x) = some r' ∧ r < 2 ^ x.cl.length ∧ r' < 2 ^ x.cl.length ∧ pop r = pop r' := by
  have hy : 0 < (truA (turnI x)).length := by rw [turn_count k]; exact h
  have ky := turn_ok k
  have ef := turn_few k
  rcases clash_cases k h with ⟨a1, a2⟩ | ⟨r, a1, a2, a3, a4, a5, _, a6⟩ <;> rcases clash_cases ky hy with ⟨b1, b2⟩ | ⟨r', b1, b2, b3, b4, b5, _, b6⟩
  · exact .inl ⟨a1, b1⟩
  · omega
  · omega
  · rw [turn_nC] at b4 b6
    refine .inr ⟨r, r', a1, b1, a4, b4, ?_⟩
    rw [cfB_eq k h] at a5
    rw [cfB_eq ky hy] at b5
    have c1 := b6 _ (revB_lt r x.cl.length x.cl.length) (by rw [cfB_eq ky hy]; exact cls_turn k a5)
    have c2' := cls_turn ky b5
    rw [turn_turn k.nM, turn_nC] at c2'
    have c2 := a6 _ (revB_lt r' x.cl.length x.cl.length) (by rw [cfB_eq k h]; exact c2')
    rw [revB_pop k.nC a4] at c1
    rw [revB_pop k.nC b4] at c2
    omega
theorem asg_turn {x : Ir} (k : Ok x) {S : Nat} {f : Nat → Nat} (a : AsgI x S f) : AsgI (turnI x) (revB S x.st.length x.st.length) fun s => x.ow.length - 1 - f (x.st.length - 1 - s) := by
  refine ⟨fun s hs hb => ?_, fun o ho => ?_⟩
  · rw [turn_nS] at hs
    rw [revB_bit, decide_eq_true hs, Bool.true_and] at hb
    obtain ⟨h1, h2⟩ := a.fit (x.st.length - 1 - s) (by omega) hb
    rw [turn_nO]
    refine ⟨by omega, ?_⟩
    rw [fit_turn (by omega) hs, show x.ow.length - 1 - (x.ow.length - 1 - f (x.st.length - 1 - s)) = f (x.st.length - 1 - s) by omega]
    exact h2
  · rw [turn_nO] at ho
    rw [turn_nS]
    have h := a.cap (x.ow.length - 1 - o) (by omega)
    have e : capI (turnI x) o = capI x (x.ow.length - 1 - o) := by rw [capI, capI, turn_mo ho]
    rw [e]
    refine Nat.le_trans ?_ h
    rw [← cn_rev x.st.length fun s => S.testBit s && decide (f s = x.ow.length - 1 - o)]
    refine Nat.le_of_eq (cn_eq _ fun s hs => ?_)
    rw [revB_bit, decide_eq_true hs, Bool.true_and]
    cases hb : S.testBit (x.st.length - 1 - s) with
    | false => rfl
    | true =>
      rw [Bool.true_and, Bool.true_and]
      have := (a.fit (x.st.length - 1 - s) (by omega) hb).1
      exact decide_eq_decide.2 (by omega)
theorem shc_turn {x : Ir} (k : Ok x) {S : Nat} (h : shC x S = true) : shC (turnI x) (revB S x.st.length x.st.length) = true := by
  rw [shC_eq k, shD, decide_eq_true_eq, List.length_eq_zero_iff] at h
  rw [shC_eq (turn_ok k), shD, decide_eq_true_eq, List.length_eq_zero_iff]
  apply Classical.byContradiction
  intro hne
  obtain ⟨f, a⟩ := tru_asg (turn_ok k) hne
  have a2 := asg_turn (turn_ok k) a
  rw [turn_turn k.nM, turn_nS, turn_nO] at a2
  refine asg_tru k (S := S) (f := fun s => x.ow.length - 1 - f (x.st.length - 1 - s)) ⟨fun s hs hb => ?_, fun o ho => ?_⟩ h
  · exact a2.fit s hs (by rw [revB_bit, decide_eq_true hs, Bool.true_and, revB_bit, decide_eq_true (by omega), Bool.true_and, show x.st.length - 1 - (x.st.length - 1 - s) = s by omega]; exact hb)
  · refine Nat.le_trans (Nat.le_of_eq (cn_eq _ fun s hs => ?_)) (a2.cap o ho)
    rw [revB_bit, decide_eq_true hs, Bool.true_and, revB_bit, decide_eq_true (show x.st.length - 1 - s < x.st.length by omega), Bool.true_and, show x.st.length - 1 - (x.st.length - 1 - s) = s by omega]
/-- The strakes that are too many are as many. -/
theorem turn_short {x : Ir} (k : Ok x) : (shortR x = none ∧ shortR (turnI x) = none) ∨ ∃ r r', shortR x = some r ∧ shortR (turnI x) = some r' ∧ r < 2 ^ x.st.length ∧ r' < 2 ^ x.st.length ∧ pop r = pop r' := by
  have ky := turn_ok k
  have ec := turn_count k
  have nS := k.nS
  rcases short_cases k with ⟨a1, a2⟩ | ⟨r, a1, a2, a3, a4, a5, _, a6, _⟩ <;> rcases short_cases ky with ⟨b1, b2⟩ | ⟨r', b1, b2, b3, b4, b5, _, b6, _⟩
  · exact .inl ⟨a1, b1⟩
  · omega
  · omega
  · rw [turn_nS] at b4 b6
    refine .inr ⟨r, r', a1, b1, a4, b4, ?_⟩
    have c1 := b6 _ (revB_lt r x.st.length x.st.length) (shc_turn k a5)
    have c2' := shc_turn ky b5
    rw [turn_turn k.nM, turn_nS] at c2'
    have c2 := a6 _ (revB_lt r' x.st.length x.st.length) c2'
    rw [revB_pop (by omega) a4] at c1
    rw [revB_pop (by omega) b4] at c2
    omega
theorem turn_clashV {x : Ir} (k : Ok x) : setE (falseE x) (clashR (turnI x)) = setE (falseE x) (clashR x) ∧ pop (setV (falseE x) (clashR (turnI x))) = pop (setV (falseE x) (clashR x)) ∧ setV (falseE x) (clashR x) < 256 ∧ setV (falseE x) (clashR (turnI x)) < 256 := by
  by_cases h : (truA x).length = 0
  · have e1 : falseE x = 10 := errE_clash k h
    obtain ⟨a1, a2⟩ := setV_no (e := falseE x) (r := clashR x) (by rw [e1]; decide)
    obtain ⟨b1, b2⟩ := setV_no (e := falseE x) (r := clashR (turnI x)) (by rw [e1]; decide)
    rw [a1, a2, b1, b2]
    exact ⟨rfl, rfl, by decide, by decide⟩
  · have e1 : falseE x = 0 := errE_told k (by omega)
    rw [e1]
    have hp : 2 ^ x.cl.length ≤ 2 ^ 8 := Nat.pow_le_pow_right (by decide) k.nC
    rcases turn_clash k (by omega) with ⟨a, b⟩ | ⟨r, r', a, b, c, d, e⟩
    · obtain ⟨a1, a2⟩ := setV_none (r := clashR x) (by rw [a]; rfl)
      obtain ⟨b1, b2⟩ := setV_none (r := clashR (turnI x)) (by rw [b]; rfl)
      rw [a1, a2, b1, b2]
      exact ⟨rfl, rfl, by decide, by decide⟩
    · obtain ⟨a1, a2⟩ := setV_some (r := clashR x) (by rw [a]; rfl)
      obtain ⟨b1, b2⟩ := setV_some (r := clashR (turnI x)) (by rw [b]; rfl)
      rw [a1, a2, b1, b2, a, b]
      exact ⟨rfl, e.symm, by show r < 256; omega, by show r' < 256; omega⟩
theorem turn_shortV {x : Ir} (k : Ok x) : setE 0 (shortR (turnI x)) = setE 0 (shortR x) ∧ pop (setV 0 (shortR (turnI x))) = pop (setV 0 (shortR x)) ∧ setV 0 (shortR x) < 256 ∧ setV 0 (shortR (turnI x)) < 256 := by
  have hp : 2 ^ x.st.length ≤ 2 ^ 6 := Nat.pow_le_pow_right (by decide) k.nS
  rcases turn_short k with ⟨a, b⟩ | ⟨r, r', a, b, c, d, e⟩
  · obtain ⟨a1, a2⟩ := setV_none (r := shortR x) (by rw [a]; rfl)
    obtain ⟨b1, b2⟩ := setV_none (r := shortR (turnI x)) (by rw [b]; rfl)
    rw [a1, a2, b1, b2]
    exact ⟨rfl, rfl, by decide, by decide⟩
  · obtain ⟨a1, a2⟩ := setV_some (r := shortR x) (by rw [a]; rfl)
    obtain ⟨b1, b2⟩ := setV_some (r := shortR (turnI x)) (by rw [b]; rfl)
    rw [a1, a2, b1, b2, a, b]
    exact ⟨rfl, e.symm, by show r < 256; omega, by show r' < 256; omega⟩
theorem turn_strake {x : Ir} (k : Ok x) {s : Nat} (hs : s < x.st.length) : (canE (turnI x) ((x.st.length - 1 - s : Nat) : Int) = canE x s ∧ likE (turnI x) ((x.st.length - 1 - s : Nat) : Int) = likE x s) ∧
    (∀ o, o < x.ow.length → (canV (turnI x) ((x.st.length - 1 - s : Nat) : Int)).testBit (x.ow.length - 1 - o) = (canV x s).testBit o ∧ (likV (turnI x) ((x.st.length - 1 - s : Nat) : Int)).testBit (x.ow.length - 1 - o) = (likV x s).testBit o) ∧
    canV x s < 32 ∧ likV x s < 32 ∧ canV (turnI x) ((x.st.length - 1 - s : Nat) : Int) < 32 ∧ likV (turnI x) ((x.st.length - 1 - s : Nat) : Int) < 32 := by
  have v1 : strB x (s : Int) = true := (strB_iff _ _).2 (by omega)
  have v2 : strB (turnI x) ((x.st.length - 1 - s : Nat) : Int) = true := (strB_iff _ _).2 (by rw [turn_nS]; omega)
  have hsy : x.st.length - 1 - s < (turnI x).st.length := by rw [turn_nS]; omega
  have hb : ∀ {x : Ir} (k : Ok x) (s : Nat), likN x s x.ow.length < 32 := fun {x} k s => by
    have h1 := likN_lt x s x.ow.length
    have : 2 ^ x.ow.length ≤ 2 ^ 5 := Nat.pow_le_pow_right (by decide) k.nO
    omega
  by_cases h : (truA x).length = 0
  · have hy : (truA (turnI x)).length = 0 := by rw [turn_count k]; exact h
    have e1 : canE x s = 10 := by unfold canE; rw [v1]; exact errE_clash k h
    have e2 : canE (turnI x) ((x.st.length - 1 - s : Nat) : Int) = 10 := by unfold canE; rw [v2]; exact errE_clash (turn_ok k) hy
    have e3 : likE x s = 10 := by unfold likE; rw [v1]; exact errE_clash k h
    have e4 : likE (turnI x) ((x.st.length - 1 - s : Nat) : Int) = 10 := by unfold likE; rw [v2]; exact errE_clash (turn_ok k) hy
    rw [canV, likV, canV, likV, e1, e2, e3, e4]
    simp
  · have hy : 0 < (truA (turnI x)).length := by rw [turn_count k]; omega
    have e1 : canE x s = 0 := by unfold canE; rw [v1]; exact errE_told k (by omega)
    have e2 : canE (turnI x) ((x.st.length - 1 - s : Nat) : Int) = 0 := by unfold canE; rw [v2]; exact errE_told (turn_ok k) hy
    have e3 : likE x s = 0 := by unfold likE; rw [v1]; exact errE_told k (by omega)
    have e4 : likE (turnI x) ((x.st.length - 1 - s : Nat) : Int) = 0 := by unfold likE; rw [v2]; exact errE_told (turn_ok k) hy
    rw [canV, likV, canV, likV, if_pos e1, if_pos e2, if_pos e3, if_pos e4, e1, e2, e3, e4, Int.toNat_natCast, Int.toNat_natCast]
    have := hb (turn_ok k) (x.st.length - 1 - s)
    rw [turn_nO] at this
    refine ⟨⟨rfl, rfl⟩, fun o ho => ⟨turn_can k hs ho, by rw [turn_nO]; exact turn_lik k hs ho⟩, who_lt k hs, hb k s, who_lt (turn_ok k) hsy, by rw [turn_nO]; exact this⟩
end Go.Proofs.Ytkonoggmdcdeeaa
end
section
set_option linter.unusedVariables false
namespace Go.V
theorem litI_bool (b : Bool) (r : List AV) : litI (.lit (.bool b) :: r) = none := (rfl)
theorem litS_nil : litS [] = some [] := (rfl)
theorem litS_int (k : IntKind) (a : Int) (r : List AV) : litS (.lit (.int k a) :: r) = match litS r with
    | some l => some (.int k a :: l)
    | none => none := by
  rw [litS, scal]; cases litS r <;> rfl
theorem litS_bool (b : Bool) (r : List AV) : litS (.lit (.bool b) :: r) = match litS r with
    | some l => some (.bool b :: l)
    | none => none := by
  rw [litS, scal]; cases litS r <;> rfl
theorem eqL_nil : eqL [] [] = true := (rfl)
theorem eqL_int (k k' : IntKind) (a b : Int) (l l' : List Value) : eqL (.int k a :: l) (.int k' b :: l') = (decide (a = b) && eqL l l') := (rfl)
theorem eqL_bool (a b : Bool) (l l' : List Value) : eqL (.bool a :: l) (.bool b :: l') = ((a == b) && eqL l l') := (rfl)
def kindOk (P : Program) (T : TypeId) : Value → Value → Bool
  | .int k _, .int k' _ => k == k' && intT P T == some k
  | .bool _, .bool _ => boolT P T
  | _, _ => false
def fldsV (P : Program) : Nat → List Field → List Value → List Value → Bool
  | _, [], [], [] => true
  | o, f :: r, v :: l, v' :: l' => f.name != "_" && kindOk P f.type v v' && szT P f.type == some (1, false) && f.offset == o && fldsV P (o + 1) r l l'
  | _, _, _, _ => false
theorem run_equalIn_kind {P : Program} (w : World) (d : Nat) (t : TypeId) (a b : Value) (h : kindOk P t a b = true) : (Op.equalIn (d + 1) t a b).run P w = .ok (eqS a b) w := by
  unfold kindOk at h
  split at h
  · rename_i k x k' y
    simp only [Bool.and_eq_true, beq_iff_eq] at h
    have h2 : P.underlying t = some (.int k) := by
      have h2 := h.2
      unfold intT at h2; split at h2
      · cases h2; assumption
      · cases h2
    obtain ⟨rfl, _⟩ := h
    rw [run_equalIn_int w d t k k _ _ h2]
    rfl
  · rename_i x y
    have h2 : P.underlying t = some .bool := by
      unfold boolT at h; split at h
      · assumption
      · cases h
    simp [Op.equalIn, run_underlying h2, eqS]
  · cases h
theorem fldsV_len {P : Program} : ∀ (fs : List Field) (o : Nat) (l l' : List Value), fldsV P o fs l l' = true → l.length = fs.length ∧ l'.length = fs.length
  | [], o, l, l', h => by
    cases l <;> cases l' <;> simp_all [fldsV]
  | f :: fs, o, l, l', h => by
    cases l with
    | nil => cases l' <;> simp_all [fldsV]
    | cons a l =>
      cases l' with
      | nil => simp_all [fldsV]
      | cons b l' =>
        simp only [fldsV, Bool.and_eq_true] at h
        obtain ⟨h1, h2⟩ := fldsV_len fs (o + 1) l l' h.2
        simp only [List.length_cons]
        omega
theorem eqFields_vals {P : Program} (w : World) (d : Nat) (L L' : List Value) : ∀ (fs : List Field) (o : Nat), fldsV P o fs (L.drop o) (L'.drop o) = true → L.length = o + fs.length → L'.length = o + fs.length →
    (Op.eqFields (d + 1) L.toArray L'.toArray fs).run P w = .ok (eqL (L.drop o) (L'.drop o)) w
  | [], o, _, h, h' => by
    simp only [List.length_nil, Nat.add_zero] at h h'
    rw [List.drop_eq_nil_of_le (by omega), List.drop_eq_nil_of_le (by omega)]
    simp [Op.eqFields, eqL]
  | f :: fs, o, hf, h, h' => by
    simp only [List.length_cons] at h h'
    rw [List.drop_eq_getElem_cons (show o < L.length by omega), List.drop_eq_getElem_cons (show o < L'.length by omega)] at hf ⊢
    simp only [fldsV, Bool.and_eq_true, bne_iff_ne, beq_iff_eq] at hf
    obtain ⟨⟨⟨⟨h1, h2⟩, h3⟩, h4⟩, h5⟩ := hf
    have p1 : (part f.type L.toArray f.offset).run P w = .ok (L[o]'(by omega)) w := by
      rw [run_part (w := w) h3 (show partOk false 1 _ f.offset from by simp [partOk]; omega), h4]
      simp [partV, Array.getD_eq_getD_getElem?, List.getElem?_eq_getElem (show o < L.length by omega)]
    have p2 : (part f.type L'.toArray f.offset).run P w = .ok (L'[o]'(by omega)) w := by
      rw [run_part (w := w) h3 (show partOk false 1 _ f.offset from by simp [partOk]; omega), h4]
      simp [partV, Array.getD_eq_getD_getElem?, List.getElem?_eq_getElem (show o < L'.length by omega)]
    simp only [Op.eqFields, if_pos h1, Sem.run_bind, p1, p2, Result.andThen_ok, run_equalIn_kind w d f.type _ _ h2, eqL]
    cases e : eqS (L[o]'(by omega)) (L'[o]'(by omega)) with
    | true =>
      simp only [Bool.not_true, Bool.false_eq_true, if_false, Bool.true_and]
      exact eqFields_vals w d L L' fs (o + 1) h5 (by omega) (by omega)
    | false => simp only [Bool.not_false, if_true, Sem.run_pure, Bool.false_and]
theorem eqV_of {P : Program} {T : TypeId} {l l' : List Value} (hm : P.eqGuardType P.depth T = false) (ht : P.underlying T = some (.struct (P.fieldsOf T))) (hp : P.stoodInHeld T = false)
    (hf : fldsV P 0 (P.fieldsOf T).toList l l' = true) : eqV P T l l' := by
  refine ⟨hm, fun w => ?_⟩
  obtain ⟨h1, h2⟩ := fldsV_len _ _ _ _ hf
  rw [run_equalIn_struct w 9999 T _ _ ht hp]
  have := eqFields_vals w 9998 l l' _ 0 hf (by omega) (by omega)
  exact this
end Go.V
end
