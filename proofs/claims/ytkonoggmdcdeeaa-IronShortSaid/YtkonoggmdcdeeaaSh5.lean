/- WHAT IS PROVED: the given statement of this claim. Conditions: none beyond the given row. -/
import Derived.Test.YtkonoggmdcdeeaaRows
import Derived.Test.YtkonoggmdcdeeaaSh4
section
set_option linter.unusedVariables false
set_option linter.unusedSimpArgs false
set_option maxHeartbeats 4000000
set_option maxRecDepth 100000
namespace Go.Proofs.Ytkonoggmdcdeeaa
open Go.V
/-- The owners' values with one more: one for one owner, none for all others. -/
def owW (x : Ir) (o : Nat) (i : Nat) : List Int := x.ow.getD i [] ++ [if i = o then 1 else 0]
def stW (x : Ir) (s : Nat) (i : Nat) : List Mk := if i = s then x.st.getD i [] ++ [⟨x.F, 1, 1⟩] else x.st.getD i []
/-- Irons in which a strake has a mark that just an owner's iron has. -/
def withI (x : Ir) (s o : Nat) : Ir := ⟨x.F + 1, (List.range x.ow.length).map (owW x o), x.mo, (List.range x.st.length).map (stW x s), x.cl⟩
def rowO (x : Ir) (o : Nat) (i : Nat) : Nat → List AV := fun j => if j < i then [intsAV (owW x o j)] else llF x.ow j
theorem rowO_len (x : Ir) (o i q : Nat) : (rowO x o i q).length = 1 := by
  unfold rowO
  split <;> rfl
theorem updF_at {n i q : Nat} (hi : i < n) (hq : q < n) (f : Nat → List AV) (c : List AV) : updF n i f c q = if q = i then c else f q := by
  unfold updF
  split
  · rw [if_pos (by omega)]
  · rfl
abbrev extF (l : List Int) (z : Int) : Nat → List AV := appF l.length 1 (appF 0 l.length (fun i => []) (intF l)) (fun i => [[i64 z]].getD i [])
theorem rowO_step {x : Ir} {o i : Nat} {z : Int} (ez : owW x o i = x.ow.getD i [] ++ [z]) (n : Nat) :
    Obj.Le (.row 1 n fun j => if j = i then [.rsl ((x.ow.getD i []).length + 1) 1 (extF (x.ow.getD i []) z)] else rowO x o i j) (.row 1 n (rowO x o (i + 1))) := by
  refine row_leA (fun q hq => ?_) fun q hq c hc => ?_
  · rw [rowO_len]
    split
    · rfl
    · rw [rowO_len]
  · have hc0 : c = 0 := by omega
    subst hc0
    by_cases e : q = i
    · subst e
      rw [if_pos rfl]
      simp only [rowO, Nat.lt_succ_self, if_true, List.getD_cons_zero, ez, intsAV, List.length_append, List.length_cons, List.length_nil, Nat.zero_add]
      exact AV.Le.rsl fun j hj => cp_app _ _ j hj
    · rw [if_neg e]
      have : rowO x o (i + 1) q = rowO x o i q := by
        simp only [rowO]
        by_cases h : q < i
        · rw [if_pos h, if_pos (by omega)]
        · rw [if_neg h, if_neg (by omega)]
      rw [this]
      exact AV.Le.refl _
theorem rowO_frz {x : Ir} {o i iz n q c : Nat} {F : Nat → List AV} {w : Nat} (hi : i < n) (hq : q < n) (hc : c < 1) :
    Frz iz 1 w F ((updF n i (rowO x o i) [AV.sl iz 1 w] q).getD c .any) ((if q = i then [AV.rsl w 1 F] else rowO x o i q).getD c .any) := by
  have hc0 : c = 0 := by omega
  subst hc0
  rw [updF_at hi hq]
  split
  · exact Frz.hit
  · exact Frz.rfl
abbrev extM (l : List Mk) (F : Int) : Nat → List AV := appF l.length 1 (appF 0 l.length (fun i => []) (mkF l)) (fun i => [[i64 F, i64 1, i64 1]].getD i [])
abbrev cpS (x : Ir) : Nat → List AV := cpF 0 x.st.length (fun _ => [.lit (.slice none 0 0)]) 0 (stF x.st)
theorem cpS_at (x : Ir) {j : Nat} (hj : j < x.st.length) : cpS x j = [mksAV (x.st.getD j [])] := by
  simp only [cpF]
  rw [if_pos (by omega), Nat.zero_add, Nat.sub_zero]
  rfl
theorem extM_at (l : List Mk) (F : Int) (i : Nat) (hi : i < l.length + 1) : extM l F i = mkF (l ++ [⟨F, 1, 1⟩]) i := by
  show appF l.length 1 _ _ i = _
  rw [appF_at (by omega)]
  simp only [mkF, getD_snoc]
  by_cases e : i = l.length
  · rw [if_neg (by omega), if_pos e, e, Nat.sub_self]; rfl
  · rw [if_pos (by omega), if_neg e, appF_at (by omega), if_neg (by omega), Nat.sub_zero]; rfl
theorem getD_mapR {α : Type} (f : Nat → α) (n i : Nat) (d : α) (hi : i < n) : ((List.range n).map f).getD i d = f i := by
  rw [List.getD_eq_getElem?_getD, List.getElem?_map, List.getElem?_range hi]; rfl
theorem ow_le (x : Ir) (s o : Nat) : AV.Le (.rsl x.ow.length 1 (rowO x o x.ow.length)) (llAV (withI x s o).ow) := by
  have hl : (withI x s o).ow.length = x.ow.length := by simp [withI]
  simp only [llAV, hl]
  refine AV.Le.rsl fun i hi => ?_
  simp only [rowO, hi, if_true, llF, withI, getD_mapR _ _ _ _ hi]
theorem st_le (x : Ir) (s o : Nat) (hs : s < x.st.length) : AV.Le (.rsl x.st.length 1 fun j => if j = s then [.rsl ((x.st.getD s []).length + 1) 3 (extM (x.st.getD s []) x.F)] else cpS x j) (stAV (withI x s o).st) := by
  have hl : (withI x s o).st.length = x.st.length := by simp [withI]
  simp only [stAV, hl]
  refine AV.Le.rslA (fun i hi => ?_) fun i hi j hj => ?_
  · split
    · rfl
    · rw [cpS_at x hi]; rfl
  · have hj0 : j = 0 := by omega
    subst hj0
    have e : stF (withI x s o).st i = [mksAV (stW x s i)] := by simp only [stF, withI, getD_mapR _ _ _ _ hi]
    rw [e]
    by_cases eq : i = s
    · subst eq
      rw [if_pos rfl]
      simp only [List.getD_cons_zero, stW, if_true, mksAV, List.length_append, List.length_cons, List.length_nil, Nat.zero_add]
      exact AV.Le.rsl fun q hq => extM_at _ _ q hq
    · rw [if_neg eq, cpS_at x hi]
      simp only [stW, eq, if_false]
      exact AV.Le.refl _
theorem cpS_frz {x : Ir} {s im q c w : Nat} {F : Nat → List AV} (hs : s < x.st.length) (hq : q < x.st.length) (hc : c < 1) :
    Frz im 3 w F ((updF x.st.length s (cpS x) [AV.sl im 3 w] q).getD c .any) ((if q = s then [AV.rsl w 3 F] else cpS x q).getD c .any) := by
  have hc0 : c = 0 := by omega
  subst hc0
  rw [updF_at hs hq]
  split
  · exact Frz.hit
  · exact Frz.rfl
theorem with1_tri (x : Ir) (S C : Nat) (m : Bool) (s o : Nat) (H : Hp) (k : Ok x) (hs : s < x.st.length) (ho : o < x.ow.length) :
    PTri Try.prog (fnA 66) [irP x S C m, i64 s, i64 o] H (.tuple [irP (withI x s o) S C m, boo (fitB x o s)]) := by
  have nO := k.nO
  have nS := k.nS
  have hF := k.F
  refine tri_vs (m := mset [21, 55, 57, 60, 69, 85, 94, 102]) Try.func66 (by kernel_rfl) rfl (by simp only [List.length_append, List.length_cons, List.length_nil, Try.ntmps66]; decide) ?_
  simp only [vsAll, loadA, loadRow, partA, partOk, fieldAddrA, lenA, nilCheckA, cellA, cellsA, makeSliceA, opA, allocA, newCells, okCells, storeObj, dstOk, nilSliceOp, argFr, Nat.reduceAdd, Nat.reduceLT, Nat.reduceLeDiff, Nat.reduceEqDiff, Nat.reduceBEq, ↓reduceIte, reduceCtorEq, eq_self, wtAll, Try.ntmps66]
  intro i8 hh_i8; (try simp only [Hp.set_none, ite_none] at hh_i8)
  refine ⟨by ((try clear hh_i8); omega), by ((try clear hh_i8); omega), by ((try clear hh_i8); omega), ?_⟩
  intro iow hh_iow; (try simp only [ite_none] at hh_iow)
  simp only [vsAll, Nat.reduceLT, ↓reduceIte, eq_self, hh_iow]
  refine vs_draw2 [0, 0, 0, 0, 0, 0, 0, 0, 1] [([0, 1, 2, 3, 4, 5, 6, 7], [], 8)] [] (by decide +kernel) ?_
  simp only [vsAll, binA, binLitA, intA, loadA, loadRow, partA, partOk, fieldAddrA, lenA, nilCheckA, cellA, cellsA, opA, newCells, okCells, storeObj, copyA, dstOk, argFr, Nat.reduceLT, Nat.reduceLeDiff, Nat.reduceEqDiff, ↓reduceIte, reduceCtorEq, eq_self, wtAll, hh_iow, Nat.min_self]
  refine ⟨fun i hi => by simp [llF, okCells, cellA], by simp only [InR_i64]; ((try clear hh_i8); (try clear hh_iow); omega), ?_⟩
  rw [Hp.set_set]
  refine vs_loop (σ := Nat) (fun i => i ≤ x.ow.length) (fun i => [(0, irP x S C m), (1, i64 s), (2, i64 o), (8, .ref i8 0 8 0 0), (41, .sl iow 1 x.ow.length), (42, i64 x.ow.length), (43, i64 i)])
    (fun i => (H.set iow (.row 1 x.ow.length (rowO x o i))).set i8 (.box 8 1 fun _ => [i64 (x.F + 1), .sl iow 1 x.ow.length, intsAV x.mo, stAV x.st, clAV x.cl, u64 S, u64 C, boo m])) (fun i => x.ow.length - i) 0 (by ((try clear hh_i8); (try clear hh_iow); omega)) ?_ ?_ fun i hi => ?_
  · simp only [vsAll, argFr, Nat.reduceEqDiff, ↓reduceIte, reduceCtorEq, eq_self, Int.natCast_zero]
  · refine HSub.set (HSub.set (HSub_drop2 hh_i8 (HSub_drop2 hh_iow.2.2 (HSub_drop2 hh_i8 HSub_rfl))) (row_ext fun q hq => ?_)) (.refl _)
    simp only [cpF, rowO, Nat.not_lt_zero, if_false]
    rw [if_pos (by ((try clear hh_i8); (try clear hh_iow); omega)), Nat.zero_add, Nat.sub_zero]
  · simp only [vsAll, binA, binLitA, intA, opA, dstOk, Nat.reduceLT, Nat.reduceEqDiff, ↓reduceIte, reduceCtorEq, eq_self]
    refine condD (fun hd => ?_) (fun hd => ?_)
    · have hr : rowO x o i i = [intsAV (x.ow.getD i [])] := by simp only [rowO, Nat.lt_irrefl, if_false]; rfl
      simp only [vsAll, binA, binLitA, intA, loadA, loadRow, partA, partOk, indexAddrA, opA, dstOk, nilSliceOp, Nat.reduceLT, Nat.reduceEqDiff, Nat.reduceBEq, ↓reduceIte, reduceCtorEq, eq_self, wtAll, hh_iow, hr]
      have hfl := k.ow i (by ((try clear hh_i8); (try clear hh_iow); omega))
      refine ⟨by ((try clear hh_i8); (try clear hh_iow); omega), by ((try clear hh_i8); (try clear hh_iow); omega), condV (fun hc => ?_) (fun hc => ?_)⟩
      · have hc : i = o := by have := of_decide_eq_true hc; ((try clear hh_i8); (try clear hh_iow); omega)
        have ez : owW x o i = x.ow.getD i [] ++ [1] := by simp only [owW, hc, if_true]
        simp only [vsAll, opA, dstOk, nilSliceOp, Nat.reduceLT, Nat.reduceBEq, eq_self]
        refine vs_draw2 [0, 0, 0, 0, 1, 0, 3, 0, 0, 5, 6, 7] [([0, 1, 2, 3, 5, 7, 8], [2], 4), ([], [2], 6), ([], [2], 9), ([10], [], 11)] [] (by decide +kernel) ?_
        simp only [vsAll, binA, binLitA, intA, loadA, loadRow, partA, partOk, fieldAddrA, indexAddrA, cellA, cellsA, okParts, buildSliceA, buildMutA, partIdx, elemsA, lensA, partsA, partsOk, opA, newCells, okCells, storeObj, appendA, dstOk, Nat.reduceMul, Nat.reduceLT, Nat.reduceLeDiff, Nat.reduceEqDiff, Nat.reduceBEq, ↓reduceIte, reduceCtorEq, eq_self, wtAll, hh_iow]
        intro iz hh_iz; (try simp only [ite_none] at hh_iz)
        simp only [vsAll, Nat.reduceLT, ↓reduceIte, eq_self, hh_iz, hr]
        refine ⟨fun q hq => by simp [intF, okCells, cellA], by ((try clear hh_i8); (try clear hh_iow); (try clear hh_iz); omega), by ((try clear hh_i8); (try clear hh_iow); (try clear hh_iz); omega), fun q hq => by simp [okCells, cellA, show q = 0 by ((try clear hh_i8); (try clear hh_iow); (try clear hh_iz); omega)], by ((try clear hh_i8); (try clear hh_iow); (try clear hh_iz); omega), by ((try clear hh_i8); (try clear hh_iow); (try clear hh_iz); omega), by ((try clear hh_i8); (try clear hh_iow); (try clear hh_iz); omega), by ((try clear hh_i8); (try clear hh_iow); (try clear hh_iz); omega), by simp only [InR_i64]; ((try clear hh_i8); (try clear hh_iow); (try clear hh_iz); omega), ?_⟩
        rw [Hp.set_set, Hp.set_set]
        refine loop_ent (Ent.freezeRow (s' := _) (id := iz) (st := 1) (n := (x.ow.getD i []).length + 1) (f := appF (x.ow.getD i []).length 1 (appF 0 (x.ow.getD i []).length (fun i => []) (intF (x.ow.getD i []))) (fun i => [[i64 1]].getD i []))
          (j := iow) (st' := 1) (n' := x.ow.length) (g := updF x.ow.length i (rowO x o i) [.sl iz 1 ((x.ow.getD i []).length + 1)])
          (g' := fun j => if j = i then [.rsl ((x.ow.getD i []).length + 1) 1 (appF (x.ow.getD i []).length 1 (appF 0 (x.ow.getD i []).length (fun i => []) (intF (x.ow.getD i []))) (fun i => [[i64 1]].getD i []))] else rowO x o i j) (by simp only [vsAll, ↓reduceIte, eq_self, hh_iz]) (by simp only [vsAll, ↓reduceIte, eq_self]) hh_iz.2.1.2 (fun t => .rfl) (fun q hq => ?_) (fun q c hq hc' => ?_) ?_)
        · show (ite _ _ _ : List AV).length = 1
          split
          · rfl
          · exact rowO_len _ _ _ _
        · exact rowO_frz (by ((try clear hh_i8); (try clear hh_iow); (try clear hh_iz); omega)) hq hc'
        · refine loop_next (i + 1) (by ((try clear hh_i8); (try clear hh_iow); (try clear hh_iz); omega)) (by ((try clear hh_i8); (try clear hh_iow); (try clear hh_iz); omega)) ?_ ?_
          · simp only [vsAll, Nat.reduceEqDiff, ↓reduceIte, reduceCtorEq, eq_self, Int.natCast_add, Int.natCast_one]
          · exact HSub_put (o' := .box 8 1 fun _ => [i64 (x.F + 1), .sl iow 1 x.ow.length, intsAV x.mo, stAV x.st, clAV x.cl, u64 S, u64 C, boo m]) (by simp only [vsAll, ↓reduceIte, eq_self, hh_iow, hh_iz, Hp.del_get]) (.refl _) (HSub.set (HSub_del hh_iz.2.2 (HSub_drop2 hh_iow.2.2 (HSub_drop2 hh_iz.2.2 (HSub_drop2 hh_i8 (HSub_drop2 hh_iow.2.2 HSub_rfl))))) (rowO_step ez _))
      · have hc : ¬ i = o := by have := of_decide_eq_false hc; ((try clear hh_i8); (try clear hh_iow); omega)
        have ez : owW x o i = x.ow.getD i [] ++ [0] := by simp only [owW, hc, if_false]
        simp only [vsAll]
        refine vs_draw2 [0, 0, 0, 0, 1, 0, 3, 0, 0, 5, 6, 7] [([0, 1, 2, 3, 5, 7, 8], [2], 4), ([], [2], 6), ([], [2], 9), ([10], [], 11)] [] (by decide +kernel) ?_
        simp only [vsAll, binA, binLitA, intA, loadA, loadRow, partA, partOk, fieldAddrA, indexAddrA, cellA, cellsA, okParts, buildSliceA, buildMutA, partIdx, elemsA, lensA, partsA, partsOk, opA, newCells, okCells, storeObj, appendA, dstOk, Nat.reduceMul, Nat.reduceLT, Nat.reduceLeDiff, Nat.reduceEqDiff, Nat.reduceBEq, ↓reduceIte, reduceCtorEq, eq_self, wtAll, hh_iow]
        intro iz hh_iz; (try simp only [ite_none] at hh_iz)
        simp only [vsAll, Nat.reduceLT, ↓reduceIte, eq_self, hh_iz, hr]
        refine ⟨fun q hq => by simp [intF, okCells, cellA], by ((try clear hh_i8); (try clear hh_iow); (try clear hh_iz); omega), by ((try clear hh_i8); (try clear hh_iow); (try clear hh_iz); omega), fun q hq => by simp [okCells, cellA, show q = 0 by ((try clear hh_i8); (try clear hh_iow); (try clear hh_iz); omega)], by ((try clear hh_i8); (try clear hh_iow); (try clear hh_iz); omega), by ((try clear hh_i8); (try clear hh_iow); (try clear hh_iz); omega), by ((try clear hh_i8); (try clear hh_iow); (try clear hh_iz); omega), by ((try clear hh_i8); (try clear hh_iow); (try clear hh_iz); omega), by simp only [InR_i64]; ((try clear hh_i8); (try clear hh_iow); (try clear hh_iz); omega), ?_⟩
        rw [Hp.set_set, Hp.set_set]
        refine loop_ent (Ent.freezeRow (s' := _) (id := iz) (st := 1) (n := (x.ow.getD i []).length + 1) (f := appF (x.ow.getD i []).length 1 (appF 0 (x.ow.getD i []).length (fun i => []) (intF (x.ow.getD i []))) (fun i => [[i64 0]].getD i []))
          (j := iow) (st' := 1) (n' := x.ow.length) (g := updF x.ow.length i (rowO x o i) [.sl iz 1 ((x.ow.getD i []).length + 1)])
          (g' := fun j => if j = i then [.rsl ((x.ow.getD i []).length + 1) 1 (appF (x.ow.getD i []).length 1 (appF 0 (x.ow.getD i []).length (fun i => []) (intF (x.ow.getD i []))) (fun i => [[i64 0]].getD i []))] else rowO x o i j) (by simp only [vsAll, ↓reduceIte, eq_self, hh_iz]) (by simp only [vsAll, ↓reduceIte, eq_self]) hh_iz.2.1.2 (fun t => .rfl) (fun q hq => ?_) (fun q c hq hc' => ?_) ?_)
        · show (ite _ _ _ : List AV).length = 1
          split
          · rfl
          · exact rowO_len _ _ _ _
        · exact rowO_frz (by ((try clear hh_i8); (try clear hh_iow); (try clear hh_iz); omega)) hq hc'
        · refine loop_next (i + 1) (by ((try clear hh_i8); (try clear hh_iow); (try clear hh_iz); omega)) (by ((try clear hh_i8); (try clear hh_iow); (try clear hh_iz); omega)) ?_ ?_
          · simp only [vsAll, Nat.reduceEqDiff, ↓reduceIte, reduceCtorEq, eq_self, Int.natCast_add, Int.natCast_one]
          · exact HSub_put (o' := .box 8 1 fun _ => [i64 (x.F + 1), .sl iow 1 x.ow.length, intsAV x.mo, stAV x.st, clAV x.cl, u64 S, u64 C, boo m]) (by simp only [vsAll, ↓reduceIte, eq_self, hh_iow, hh_iz, Hp.del_get]) (.refl _) (HSub.set (HSub_del hh_iz.2.2 (HSub_drop2 hh_iow.2.2 (HSub_drop2 hh_iz.2.2 (HSub_drop2 hh_i8 (HSub_drop2 hh_iow.2.2 HSub_rfl))))) (rowO_step ez _))
    · have ei : i = x.ow.length := by ((try clear hh_i8); (try clear hh_iow); omega)
      subst ei
      simp only [vsAll, loadA, loadRow, partA, partOk, fieldAddrA, lenA, nilCheckA, cellA, cellsA, makeSliceA, opA, newCells, okCells, storeObj, dstOk, Nat.reduceAdd, Nat.reduceLT, Nat.reduceLeDiff, Nat.reduceEqDiff, Nat.reduceBEq, ↓reduceIte, reduceCtorEq, eq_self, wtAll]
      refine ⟨by ((try clear hh_i8); (try clear hh_iow); omega), by ((try clear hh_i8); (try clear hh_iow); omega), by ((try clear hh_i8); (try clear hh_iow); omega), ?_⟩
      intro ist hh_ist; (try simp only [ite_none] at hh_ist)
      simp only [vsAll, Nat.reduceLT, ↓reduceIte, eq_self, hh_ist]
      refine vs_draw2 [0, 0, 0, 0, 0, 0, 0, 0, 1] [([0, 1, 2, 3, 4, 5, 6, 7], [], 8)] [] (by decide +kernel) ?_
      simp only [vsAll, loadA, loadRow, partA, partOk, fieldAddrA, nilCheckA, opA, copyA, dstOk, Nat.reduceLT, Nat.reduceEqDiff, ↓reduceIte, reduceCtorEq, eq_self, wtAll, hh_ist, Nat.min_self]
      refine ⟨fun i hi => by simp [stF, okCells, cellA], ?_⟩
      refine vs_draw2 [0, 0, 0, 0, 1, 0, 0, 0, 0, 0, 0, 0, 0, 3, 0, 0, 0, 0, 0, 0, 0, 5, 6, 7] [([0, 1, 2, 3, 5, 6, 7, 8, 9, 10, 11, 12, 14, 15, 16, 17, 18, 19, 20], [2, 9, 12, 18], 4), ([], [2, 18], 13), ([], [2], 21), ([22], [], 23)] [] (by decide +kernel) ?_
      simp only [vsAll, loadA, loadRow, partA, partOk, fieldAddrA, indexAddrA, nilCheckA, cellA, cellsA, fillA, okParts, buildSliceA, buildMutA, partIdx, elemsA, lensA, okAll, stAll, opsA, partsA, partsOk, opA, newCells, okCells, storeObj, appendA, dstOk, Nat.reduceAdd, Nat.reduceMul, Nat.reduceLT, Nat.reduceLeDiff, Nat.reduceEqDiff, Nat.reduceBEq, ↓reduceIte, reduceCtorEq, eq_self, wtAll, hh_ist, stF_at]
      refine ⟨by ((try clear hh_i8); (try clear hh_iow); (try clear hh_ist); omega), by ((try clear hh_i8); (try clear hh_iow); (try clear hh_ist); omega), ?_⟩
      intro im hh_im; (try simp only [ite_none] at hh_im)
      have hml := k.st s hs
      have hcp : cpF 0 x.st.length (fun _ => [.lit (.slice none 0 0)]) 0 (stF x.st) s = [mksAV (x.st.getD s [])] := cpS_at x hs
      simp only [vsAll, Nat.reduceLT, ↓reduceIte, eq_self, hh_im, hcp]
      refine ⟨by ((try clear hh_i8); (try clear hh_iow); (try clear hh_ist); (try clear hh_im); omega), fun q hq => by simp [mkF, okCells, cellA], by ((try clear hh_i8); (try clear hh_iow); (try clear hh_ist); (try clear hh_im); omega), by ((try clear hh_i8); (try clear hh_iow); (try clear hh_ist); (try clear hh_im); omega), fun q hq => by simp [okCells, cellA, show q = 0 by ((try clear hh_i8); (try clear hh_iow); (try clear hh_ist); (try clear hh_im); omega)], by ((try clear hh_i8); (try clear hh_iow); (try clear hh_ist); (try clear hh_im); omega), by ((try clear hh_i8); (try clear hh_iow); (try clear hh_ist); (try clear hh_im); omega), by ((try clear hh_i8); (try clear hh_iow); (try clear hh_ist); (try clear hh_im); omega), by ((try clear hh_i8); (try clear hh_iow); (try clear hh_ist); (try clear hh_im); omega), ?_⟩
      rw [Hp.set_set, Hp.set_set]
      refine callK_pure (wfit_tri x S C m o s _ k.gd ho hs) ?_
      simp only [vsAll, opA, dstOk, nilSliceOp, Nat.reduceLT, Nat.reduceEqDiff, Nat.reduceBEq, ↓reduceIte, reduceCtorEq, eq_self]
      refine fn_ent (Ent.of [(6, .ref i8 0 8 0 0), (7, boo (fitB x o s))] (H' := ((((H.set i8 (.box 8 1 fun _ => [i64 (x.F + 1), .sl iow 1 x.ow.length, intsAV x.mo, .sl ist 1 x.st.length, clAV x.cl, u64 S, u64 C, boo m])).set iow (.row 1 x.ow.length (rowO x o x.ow.length))).set im (.row 3 ((x.st.getD s []).length + 1) (extM (x.st.getD s []) x.F))).set ist (.row 1 x.st.length (updF x.st.length s (cpS x) [.sl im 3 ((x.st.getD s []).length + 1)])))) (by simp only [vsAll, Nat.reduceEqDiff, ↓reduceIte, eq_self]) ?_ ?_)
      · (repeat (first | exact HSub_rfl | refine HSub_put_eq (by simp only [vsAll, ↓reduceIte, eq_self, hh_iow, hh_ist, hh_im]) ?_ | refine HSub_drop2 (by simp only [eq_self, hh_i8, hh_iow, hh_ist, hh_im]) ?_ | refine HSub_keep_eq (by simp only [vsAll, binA, binLitA, intA, aggA, boolA, nilA2, isConst, unA, loadA, loadRow, partA, partOk, fieldAddrA, indexAddrA, indexA, fieldA, extractA, lenA, nilCheckA, boxA, cellA, cellsA, fillA, okParts, buildSliceA, buildMutA, makeSliceA, partIdx, elemsA, lensA, ifaceA, convA, mmA, pickA, okAll, stAll, opsA, partsA, partsOk, opA, allocA, boxMutA, newCells, okCells, storeObj, appendA, guardV, taA, nM, mapUpA, lookA, sliceA, boundsA, opO, okO, copyA, dstOk, nilA, quietOk, nilSliceOp, panA, resA, argFr, retA.eq_1, retA.eq_2, Nat.reduceAdd, Nat.reduceSub, Nat.reduceMul, Nat.reduceLT, Nat.reduceLeDiff, Nat.reduceEqDiff, Nat.reduceBEq, Int.reduceAdd, Int.reduceSub, Int.reduceMul, Int.reduceNeg, Int.reduceLE, Int.reduceLT, Int.reduceEq, Int.reduceNe, Int.reduceToNat, ↓reduceIte, reduceCtorEq, implies_true, forall_const, eq_self, ne_eq, wtAll, Try.ntmps66, Try.results66, hh_i8, hh_iow, hh_ist, hh_im]) ?_))
      · have d1 := hh_im.1
        have d2 := hh_iow.2.2
        refine fn_ent (Ent.freezeRow (s' := _) (id := im) (st := 3) (n := (x.st.getD s []).length + 1) (f := extM (x.st.getD s []) x.F) (j := ist) (st' := 1) (n' := x.st.length) (g := updF x.st.length s (cpS x) [.sl im 3 ((x.st.getD s []).length + 1)])
          (g' := (fun j => if j = s then [.rsl ((x.st.getD s []).length + 1) 3 (extM (x.st.getD s []) x.F)] else cpS x j)) (by simp only [vsAll, ↓reduceIte, eq_self, hh_im]) (by simp only [vsAll, ↓reduceIte, eq_self]) (by simp only [vsAll, ne_eq, hh_im]) (fun t => .rfl) (fun q hq => ?_) (fun q c hq hc => cpS_frz hs hq hc) ?_)
        · show (ite _ _ _ : List AV).length = 1
          split
          · rfl
          · rw [cpS_at x hq]; rfl
        refine fn_ent (Ent.of [(6, .ref i8 0 8 0 0), (7, boo (fitB x o s))] (H' := ((H.set i8 (.box 8 1 fun _ => [i64 (x.F + 1), .sl iow 1 x.ow.length, intsAV x.mo, .sl ist 1 x.st.length, clAV x.cl, u64 S, u64 C, boo m])).set iow (.row 1 x.ow.length (rowO x o x.ow.length))).set ist (.row 1 x.st.length (fun j => if j = s then [.rsl ((x.st.getD s []).length + 1) 3 (extM (x.st.getD s []) x.F)] else cpS x j))) (by simp only [vsAll, Nat.reduceEqDiff, ↓reduceIte, eq_self]) ?_ ?_)
        · exact HSub.set (HSub_del (by simp only [vsAll, ↓reduceIte, eq_self, hh_im]) (HSub_drop2 (by simp only [vsAll, ↓reduceIte, eq_self, hh_ist]) (HSub_drop2 (by simp only [vsAll, ↓reduceIte, eq_self, hh_im]) HSub_rfl))) (.refl _)
        refine fn_ent (Ent.freezeBox (s' := _) (id := iow) (st := 1) (n := x.ow.length) (f := rowO x o x.ow.length) (j := i8) (st' := 8) (n' := 1) (g := fun _ => [i64 (x.F + 1), .sl iow 1 x.ow.length, intsAV x.mo, .sl ist 1 x.st.length, clAV x.cl, u64 S, u64 C, boo m]) (g' := fun _ => [i64 (x.F + 1), .rsl x.ow.length 1 (rowO x o x.ow.length), intsAV x.mo, .sl ist 1 x.st.length, clAV x.cl, u64 S, u64 C, boo m]) (by simp only [vsAll, ↓reduceIte, eq_self, hh_ist]) (by simp only [vsAll, ↓reduceIte, eq_self, hh_iow, hh_ist]) (fun t => .rfl) (fun _ _ => rfl) (fun q c hq hc => ?_) ?_)
        · match c, hc with
          | 0, _ => exact .rfl
          | 1, _ => exact .hit
          | 2, _ => exact .rfl
          | 3, _ => exact .rfl
          | 4, _ => exact .rfl
          | 5, _ => exact .rfl
          | 6, _ => exact .rfl
          | 7, _ => exact .rfl
        refine fn_ent (Ent.of [(6, .ref i8 0 8 0 0), (7, boo (fitB x o s))] (H' := (H.set i8 (.box 8 1 fun _ => [i64 (x.F + 1), .rsl x.ow.length 1 (rowO x o x.ow.length), intsAV x.mo, .sl ist 1 x.st.length, clAV x.cl, u64 S, u64 C, boo m])).set ist (.row 1 x.st.length (fun j => if j = s then [.rsl ((x.st.getD s []).length + 1) 3 (extM (x.st.getD s []) x.F)] else cpS x j))) (by simp only [vsAll, Nat.reduceEqDiff, ↓reduceIte, eq_self]) ?_ ?_)
        · exact HSub_put (o' := .row 1 x.st.length (fun j => if j = s then [.rsl ((x.st.getD s []).length + 1) 3 (extM (x.st.getD s []) x.F)] else cpS x j)) (by simp only [vsAll, ↓reduceIte, eq_self, hh_ist, Hp.del_get]) (.refl _) (HSub.set (HSub_del hh_iow.2.2 (HSub_drop2 hh_ist.2.2 (HSub_drop2 hh_iow.2.2 (HSub_drop2 hh_i8 HSub_rfl)))) (.refl _))
        refine fn_ent (Ent.freezeBox (s' := _) (id := ist) (st := 1) (n := x.st.length) (f := (fun j => if j = s then [.rsl ((x.st.getD s []).length + 1) 3 (extM (x.st.getD s []) x.F)] else cpS x j)) (j := i8) (st' := 8) (n' := 1) (g := fun _ => [i64 (x.F + 1), .rsl x.ow.length 1 (rowO x o x.ow.length), intsAV x.mo, .sl ist 1 x.st.length, clAV x.cl, u64 S, u64 C, boo m]) (g' := fun _ => [i64 (x.F + 1), .rsl x.ow.length 1 (rowO x o x.ow.length), intsAV x.mo, .rsl x.st.length 1 (fun j => if j = s then [.rsl ((x.st.getD s []).length + 1) 3 (extM (x.st.getD s []) x.F)] else cpS x j), clAV x.cl, u64 S, u64 C, boo m]) (by simp only [vsAll, ↓reduceIte, eq_self]) (by simp only [vsAll, ↓reduceIte, eq_self, hh_ist]) (fun t => .rfl) (fun _ _ => rfl) (fun q c hq hc => ?_) ?_)
        · match c, hc with
          | 0, _ => exact .rfl
          | 1, _ => exact .rfl
          | 2, _ => exact .rfl
          | 3, _ => exact .hit
          | 4, _ => exact .rfl
          | 5, _ => exact .rfl
          | 6, _ => exact .rfl
          | 7, _ => exact .rfl
        refine fn_ent (Ent.of [(6, .ref i8 0 8 0 0), (7, boo (fitB x o s))] (H' := H.set i8 (.box 8 1 fun _ => irC (withI x s o) S C m)) (by simp only [vsAll, Nat.reduceEqDiff, ↓reduceIte, eq_self]) ?_ ?_)
        · refine HSub.set (HSub_del hh_ist.2.2 (HSub_drop2 hh_ist.2.2 (HSub_drop2 hh_i8 HSub_rfl))) (box_leA (fun _ _ => rfl) fun q hq c hc => ?_)
          match c, hc with
          | 0, _ => exact AV.Le.refl _
          | 1, _ => exact ow_le x s o
          | 2, _ => exact AV.Le.refl _
          | 3, _ => exact st_le x s o hs
          | 4, _ => exact AV.Le.refl _
          | 5, _ => exact AV.Le.refl _
          | 6, _ => exact AV.Le.refl _
          | 7, _ => exact AV.Le.refl _
        refine fn_ent (Ent.freezeB (id := i8) (s' := Fr.of [(6, irP (withI x s o) S C m), (7, boo (fitB x o s))]) (Hp.set_same _ _ _) (fun t => ?_) ?_)
        · by_cases ht : t = 6
          · subst ht
            exact .inr ⟨0, 0, rfl, rfl⟩
          · left
            simp only [Fr.of]
            simp [ht]
        rw [set_del hh_i8]
        refine ret0 ?_
        simp only [vsAll, resA, retA.eq_2, Nat.reduceEqDiff, ↓reduceIte, eq_self, Try.results66]
        exact dropR_pure rfl (HSub.refl _)
end Go.Proofs.Ytkonoggmdcdeeaa
end
section
set_option linter.unusedVariables false
set_option linter.unusedSimpArgs false
set_option maxHeartbeats 4000000
set_option maxRecDepth 100000
namespace Go.Proofs.Ytkonoggmdcdeeaa
open Go.V
theorem withI_ow {x : Ir} {s o i : Nat} (hi : i < x.ow.length) : (withI x s o).ow.getD i [] = owW x o i := getD_mapR _ _ _ _ hi
theorem withI_st {x : Ir} {s o i : Nat} (hi : i < x.st.length) : (withI x s o).st.getD i [] = stW x s i := getD_mapR _ _ _ _ hi
theorem withI_gd {x : Ir} (k : Ok x) (s o : Nat) : Gd (withI x s o) := by
  have lo : (withI x s o).ow.length = x.ow.length := by simp [withI]
  have ls : (withI x s o).st.length = x.st.length := by simp [withI]
  have hF := k.F
  refine ⟨by show 0 ≤ x.F + 1 ∧ x.F + 1 ≤ 5; omega, by rw [lo]; exact k.nO, by rw [lo]; exact k.nM, by rw [ls]; exact k.nS, k.nC, fun i hi => ?_, fun i hi => k.mo i (by omega), fun i hi q hq => ?_, fun i hi => ?_, fun i hi q hq => ?_, fun i hi q hq => ?_, fun i hi => by rw [ls]; exact k.cs i hi, fun i hi => by rw [lo]; exact k.co i hi⟩
  · rw [lo] at hi
    rw [withI_ow hi, owW, List.length_append]
    have := k.ow i hi
    show ((_ + 1 : Nat) : Int) = x.F + 1
    omega
  · rw [lo] at hi
    rw [withI_ow hi, owW, getD_snoc]
    have h1 := k.ow i hi
    have h2 : (q : Int) < x.F + 1 := hq
    split
    · split <;> omega
    · exact k.ov i hi q (by omega)
  · rw [ls] at hi
    rw [withI_st hi, stW]
    have := k.st i hi
    split
    · rw [List.length_append]; show _ + 1 ≤ 7; omega
    · omega
  · rw [ls] at hi
    rw [withI_st hi] at hq ⊢
    show 0 ≤ _ ∧ _ < x.F + 1
    unfold stW at hq ⊢
    split at hq <;> rename_i e
    · rw [if_pos e, getD_snoc]
      split
      · show 0 ≤ x.F ∧ x.F < x.F + 1; omega
      · rename_i hne
        rw [List.length_append] at hq
        have := k.sf i hi q (by simp only [List.length_cons, List.length_nil] at hq; omega)
        omega
    · rw [if_neg e]
      have := k.sf i hi q hq
      omega
  · rw [ls] at hi
    rw [withI_st hi] at hq ⊢
    unfold stW at hq ⊢
    split at hq <;> rename_i e
    · rw [if_pos e, getD_snoc]
      split
      · exact ⟨(by decide : (0 : Int) ≤ 1), (by decide : (1 : Int) ≤ 1), (by decide : (1 : Int) ≤ 9)⟩
      · rename_i hne
        rw [List.length_append] at hq
        exact k.sl i hi q (by simp only [List.length_cons, List.length_nil] at hq; omega)
    · rw [if_neg e]
      exact k.sl i hi q hq

def likB (x : Ir) (s o : Nat) : Bool := fitB x o s && ((tlW (withI x s o) (fullS x) (fullC x) false).isSome && decide (((tlW (withI x s o) (fullS x) (fullC x) false).getD (0, 0)).1 = ((tlW x (fullS x) (fullC x) false).getD (0, 0)).1))
def likN (x : Ir) (s : Nat) : Nat → Nat
  | 0 => 0
  | o + 1 => likN x s o + if likB x s o = true then 2 ^ o else 0
theorem likN_lt (x : Ir) (s o : Nat) : likN x s o < 2 ^ o := by
  induction o with
  | zero => simp [likN]
  | succ o ih => simp only [likN, Nat.pow_succ]; split <;> omega
def likE (x : Ir) (s : Int) : Int := errE x (strB x s) true
def likV (x : Ir) (s : Int) : Nat := if likE x s = 0 then likN x s.toNat x.ow.length else 0
theorem dec_cast2 (a b : Nat) (x : Bool) : (x && decide ((a : Int) = (b : Int))) = (x && decide (a = b)) := by
  rw [show decide ((a : Int) = (b : Int)) = decide (a = b) from decide_eq_decide.2 (by omega)]
theorem wlikely_tri (x : Ir) (s : Int) (H : Hp) (kn : Near x) : PTri Try.prog (fnA 25) [x.av, i64 s] H (.tuple [i64 (likV x s : Nat), i64 (likE x s)]) := by
  refine Tri.drop ?_
  refine tri_a (m := fun _ => false) ans43 Try.func25 (by kernel_rfl) rfl (by simp only [List.length_append, List.length_cons, List.length_nil, Try.ntmps25]; decide) ?_
  simp only [vsAll, boxA, okAll, stAll, opsA, opA, allocA, dstOk, nilSliceOp, argFr, Nat.reduceAdd, Nat.reduceLT, ↓reduceIte, eq_self, wtAll, Try.ntmps25]
  intro i5 hh_i5; (try simp only [Hp.set_none, ite_none] at hh_i5)
  refine vs_draw2 [0, 0, 0, 1, 3, 4] [([0, 1, 2], [], 3), ([], [], 4)] [5] (by decide +kernel) ?_
  simp only [vsAll, loadA, loadRow, partA, partOk, opA, dstOk, argFr, Nat.reduceLT, Nat.reduceEqDiff, ↓reduceIte, eq_self, wtAll]
  refine qcall _ ⟨trivial, by simp only [vsAll, okAll, opsA, opA, ↓reduceIte, eq_self], isStrakeF_tri s _⟩ ?_
  simp only [vsAll, okAll, stAll, opsA, opA, dstOk, Nat.reduceLT, Nat.reduceEqDiff, ↓reduceIte, eq_self]
  refine open_call (open_tri x _ (strB x s) _ kn trivial rfl (fun hk H' => isStrake1_tri x _ _ _ s H' kn)) (fun hno => ?_) (fun hk hv => ?_) (fun hk hv => ?_)
  · have e : likE x s = 1 := errE_no hno _ _
    have ev : likV x s = 0 := by simp only [likV, e]; rfl
    simp only [vsAll]
    refine ⟨1, i5, _, rfl, rfl, by simp only [vsAll, ↓reduceIte, eq_self]; try rfl, ?_⟩
    simp only [vsAll, loadA, loadRow, partA, partOk, resA, retA.eq_2, Nat.reduceLT, Nat.reduceEqDiff, ↓reduceIte, eq_self, wtAll, Try.results25]
    refine dropR_pure ?_ (by (repeat (first | exact HSub_rfl | refine HSub_put_eq (by simp only [vsAll, binA, binLitA, intA, aggA, boolA, nilA2, isConst, unA, loadA, loadRow, partA, partOk, fieldAddrA, indexAddrA, indexA, fieldA, extractA, lenA, nilCheckA, boxA, cellA, cellsA, fillA, okParts, buildSliceA, buildMutA, makeSliceA, partIdx, elemsA, lensA, ifaceA, convA, mmA, pickA, okAll, stAll, opsA, partsA, partsOk, opA, allocA, boxMutA, newCells, okCells, storeObj, appendA, guardV, taA, nM, mapUpA, lookA, sliceA, boundsA, opO, okO, copyA, dstOk, nilA, quietOk, nilSliceOp, panA, resA, argFr, retA.eq_1, retA.eq_2, Nat.reduceAdd, Nat.reduceSub, Nat.reduceMul, Nat.reduceLT, Nat.reduceLeDiff, Nat.reduceEqDiff, Nat.reduceBEq, Int.reduceAdd, Int.reduceSub, Int.reduceMul, Int.reduceNeg, Int.reduceLE, Int.reduceLT, Int.reduceEq, Int.reduceNe, Int.reduceToNat, ↓reduceIte, reduceCtorEq, implies_true, forall_const, eq_self, ne_eq, wtAll, Try.ntmps25, Try.results25, hh_i5]) ?_ | refine HSub_drop2 (by simp only [eq_self, hh_i5]) ?_ | refine HSub_keep_eq (by simp only [vsAll, binA, binLitA, intA, aggA, boolA, nilA2, isConst, unA, loadA, loadRow, partA, partOk, fieldAddrA, indexAddrA, indexA, fieldA, extractA, lenA, nilCheckA, boxA, cellA, cellsA, fillA, okParts, buildSliceA, buildMutA, makeSliceA, partIdx, elemsA, lensA, ifaceA, convA, mmA, pickA, okAll, stAll, opsA, partsA, partsOk, opA, allocA, boxMutA, newCells, okCells, storeObj, appendA, guardV, taA, nM, mapUpA, lookA, sliceA, boundsA, opO, okO, copyA, dstOk, nilA, quietOk, nilSliceOp, panA, resA, argFr, retA.eq_1, retA.eq_2, Nat.reduceAdd, Nat.reduceSub, Nat.reduceMul, Nat.reduceLT, Nat.reduceLeDiff, Nat.reduceEqDiff, Nat.reduceBEq, Int.reduceAdd, Int.reduceSub, Int.reduceMul, Int.reduceNeg, Int.reduceLE, Int.reduceLT, Int.reduceEq, Int.reduceNe, Int.reduceToNat, ↓reduceIte, reduceCtorEq, implies_true, forall_const, eq_self, ne_eq, wtAll, Try.ntmps25, Try.results25, hh_i5]) ?_)))
    simp only [eq_self, ev, e, Int.natCast_zero]
  · have e : likE x s = 2 := by unfold likE; rw [hv]; exact errE_bad hk _
    have ev : likV x s = 0 := by simp only [likV, e]; rfl
    simp only [vsAll]
    refine ⟨2, i5, _, rfl, rfl, by simp only [vsAll, ↓reduceIte, eq_self]; try rfl, ?_⟩
    simp only [vsAll, loadA, loadRow, partA, partOk, resA, retA.eq_2, Nat.reduceLT, Nat.reduceEqDiff, ↓reduceIte, eq_self, wtAll, Try.results25]
    refine dropR_pure ?_ (by (repeat (first | exact HSub_rfl | refine HSub_put_eq (by simp only [vsAll, binA, binLitA, intA, aggA, boolA, nilA2, isConst, unA, loadA, loadRow, partA, partOk, fieldAddrA, indexAddrA, indexA, fieldA, extractA, lenA, nilCheckA, boxA, cellA, cellsA, fillA, okParts, buildSliceA, buildMutA, makeSliceA, partIdx, elemsA, lensA, ifaceA, convA, mmA, pickA, okAll, stAll, opsA, partsA, partsOk, opA, allocA, boxMutA, newCells, okCells, storeObj, appendA, guardV, taA, nM, mapUpA, lookA, sliceA, boundsA, opO, okO, copyA, dstOk, nilA, quietOk, nilSliceOp, panA, resA, argFr, retA.eq_1, retA.eq_2, Nat.reduceAdd, Nat.reduceSub, Nat.reduceMul, Nat.reduceLT, Nat.reduceLeDiff, Nat.reduceEqDiff, Nat.reduceBEq, Int.reduceAdd, Int.reduceSub, Int.reduceMul, Int.reduceNeg, Int.reduceLE, Int.reduceLT, Int.reduceEq, Int.reduceNe, Int.reduceToNat, ↓reduceIte, reduceCtorEq, implies_true, forall_const, eq_self, ne_eq, wtAll, Try.ntmps25, Try.results25, hh_i5]) ?_ | refine HSub_drop2 (by simp only [eq_self, hh_i5]) ?_ | refine HSub_keep_eq (by simp only [vsAll, binA, binLitA, intA, aggA, boolA, nilA2, isConst, unA, loadA, loadRow, partA, partOk, fieldAddrA, indexAddrA, indexA, fieldA, extractA, lenA, nilCheckA, boxA, cellA, cellsA, fillA, okParts, buildSliceA, buildMutA, makeSliceA, partIdx, elemsA, lensA, ifaceA, convA, mmA, pickA, okAll, stAll, opsA, partsA, partsOk, opA, allocA, boxMutA, newCells, okCells, storeObj, appendA, guardV, taA, nM, mapUpA, lookA, sliceA, boundsA, opO, okO, copyA, dstOk, nilA, quietOk, nilSliceOp, panA, resA, argFr, retA.eq_1, retA.eq_2, Nat.reduceAdd, Nat.reduceSub, Nat.reduceMul, Nat.reduceLT, Nat.reduceLeDiff, Nat.reduceEqDiff, Nat.reduceBEq, Int.reduceAdd, Int.reduceSub, Int.reduceMul, Int.reduceNeg, Int.reduceLE, Int.reduceLT, Int.reduceEq, Int.reduceNe, Int.reduceToNat, ↓reduceIte, reduceCtorEq, implies_true, forall_const, eq_self, ne_eq, wtAll, Try.ntmps25, Try.results25, hh_i5]) ?_)))
    simp only [eq_self, ev, e, Int.natCast_zero]
  · simp only [vsAll, okAll, stAll, opsA, opA, dstOk, Nat.reduceLT, ↓reduceIte, eq_self]
    refine told_call hk (full_lt hk).2 (fun hl => ?_) (fun hl => ?_)
    · have e : likE x s = 0 := by unfold likE; rw [hv]; exact errE_told hk hl
      rw [strB_iff] at hv
      obtain ⟨q, rfl⟩ : ∃ q : Nat, s = (q : Int) := ⟨s.toNat, by ((try clear hh_i5); omega)⟩
      have nO := hk.nO
      simp only [vsAll, okAll, stAll, opsA, opA, dstOk, Nat.reduceLT, ↓reduceIte, eq_self]
      refine callK_pure (least_tri x (fullS x) (fullC x) false _ hk.gd (full_lt hk).1 (full_lt hk).2) ?_
      simp only [vsAll, loadA, loadRow, partA, partOk, fieldAddrA, extractA, lenA, cellA, cellsA, opA, allocA, newCells, okCells, storeObj, dstOk, nilSliceOp, Nat.reduceAdd, Nat.reduceLT, Nat.reduceEqDiff, ↓reduceIte, eq_self, wtAll]
      intro i7 hh_i7; (try simp only [ite_none] at hh_i7)
      refine vs_loop (σ := Nat) (fun i => i ≤ x.ow.length) (fun i => [(1, i64 q), (5, .ref i5 0 1 0 0), (6, irP x (fullS x) (fullC x) false), (7, .ref i7 0 2 0 0), (9, i64 (likN x q i : Nat)), (27, i64 x.ow.length), (28, i64 i)])
        (fun _ => (H.set i5 (.box 1 1 fun _ => [i64 0])).set i7 (.box 2 1 fun _ => [i64 (((tlW x (fullS x) (fullC x) false).getD (0, 0)).1 : Nat), i64 (((tlW x (fullS x) (fullC x) false).getD (0, 0)).2 : Nat)])) (fun i => x.ow.length - i) 0 (by ((try clear hh_i5); (try clear hh_i7); omega)) ?_ ?_ fun i hi => ?_
      · simp only [vsAll, argFr, Nat.reduceEqDiff, ↓reduceIte, eq_self, Int.natCast_zero, likN]
      · (repeat (first | exact HSub_rfl | refine HSub_put_eq (by simp only [vsAll, ↓reduceIte, eq_self, hh_i7]) ?_ | refine HSub_drop2 (by simp only [eq_self, hh_i5, hh_i7]) ?_ | refine HSub_keep_eq (by simp only [vsAll, binA, binLitA, intA, aggA, boolA, nilA2, isConst, unA, loadA, loadRow, partA, partOk, fieldAddrA, indexAddrA, indexA, fieldA, extractA, lenA, nilCheckA, boxA, cellA, cellsA, fillA, okParts, buildSliceA, buildMutA, makeSliceA, partIdx, elemsA, lensA, ifaceA, convA, mmA, pickA, okAll, stAll, opsA, partsA, partsOk, opA, allocA, boxMutA, newCells, okCells, storeObj, appendA, guardV, taA, nM, mapUpA, lookA, sliceA, boundsA, opO, okO, copyA, dstOk, nilA, quietOk, nilSliceOp, panA, resA, argFr, retA.eq_1, retA.eq_2, Nat.reduceAdd, Nat.reduceSub, Nat.reduceMul, Nat.reduceLT, Nat.reduceLeDiff, Nat.reduceEqDiff, Nat.reduceBEq, Int.reduceAdd, Int.reduceSub, Int.reduceMul, Int.reduceNeg, Int.reduceLE, Int.reduceLT, Int.reduceEq, Int.reduceNe, Int.reduceToNat, ↓reduceIte, reduceCtorEq, implies_true, forall_const, eq_self, ne_eq, wtAll, Try.ntmps25, Try.results25, hh_i5, hh_i7]) ?_))
      · simp only [vsAll, binA, binLitA, intA, opA, dstOk, Nat.reduceLT, Nat.reduceEqDiff, ↓reduceIte, eq_self]
        refine condD (fun hd => ?_) (fun hd => ?_)
        · have hb := likN_lt x q i
          have hp : 2 ^ i ≤ 2 ^ 5 := Nat.pow_le_pow_right (by decide) (by ((try clear hh_i5); (try clear hh_i7); omega))
          have ep : (1 : Int) * 2 ^ i = ((2 ^ i : Nat) : Int) := by rw [Int.one_mul]; simp
          simp only [vsAll, okAll, stAll, opsA, opA, dstOk, nilSliceOp, Nat.reduceLT, Nat.reduceEqDiff, ↓reduceIte, eq_self]
          refine callK_pure (with1_tri x _ _ _ q i _ hk (by ((try clear hh_i5); (try clear hh_i7); omega)) (by ((try clear hh_i5); (try clear hh_i7); omega))) ?_
          simp only [vsAll, extractA, opA, dstOk, nilSliceOp, Nat.reduceAdd, Nat.reduceLT, Nat.reduceEqDiff, ↓reduceIte, eq_self]
          refine condV (fun hf => ?_) (fun hf => ?_)
          · simp only [vsAll, okAll, stAll, opsA, opA, dstOk, Nat.reduceLT, Nat.reduceEqDiff, ↓reduceIte, eq_self]
            refine callK_pure (least_tri (withI x q i) (fullS x) (fullC x) false _ (withI_gd hk q i) (full_lt hk).1 (full_lt hk).2) ?_
            have hlb : likB x q i = ((tlW (withI x q i) (fullS x) (fullC x) false).isSome && decide (((tlW (withI x q i) (fullS x) (fullC x) false).getD (0, 0)).1 = ((tlW x (fullS x) (fullC x) false).getD (0, 0)).1)) := by simp only [likB, hf, Bool.true_and]
            generalize tlW (withI x q i) (fullS x) (fullC x) false = tv at hlb ⊢
            simp only [vsAll, binA, binLitA, intA, loadA, loadRow, partA, partOk, fieldAddrA, extractA, cellA, cellsA, pickA, opA, allocA, newCells, okCells, storeObj, guardV, dstOk, nilSliceOp, Nat.reduceAdd, Nat.reduceLT, Nat.reduceEqDiff, ↓reduceIte, implies_true, eq_self, wtAll]
            intro i13 hh_i13; (try simp only [ite_none] at hh_i13)
            simp only [vsAll, Nat.reduceLT, ↓reduceIte, eq_self, hh_i13]
            rw [dec_cast2, ← hlb]
            refine condV (fun hc => ?_) (fun hc => ?_)
            · have e2 : likN x q (i + 1) = likN x q i + 2 ^ i := by simp only [likN, hc, if_true]
              simp only [vsAll, binA, binLitA, intA, opA, dstOk, nilSliceOp, Nat.reduceLT, Nat.reduceEqDiff, ↓reduceIte, eq_self, ep]
              have eo : likN x q i ||| 2 ^ i = likN x q (i + 1) := by rw [or_bit _ _ hb, e2]
              refine ⟨⟨by ((try clear hh_i5); (try clear hh_i7); (try clear hh_i13); omega), by ((try clear hh_i5); (try clear hh_i7); (try clear hh_i13); omega), by simp only [InR_i64]; ((try clear hh_i5); (try clear hh_i7); (try clear hh_i13); omega)⟩, ⟨by ((try clear hh_i5); (try clear hh_i7); (try clear hh_i13); omega), by ((try clear hh_i5); (try clear hh_i7); (try clear hh_i13); omega), by simp only [InR_i64]; ((try clear hh_i5); (try clear hh_i7); (try clear hh_i13); omega), by simp only [InR_i64]; ((try clear hh_i5); (try clear hh_i7); (try clear hh_i13); omega)⟩, by simp only [InR_i64]; ((try clear hh_i5); (try clear hh_i7); (try clear hh_i13); omega), loop_next (i + 1) (by ((try clear hh_i5); (try clear hh_i7); (try clear hh_i13); omega)) (by ((try clear hh_i5); (try clear hh_i7); (try clear hh_i13); omega)) ?_ ?_⟩
              · simp only [vsAll, Nat.reduceEqDiff, ↓reduceIte, eq_self, Int.natCast_add, Int.natCast_one, eo]
              · (repeat (first | exact HSub_rfl | refine HSub_put_eq (by simp only [vsAll, ↓reduceIte, eq_self, hh_i7, hh_i13]) ?_ | refine HSub_drop2 (by simp only [eq_self, hh_i5, hh_i7, hh_i13]) ?_ | refine HSub_keep_eq (by simp only [vsAll, binA, binLitA, intA, aggA, boolA, nilA2, isConst, unA, loadA, loadRow, partA, partOk, fieldAddrA, indexAddrA, indexA, fieldA, extractA, lenA, nilCheckA, boxA, cellA, cellsA, fillA, okParts, buildSliceA, buildMutA, makeSliceA, partIdx, elemsA, lensA, ifaceA, convA, mmA, pickA, okAll, stAll, opsA, partsA, partsOk, opA, allocA, boxMutA, newCells, okCells, storeObj, appendA, guardV, taA, nM, mapUpA, lookA, sliceA, boundsA, opO, okO, copyA, dstOk, nilA, quietOk, nilSliceOp, panA, resA, argFr, retA.eq_1, retA.eq_2, Nat.reduceAdd, Nat.reduceSub, Nat.reduceMul, Nat.reduceLT, Nat.reduceLeDiff, Nat.reduceEqDiff, Nat.reduceBEq, Int.reduceAdd, Int.reduceSub, Int.reduceMul, Int.reduceNeg, Int.reduceLE, Int.reduceLT, Int.reduceEq, Int.reduceNe, Int.reduceToNat, ↓reduceIte, reduceCtorEq, implies_true, forall_const, eq_self, ne_eq, wtAll, Try.ntmps25, Try.results25, hh_i5, hh_i7, hh_i13]) ?_))
            · have e2 : likN x q (i + 1) = likN x q i := by simp only [likN, hc, Bool.false_eq_true, if_false, Nat.add_zero]
              simp only [vsAll, binA, binLitA, intA, opA, dstOk, Nat.reduceLT, Nat.reduceEqDiff, ↓reduceIte, eq_self]
              refine ⟨by simp only [InR_i64]; ((try clear hh_i5); (try clear hh_i7); (try clear hh_i13); omega), loop_next (i + 1) (by ((try clear hh_i5); (try clear hh_i7); (try clear hh_i13); omega)) (by ((try clear hh_i5); (try clear hh_i7); (try clear hh_i13); omega)) ?_ ?_⟩
              · simp only [vsAll, Nat.reduceEqDiff, ↓reduceIte, eq_self, Int.natCast_add, Int.natCast_one, e2]
              · (repeat (first | exact HSub_rfl | refine HSub_put_eq (by simp only [vsAll, ↓reduceIte, eq_self, hh_i7, hh_i13]) ?_ | refine HSub_drop2 (by simp only [eq_self, hh_i5, hh_i7, hh_i13]) ?_ | refine HSub_keep_eq (by simp only [vsAll, binA, binLitA, intA, aggA, boolA, nilA2, isConst, unA, loadA, loadRow, partA, partOk, fieldAddrA, indexAddrA, indexA, fieldA, extractA, lenA, nilCheckA, boxA, cellA, cellsA, fillA, okParts, buildSliceA, buildMutA, makeSliceA, partIdx, elemsA, lensA, ifaceA, convA, mmA, pickA, okAll, stAll, opsA, partsA, partsOk, opA, allocA, boxMutA, newCells, okCells, storeObj, appendA, guardV, taA, nM, mapUpA, lookA, sliceA, boundsA, opO, okO, copyA, dstOk, nilA, quietOk, nilSliceOp, panA, resA, argFr, retA.eq_1, retA.eq_2, Nat.reduceAdd, Nat.reduceSub, Nat.reduceMul, Nat.reduceLT, Nat.reduceLeDiff, Nat.reduceEqDiff, Nat.reduceBEq, Int.reduceAdd, Int.reduceSub, Int.reduceMul, Int.reduceNeg, Int.reduceLE, Int.reduceLT, Int.reduceEq, Int.reduceNe, Int.reduceToNat, ↓reduceIte, reduceCtorEq, implies_true, forall_const, eq_self, ne_eq, wtAll, Try.ntmps25, Try.results25, hh_i5, hh_i7, hh_i13]) ?_))
          · have e2 : likN x q (i + 1) = likN x q i := by simp only [likN, likB, hf, Bool.false_and, Bool.false_eq_true, if_false, Nat.add_zero]
            simp only [vsAll, binA, binLitA, intA, opA, dstOk, Nat.reduceLT, Nat.reduceEqDiff, ↓reduceIte, eq_self]
            refine ⟨by simp only [InR_i64]; ((try clear hh_i5); (try clear hh_i7); omega), loop_next (i + 1) (by ((try clear hh_i5); (try clear hh_i7); omega)) (by ((try clear hh_i5); (try clear hh_i7); omega)) ?_ ?_⟩
            · simp only [vsAll, Nat.reduceEqDiff, ↓reduceIte, eq_self, Int.natCast_add, Int.natCast_one, e2]
            · (repeat (first | exact HSub_rfl | refine HSub_put_eq (by simp only [vsAll, binA, binLitA, intA, aggA, boolA, nilA2, isConst, unA, loadA, loadRow, partA, partOk, fieldAddrA, indexAddrA, indexA, fieldA, extractA, lenA, nilCheckA, boxA, cellA, cellsA, fillA, okParts, buildSliceA, buildMutA, makeSliceA, partIdx, elemsA, lensA, ifaceA, convA, mmA, pickA, okAll, stAll, opsA, partsA, partsOk, opA, allocA, boxMutA, newCells, okCells, storeObj, appendA, guardV, taA, nM, mapUpA, lookA, sliceA, boundsA, opO, okO, copyA, dstOk, nilA, quietOk, nilSliceOp, panA, resA, argFr, retA.eq_1, retA.eq_2, Nat.reduceAdd, Nat.reduceSub, Nat.reduceMul, Nat.reduceLT, Nat.reduceLeDiff, Nat.reduceEqDiff, Nat.reduceBEq, Int.reduceAdd, Int.reduceSub, Int.reduceMul, Int.reduceNeg, Int.reduceLE, Int.reduceLT, Int.reduceEq, Int.reduceNe, Int.reduceToNat, ↓reduceIte, reduceCtorEq, implies_true, forall_const, eq_self, ne_eq, wtAll, Try.ntmps25, Try.results25, hh_i5, hh_i7]) ?_ | refine HSub_drop2 (by simp only [vsAll, binA, binLitA, intA, aggA, boolA, nilA2, isConst, unA, loadA, loadRow, partA, partOk, fieldAddrA, indexAddrA, indexA, fieldA, extractA, lenA, nilCheckA, boxA, cellA, cellsA, fillA, okParts, buildSliceA, buildMutA, makeSliceA, partIdx, elemsA, lensA, ifaceA, convA, mmA, pickA, okAll, stAll, opsA, partsA, partsOk, opA, allocA, boxMutA, newCells, okCells, storeObj, appendA, guardV, taA, nM, mapUpA, lookA, sliceA, boundsA, opO, okO, copyA, dstOk, nilA, quietOk, nilSliceOp, panA, resA, argFr, retA.eq_1, retA.eq_2, Nat.reduceAdd, Nat.reduceSub, Nat.reduceMul, Nat.reduceLT, Nat.reduceLeDiff, Nat.reduceEqDiff, Nat.reduceBEq, Int.reduceAdd, Int.reduceSub, Int.reduceMul, Int.reduceNeg, Int.reduceLE, Int.reduceLT, Int.reduceEq, Int.reduceNe, Int.reduceToNat, ↓reduceIte, reduceCtorEq, implies_true, forall_const, eq_self, ne_eq, wtAll, Try.ntmps25, Try.results25, hh_i5, hh_i7]) ?_ | refine HSub_keep_eq (by simp only [vsAll, binA, binLitA, intA, aggA, boolA, nilA2, isConst, unA, loadA, loadRow, partA, partOk, fieldAddrA, indexAddrA, indexA, fieldA, extractA, lenA, nilCheckA, boxA, cellA, cellsA, fillA, okParts, buildSliceA, buildMutA, makeSliceA, partIdx, elemsA, lensA, ifaceA, convA, mmA, pickA, okAll, stAll, opsA, partsA, partsOk, opA, allocA, boxMutA, newCells, okCells, storeObj, appendA, guardV, taA, nM, mapUpA, lookA, sliceA, boundsA, opO, okO, copyA, dstOk, nilA, quietOk, nilSliceOp, panA, resA, argFr, retA.eq_1, retA.eq_2, Nat.reduceAdd, Nat.reduceSub, Nat.reduceMul, Nat.reduceLT, Nat.reduceLeDiff, Nat.reduceEqDiff, Nat.reduceBEq, Int.reduceAdd, Int.reduceSub, Int.reduceMul, Int.reduceNeg, Int.reduceLE, Int.reduceLT, Int.reduceEq, Int.reduceNe, Int.reduceToNat, ↓reduceIte, reduceCtorEq, implies_true, forall_const, eq_self, ne_eq, wtAll, Try.ntmps25, Try.results25, hh_i5, hh_i7]) ?_))
        · have ei : i = x.ow.length := by ((try clear hh_i5); (try clear hh_i7); omega)
          have ev : likV x (q : Int) = likN x q i := by simp only [likV, e, if_true, Int.toNat_natCast, ei]
          simp only [vsAll, cellA, cellsA, opA, newCells, okCells, storeObj, dstOk, nilSliceOp, Nat.reduceLT, Nat.reduceEqDiff, ↓reduceIte, eq_self, wtAll, hh_i7]
          refine Ent.ret ⟨i5, _, rfl, by simp only [vsAll, ↓reduceIte, eq_self]; try rfl, ?_⟩
          simp only [vsAll, loadA, loadRow, partA, partOk, resA, retA.eq_2, Nat.reduceLT, Nat.reduceEqDiff, ↓reduceIte, eq_self, wtAll, Try.results25]
          refine dropR_pure ?_ (by (repeat (first | exact HSub_rfl | refine HSub_put_eq (by simp only [vsAll, binA, binLitA, intA, aggA, boolA, nilA2, isConst, unA, loadA, loadRow, partA, partOk, fieldAddrA, indexAddrA, indexA, fieldA, extractA, lenA, nilCheckA, boxA, cellA, cellsA, fillA, okParts, buildSliceA, buildMutA, makeSliceA, partIdx, elemsA, lensA, ifaceA, convA, mmA, pickA, okAll, stAll, opsA, partsA, partsOk, opA, allocA, boxMutA, newCells, okCells, storeObj, appendA, guardV, taA, nM, mapUpA, lookA, sliceA, boundsA, opO, okO, copyA, dstOk, nilA, quietOk, nilSliceOp, panA, resA, argFr, retA.eq_1, retA.eq_2, Nat.reduceAdd, Nat.reduceSub, Nat.reduceMul, Nat.reduceLT, Nat.reduceLeDiff, Nat.reduceEqDiff, Nat.reduceBEq, Int.reduceAdd, Int.reduceSub, Int.reduceMul, Int.reduceNeg, Int.reduceLE, Int.reduceLT, Int.reduceEq, Int.reduceNe, Int.reduceToNat, ↓reduceIte, reduceCtorEq, implies_true, forall_const, eq_self, ne_eq, wtAll, Try.ntmps25, Try.results25, hh_i5, hh_i7]) ?_ | refine HSub_drop2 (by simp only [eq_self, hh_i5, hh_i7]) ?_ | refine HSub_keep_eq (by simp only [vsAll, binA, binLitA, intA, aggA, boolA, nilA2, isConst, unA, loadA, loadRow, partA, partOk, fieldAddrA, indexAddrA, indexA, fieldA, extractA, lenA, nilCheckA, boxA, cellA, cellsA, fillA, okParts, buildSliceA, buildMutA, makeSliceA, partIdx, elemsA, lensA, ifaceA, convA, mmA, pickA, okAll, stAll, opsA, partsA, partsOk, opA, allocA, boxMutA, newCells, okCells, storeObj, appendA, guardV, taA, nM, mapUpA, lookA, sliceA, boundsA, opO, okO, copyA, dstOk, nilA, quietOk, nilSliceOp, panA, resA, argFr, retA.eq_1, retA.eq_2, Nat.reduceAdd, Nat.reduceSub, Nat.reduceMul, Nat.reduceLT, Nat.reduceLeDiff, Nat.reduceEqDiff, Nat.reduceBEq, Int.reduceAdd, Int.reduceSub, Int.reduceMul, Int.reduceNeg, Int.reduceLE, Int.reduceLT, Int.reduceEq, Int.reduceNe, Int.reduceToNat, ↓reduceIte, reduceCtorEq, implies_true, forall_const, eq_self, ne_eq, wtAll, Try.ntmps25, Try.results25, hh_i5, hh_i7]) ?_)))
          simp only [eq_self, ev, e]
    · have e : likE x s = 10 := by unfold likE; rw [hv]; exact errE_clash hk hl
      have ev : likV x s = 0 := by simp only [likV, e]; rfl
      simp only [vsAll]
      refine ⟨10, i5, _, rfl, rfl, by simp only [vsAll, ↓reduceIte, eq_self]; try rfl, ?_⟩
      simp only [vsAll, loadA, loadRow, partA, partOk, resA, retA.eq_2, Nat.reduceLT, Nat.reduceEqDiff, ↓reduceIte, eq_self, wtAll, Try.results25]
      refine dropR_pure ?_ (by (repeat (first | exact HSub_rfl | refine HSub_put_eq (by simp only [vsAll, binA, binLitA, intA, aggA, boolA, nilA2, isConst, unA, loadA, loadRow, partA, partOk, fieldAddrA, indexAddrA, indexA, fieldA, extractA, lenA, nilCheckA, boxA, cellA, cellsA, fillA, okParts, buildSliceA, buildMutA, makeSliceA, partIdx, elemsA, lensA, ifaceA, convA, mmA, pickA, okAll, stAll, opsA, partsA, partsOk, opA, allocA, boxMutA, newCells, okCells, storeObj, appendA, guardV, taA, nM, mapUpA, lookA, sliceA, boundsA, opO, okO, copyA, dstOk, nilA, quietOk, nilSliceOp, panA, resA, argFr, retA.eq_1, retA.eq_2, Nat.reduceAdd, Nat.reduceSub, Nat.reduceMul, Nat.reduceLT, Nat.reduceLeDiff, Nat.reduceEqDiff, Nat.reduceBEq, Int.reduceAdd, Int.reduceSub, Int.reduceMul, Int.reduceNeg, Int.reduceLE, Int.reduceLT, Int.reduceEq, Int.reduceNe, Int.reduceToNat, ↓reduceIte, reduceCtorEq, implies_true, forall_const, eq_self, ne_eq, wtAll, Try.ntmps25, Try.results25, hh_i5]) ?_ | refine HSub_drop2 (by simp only [eq_self, hh_i5]) ?_ | refine HSub_keep_eq (by simp only [vsAll, binA, binLitA, intA, aggA, boolA, nilA2, isConst, unA, loadA, loadRow, partA, partOk, fieldAddrA, indexAddrA, indexA, fieldA, extractA, lenA, nilCheckA, boxA, cellA, cellsA, fillA, okParts, buildSliceA, buildMutA, makeSliceA, partIdx, elemsA, lensA, ifaceA, convA, mmA, pickA, okAll, stAll, opsA, partsA, partsOk, opA, allocA, boxMutA, newCells, okCells, storeObj, appendA, guardV, taA, nM, mapUpA, lookA, sliceA, boundsA, opO, okO, copyA, dstOk, nilA, quietOk, nilSliceOp, panA, resA, argFr, retA.eq_1, retA.eq_2, Nat.reduceAdd, Nat.reduceSub, Nat.reduceMul, Nat.reduceLT, Nat.reduceLeDiff, Nat.reduceEqDiff, Nat.reduceBEq, Int.reduceAdd, Int.reduceSub, Int.reduceMul, Int.reduceNeg, Int.reduceLE, Int.reduceLT, Int.reduceEq, Int.reduceNe, Int.reduceToNat, ↓reduceIte, reduceCtorEq, implies_true, forall_const, eq_self, ne_eq, wtAll, Try.ntmps25, Try.results25, hh_i5]) ?_)))
      simp only [eq_self, ev, e, Int.natCast_zero]
end Go.Proofs.Ytkonoggmdcdeeaa
end
section
set_option linter.unusedVariables false
set_option linter.unusedSimpArgs false
namespace Go.V
/-- What one cell holds. -/
inductive CK where
  | int (k : IntKind)
  | bool
  | sl (ks : List CK)

/-- The cells of a type. -/
def cellsT (P : Program) : Nat → TypeId → Option (List CK)
  | 0, _ => none
  | d + 1, t => match P.underlying t with
    | some .bool => some [.bool]
    | some (.int k) => some [.int k]
    | some (.slice e) => match cellsT P d e with
      | some ks => if P.cellsOf e = ks.length ∧ 0 < ks.length then some [.sl ks] else none
      | none => none
    | some (.array n e) => match cellsT P d e with
      | some ks => if P.cellsOf e = ks.length ∧ P.cellsOf t = n * ks.length then some ((List.replicate n ks).flatten) else none
      | none => none
    | some (.struct fs) => match fs.toList.foldl (fun acc f => match acc with
        | some ks => match cellsT P d f.type with
          | some l => if f.offset = ks.length ∧ P.cellsOf f.type = l.length then some (ks ++ l) else none
          | none => none
        | none => none) (some []) with
      | some ks => if P.cellsOf t = ks.length then some ks else none
      | none => none
    | _ => none

/-- Such an abstract value. -/
inductive CKA : CK → AV → Prop
  | int {k : IntKind} {z : Int} (h : (Lit.int k z).wf = true) : CKA (.int k) (.lit (.int k z))
  | bool {b : Bool} : CKA .bool (.lit (.bool b))
  | sl {ks : List CK} {n : Nat} {f : Nat → List AV} (hn : n ≤ maxLen) (hl : ∀ i, i < n → (f i).length = ks.length) (h : ∀ i j k, i < n → ks[j]? = some k → CKA k ((f i).getD j .any)) : CKA (.sl ks) (.rsl n ks.length f)

def CellIs (W : World) (k : CK) (v : Value) : Prop := ∃ av, CKA k av ∧ VRel (st0 W) av v
def CellsOk (W : World) (ks : List CK) (cs : List Value) : Prop := cs.length = ks.length ∧ ∀ (i : Nat) (k : CK) (v : Value), ks[i]? = some k → cs[i]? = some v → CellIs W k v

theorem CellsOk.append {W : World} {ks ls : List CK} {cs ds : List Value} (h : CellsOk W ks cs) (h' : CellsOk W ls ds) : CellsOk W (ks ++ ls) (cs ++ ds) := by
  refine ⟨by simp [h.1, h'.1], fun i k v hk hv => ?_⟩
  by_cases hi : i < ks.length
  · rw [List.getElem?_append_left hi] at hk
    rw [List.getElem?_append_left (by rw [h.1]; exact hi)] at hv
    exact h.2 i k v hk hv
  · rw [List.getElem?_append_right (by omega)] at hk
    rw [List.getElem?_append_right (by rw [h.1]; omega), h.1] at hv
    exact h'.2 _ k v hk hv

theorem trod_cells {H : Type} {enc : TypeId × Value → H} {P : Program} {W : World} {held : Bool} {sp : Nat → Bool} :
    ∀ (d fuel : Nat) (t : TypeId) (cs : List Value) (x : DataW H × List MemPlace) (ks : List CK), cellsT P d t = some ks → DataW.trod enc P W 0 sp held fuel t cs = some x → CellsOk W ks cs := by
  intro d
  induction d with
  | zero => intro fuel t cs x ks hg; cases hg
  | succ d ih =>
    intro fuel t cs x ks hg h
    cases fuel with
    | zero => cases h
    | succ fuel =>
      unfold cellsT at hg
      unfold DataW.trod at h
      cases hu : P.underlying t with
      | none => rw [hu] at hg; cases hg
      | some td =>
        rw [hu] at hg h
        cases td <;> simp only at hg <;> try (cases hg; done)
        case bool =>
          cases hg
          split at h <;> simp_all
          rename_i b
          exact ⟨rfl, fun i k v hk hv => by cases i <;> simp at hk hv; subst hk hv; exact ⟨_, .bool, .lit _⟩⟩
        case int k =>
          cases hg
          split at h <;> simp_all
          rename_i n hh
          exact ⟨rfl, fun i k v hk hv => by cases i <;> simp at hk hv; subst hk hv; exact ⟨_, .int h.1.2, .lit _⟩⟩
        case array n e =>
          cases hke : cellsT P d e with
          | none => rw [hke] at hg; cases hg
          | some lk =>
            rw [hke] at hg
            simp only at hg
            by_cases hc : P.cellsOf e = lk.length ∧ P.cellsOf t = n * lk.length
            case neg => rw [if_neg hc] at hg; cases hg
            rw [if_pos hc] at hg
            cases hg
            split at h <;> try (simp_all; done)
            case _ n' e' heq =>
              simp only [Option.some.injEq, TypeDesc.array.injEq] at heq
              obtain ⟨rfl, rfl⟩ := heq
              split at h
              case isFalse hl => cases h
              case isTrue hl =>
                rw [Option.map_eq_some_iff] at h
                obtain ⟨ys, hy, rfl⟩ := h
                have key : ∀ (c : List Value), (∀ i, i < n → ∃ y, DataW.trod enc P W 0 sp held fuel e ((c.drop (i * P.cellsOf e)).take (P.cellsOf e)) = some y) → ∀ m, m ≤ n → CellsOk W (List.replicate m lk).flatten (c.take (m * lk.length)) := by
                  intro c hcy m
                  induction m with
                  | zero => intro _; exact ⟨by simp, fun i k v hk => by simp at hk⟩
                  | succ m ihm =>
                    intro hm
                    have h0 := ihm (by omega)
                    obtain ⟨y, h2⟩ := hcy m (by omega)
                    have h3 := ih fuel e _ y lk hke h2
                    rw [hc.1] at h3
                    have := h0.append h3
                    rw [List.replicate_succ', List.flatten_append, Nat.succ_mul, List.take_add]
                    simpa using this
                have := key _ (fun i hi => by
                  obtain ⟨y, _, h2⟩ := (mapM_get _ _ hy).2 i i (by simp [hi])
                  exact ⟨y, h2⟩) n (Nat.le_refl _)
                rw [List.take_of_length_le (by rw [hl, hc.2]; exact Nat.le_refl _)] at this
                exact this
        case slice e =>
          cases hke : cellsT P d e with
          | none => rw [hke] at hg; cases hg
          | some lk =>
            rw [hke] at hg
            simp only at hg
            by_cases hc : P.cellsOf e = lk.length ∧ 0 < lk.length
            case neg => rw [if_neg hc] at hg; cases hg
            rw [if_pos hc] at hg
            cases hg
            obtain ⟨hsz, hpos⟩ := hc
            split at h <;> try (simp_all; done)
            · rename_i heq
              refine ⟨rfl, fun i k v hk hv => ?_⟩
              cases i <;> simp at hk hv
              subst hk hv
              exact ⟨.rsl 0 lk.length fun _ => [], .sl (Nat.zero_le _) (fun i hi => by omega) (fun i j k hi => by omega), .rsl0⟩
            · rename_i e' a len cap heq
              simp only [Option.some.injEq, TypeDesc.slice.injEq] at heq
              subst heq
              simp only at h
              split at h
              case isFalse hl => cases h
              case isTrue hl =>
                rw [Option.bind_eq_some_iff] at h
                obtain ⟨es, he, -⟩ := h
                let g : Nat → List Value := fun i => match W.cells? 0 (a.add (i * P.cellsOf e)) (P.cellsOf e) with
                  | some c => c
                  | none => []
                have hel : ∀ i, i < len → W.cells? 0 (a.add (i * P.cellsOf e)) (P.cellsOf e) = some (g i) ∧ CellsOk W lk (g i) := by
                  intro i hi
                  obtain ⟨y, _, hy⟩ := (mapM_get _ _ he).2 i i (by simp [hi])
                  rw [Option.bind_eq_some_iff] at hy
                  obtain ⟨c, h1, h2⟩ := hy
                  have : g i = c := by simp only [g, h1]
                  rw [this]
                  exact ⟨h1, ih fuel e c y lk hke h2⟩
                -- the abstract cells
                have hch : ∀ i j, ∃ av, i < len → j < lk.length → ∃ k v, lk[j]? = some k ∧ (g i)[j]? = some v ∧ CKA k av ∧ VRel (st0 W) av v := by
                  intro i j
                  by_cases hi : i < len
                  · by_cases hj : j < lk.length
                    · obtain ⟨l1, l2⟩ := (hel i hi).2
                      obtain ⟨av, c1, c2⟩ := l2 j lk[j] (g i)[j] (List.getElem?_eq_getElem hj) (List.getElem?_eq_getElem (by omega))
                      exact ⟨av, fun _ _ => ⟨_, _, List.getElem?_eq_getElem hj, List.getElem?_eq_getElem (by omega), c1, c2⟩⟩
                    · exact ⟨.any, fun _ x => absurd x hj⟩
                  · exact ⟨.any, fun x => absurd x hi⟩
                have hf := fun i => Classical.axiomOfChoice (hch i)
                obtain ⟨F, hF⟩ := Classical.axiomOfChoice hf
                have hget : ∀ i j, j < lk.length → ((List.range lk.length).map (F i)).getD j .any = F i j := fun i j hj => by
                  rw [List.getD_eq_getElem?_getD, List.getElem?_map, List.getElem?_range hj]; rfl
                refine ⟨rfl, fun i k v hk hv => ?_⟩
                cases i <;> simp at hk hv
                subst hk hv
                refine ⟨.rsl len lk.length fun i => (List.range lk.length).map (F i), .sl (Nat.le_trans hl.2.1 hl.2.2) (fun i hi => by simp) (fun i j k hi hk => ?_), ?_⟩
                · have hj := (List.getElem?_eq_some_iff.1 hk).1
                  rw [hget i j hj]
                  obtain ⟨k', v, h1, h2, h3, h4⟩ := hF i j hi hj
                  rw [hk] at h1; cases h1
                  exact h3
                by_cases h0 : len = 0
                · subst h0; exact .rsl0
                have hcell : ∀ i j, i < len → j < lk.length → ∃ u, (g i)[j]? = some u ∧ W.cell? ((a.add (i * P.cellsOf e)).add j) = some u := by
                  intro i j hi hj
                  have h1 := (hel i hi).1
                  unfold World.cells? at h1
                  rw [if_pos (Nat.zero_le _)] at h1
                  exact (mapM_get _ _ h1).2 j j (by simp [hsz, hj])
                obtain ⟨b, off, spot⟩ := a
                obtain ⟨u0, _, hc0⟩ := hcell 0 0 (by omega) hpos
                rw [show ((⟨b, off, spot⟩ : Addr).add (0 * P.cellsOf e)).add 0 = ⟨b, off, spot⟩ from by simp [Addr.add]] at hc0
                unfold World.cell? at hc0
                split at hc0
                case h_2 => cases hc0
                case h_1 c ct fz hb =>
                  have hspot : spot = none := by
                    cases spot with
                    | none => rfl
                    | some s => simp at hc0
                  subst hspot
                  have hadd : ∀ i j, (((⟨b, off, none⟩ : Addr).add (i * P.cellsOf e)).add j) = ⟨b, off + i * P.cellsOf e + j, none⟩ := fun i j => by rw [addr_add, addr_add]
                  have hall : ∀ i j, i < len → j < lk.length → ∃ u, (g i)[j]? = some u ∧ c[off + i * lk.length + j]? = some u := by
                    intro i j hi hj
                    obtain ⟨u, h1, h2⟩ := hcell i j hi hj
                    rw [hadd] at h2
                    unfold World.cell? at h2
                    simp only at hb
                    rw [show W.heap[(⟨b, off + i * P.cellsOf e + j, none⟩ : Addr).block]? = some (.cells c ct fz) from hb] at h2
                    simp only [Option.isSome_none, Bool.false_eq_true, if_false, hsz] at h2
                    exact ⟨u, h1, h2⟩
                  refine .rsl (c := c) (e := ct) (fz := fz) ?_ hb ?_ (fun i hi => by simp) fun i j hi hj => ?_
                  · exact (Array.getElem?_eq_some_iff.1 hb).1
                  · obtain ⟨u, _, h2⟩ := hall (len - 1) (lk.length - 1) (by omega) (by omega)
                    have := (Array.getElem?_eq_some_iff.1 h2).1
                    have e1 : len * lk.length = (len - 1) * lk.length + lk.length := by
                      obtain ⟨q, rfl⟩ : ∃ q, len = q + 1 := ⟨len - 1, by omega⟩
                      rw [Nat.add_sub_cancel, Nat.succ_mul]
                    omega
                  · obtain ⟨u, h1, h2⟩ := hall i j hi hj
                    obtain ⟨k', v, q1, q2, q3, q4⟩ := hF i j hi hj
                    rw [h1] at q2; cases q2
                    rw [hget i j hj, Array.getD_eq_getD_getElem?, h2]
                    exact q4
        case struct fs =>
          split at h <;> try (simp_all; done)
          case _ fs' heq =>
            simp only [Option.some.injEq, TypeDesc.struct.injEq] at heq
            subst heq
            split at h
            case isFalse hl => cases h
            case isTrue hl =>
              rw [Option.map_eq_some_iff] at h
              obtain ⟨ys, hy, rfl⟩ := h
              have key : ∀ (c : List Value) (l : List Field) (acc ks : List CK), (∀ f ∈ l, ∃ y, DataW.trod enc P W 0 sp held fuel f.type ((c.drop f.offset).take (P.cellsOf f.type)) = some y) → CellsOk W acc (c.take acc.length) →
                  l.foldl (fun acc f => match acc with
                    | some ks => match cellsT P d f.type with
                      | some l => if f.offset = ks.length ∧ P.cellsOf f.type = l.length then some (ks ++ l) else none
                      | none => none
                    | none => none) (some acc) = some ks → CellsOk W ks (c.take ks.length) := by
                intro c l
                induction l with
                | nil => intro acc ks _ ha he; simp at he; subst he; exact ha
                | cons f l ih2 =>
                  intro acc ks hf ha he
                  simp only [List.foldl_cons] at he
                  have hnone : ∀ l : List Field, l.foldl (fun acc f => match acc with
                    | some ks => match cellsT P d f.type with
                      | some l => if f.offset = ks.length ∧ P.cellsOf f.type = l.length then some (ks ++ l) else none
                      | none => none
                    | none => none) none = (none : Option (List CK)) := by
                    intro l; induction l with
                    | nil => rfl
                    | cons a l ih => simpa using ih
                  cases hl2 : cellsT P d f.type with
                  | none => rw [hl2] at he; simp only at he; rw [hnone] at he; cases he
                  | some lk =>
                    rw [hl2] at he
                    simp only at he
                    by_cases hc : f.offset = acc.length ∧ P.cellsOf f.type = lk.length
                    · rw [if_pos hc] at he
                      obtain ⟨y, hy⟩ := hf f (by simp)
                      have := ih fuel f.type _ y lk hl2 hy
                      rw [hc.1, hc.2] at this
                      have hap := ha.append this
                      refine ih2 (acc ++ lk) ks (fun g hg => hf g (by simp [hg])) ?_ he
                      rw [List.length_append, List.take_add]
                      exact hap
                    · rw [if_neg hc, hnone] at he; cases he
              split at hg
              case h_2 => cases hg
              case h_1 ks' he =>
                split at hg
                case isFalse => cases hg
                case isTrue hc =>
                  cases hg
                  have := key _ fs.toList [] ks (fun f hf => by
                    obtain ⟨i, hi⟩ := List.getElem?_of_mem hf
                    obtain ⟨y, _, h2⟩ := (mapM_get _ _ hy).2 i f hi
                    exact ⟨y, h2⟩) ⟨by simp, fun i k v hk => by simp at hk⟩ he
                  rw [List.take_of_length_le (by rw [hl, hc]; exact Nat.le_refl _)] at this
                  exact this

end Go.V
end
section
set_option linter.unusedVariables false
set_option linter.unusedSimpArgs false
namespace Go.V
open Go.ChangeShapes
theorem AV.Le.rslD {n st : Nat} {f g : Nat → List AV} (h : ∀ i, i < n → (g i).length = st ∧ ∀ j, j < st → AV.Le ((f i).getD j .any) ((g i).getD j .any)) : AV.Le (.rsl n st f) (.rsl n st g) := by
  intro S v hv
  cases hv with
  | rsl0 => exact .rsl0
  | rsl hi hb hsz hf hh => exact .rsl hi hb hsz (fun i hi => (h i hi).1) fun i j hi hj => (h i hi).2 j hj _ _ (hh i j hi hj)
theorem AV.Le.aggD {cs ds : List AV} (hl : ds.length = cs.length) (h : ∀ j, j < cs.length → AV.Le (cs.getD j .any) (ds.getD j .any)) : AV.Le (.agg cs) (.agg ds) := by
  intro S v hv
  cases hv with
  | agg hn hh => exact .agg (hn.trans hl.symm) fun k hk => h k (by omega) _ _ (hh k (by omega))

/-- Cells that are told. -/
def Told (ks : List CK) (cs : List AV) : Prop := cs.length = ks.length ∧ ∀ j k, ks[j]? = some k → CKA k (cs.getD j .any)

/-- A struct that is handed in. -/
theorem trod_agg {H : Type} {enc : TypeId × Value → H} {P : Program} {W : World} {held : Bool} {sp : Nat → Bool} {t dd : Nat} {v : Value} {d : DataW H} {ps : List MemPlace} {ks : List CK}
    (hk : cellsT P dd t = some ks) (hn : 2 ≤ ks.length) (h : DataW.Trod enc P W 0 sp held t v d ps) : ∃ cs : List AV, Told ks cs ∧ VRel (st0 W) (.agg cs) v := by
  obtain ⟨fuel, h⟩ := h
  obtain ⟨hl, hz⟩ := trod_cells dd fuel t _ _ ks hk h
  cases v with
  | agg vs =>
    simp only [Value.cells] at hl hz
    have hl2 : vs.size = ks.length := by simpa using hl
    have hch : ∀ j : Nat, ∃ av : AV, ∀ (k : CK) (u : Value), ks[j]? = some k → vs[j]? = some u → CKA k av ∧ VRel (st0 W) av u := fun j => by
      cases hkj : ks[j]? with
      | none => exact ⟨.any, fun k u h => by cases h⟩
      | some k =>
        cases hvj : vs[j]? with
        | none => exact ⟨.any, fun k u _ h => by cases h⟩
        | some u =>
          obtain ⟨av, h1, h2⟩ := hz j k u hkj (by simpa using hvj)
          exact ⟨av, fun k' u' e1 e2 => by cases e1; cases e2; exact ⟨h1, h2⟩⟩
    obtain ⟨F, hF⟩ := Classical.axiomOfChoice hch
    have hget : ∀ j, j < ks.length → ((List.range ks.length).map F).getD j .any = F j := fun j hj => by
      rw [List.getD_eq_getElem?_getD, List.getElem?_map, List.getElem?_range hj]; rfl
    refine ⟨(List.range ks.length).map F, ⟨by simp, fun j k hk => ?_⟩, .agg (by simpa using hl2) fun j hj => ?_⟩
    · have hj := (List.getElem?_eq_some_iff.1 hk).1
      rw [hget j hj]
      exact (hF j k vs[j] hk (by simp [show j < vs.size by omega])).1
    · have hj : j < ks.length := by simpa using hj
      rw [hget j hj, Array.getD_eq_getD_getElem?, Array.getElem?_eq_getElem (by omega)]
      exact (hF j ks[j] vs[j] (List.getElem?_eq_getElem hj) (by simp [show j < vs.size by omega])).2
  | _ => simp [Value.cells] at hl; omega
/-- A slice of what can be told. -/
theorem told_slice {α : Type} {ks : List CK} (en : α → List AV) (d0 : α) (hd : ∀ cs, Told ks cs → ∃ x : α, (en x).length = ks.length ∧ ∀ j, j < ks.length → AV.Le (cs.getD j .any) ((en x).getD j .any)) {av : AV} (h : CKA (.sl ks) av) :
    ∃ l : List α, l.length ≤ maxLen ∧ AV.Le av (.rsl l.length ks.length fun i => en (l.getD i d0)) := by
  cases h with
  | @sl _ n f hn hl hh =>
    have hch : ∀ i, ∃ x : α, i < n → (en x).length = ks.length ∧ ∀ j, j < ks.length → AV.Le ((f i).getD j .any) ((en x).getD j .any) := fun i => by
      by_cases hi : i < n
      · obtain ⟨x, h1⟩ := hd (f i) ⟨hl i hi, fun j k hk => hh i j k hi hk⟩
        exact ⟨x, fun _ => h1⟩
      · exact ⟨d0, fun x => absurd x hi⟩
    obtain ⟨F, hF⟩ := Classical.axiomOfChoice hch
    refine ⟨(List.range n).map F, by simpa using hn, ?_⟩
    rw [List.length_map, List.length_range]
    refine AV.Le.rslD fun i hi => ?_
    have e : ((List.range n).map F).getD i d0 = F i := by
      rw [List.getD_eq_getElem?_getD, List.getElem?_map, List.getElem?_range hi]; rfl
    rw [e]
    exact hF i hi
theorem told_int {cs : List AV} {k : IntKind} (j : Nat) {ks : List CK} (h : Told ks cs) (hk : ks[j]? = some (.int k)) : ∃ z : Int, cs.getD j .any = .lit (.int k z) ∧ (Lit.int k z).wf = true := by
  have := h.2 j _ hk
  generalize cs.getD j .any = x at *
  cases this with
  | int hw => exact ⟨_, rfl, hw⟩
theorem told_bool {cs : List AV} (j : Nat) {ks : List CK} (h : Told ks cs) (hk : ks[j]? = some .bool) : ∃ b : Bool, cs.getD j .any = .lit (.bool b) := by
  have := h.2 j _ hk
  generalize cs.getD j .any = x at *
  cases this with
  | bool => exact ⟨_, rfl⟩

end Go.V
end
section
set_option linter.unusedVariables false
set_option linter.unusedSimpArgs false
set_option maxHeartbeats 4000000
set_option maxRecDepth 100000
namespace Go.Proofs.Ytkonoggmdcdeeaa
open Go.V
def farO (x : Ir) : Nat → Int
  | 0 => max (max (max (x.ow.length : Int) x.mo.length) x.st.length) x.cl.length
  | i + 1 => max (farO x i) (x.ow.getD i []).length
def farS (x : Ir) : Nat → Int
  | 0 => farO x x.ow.length
  | i + 1 => max (farS x i) (x.st.getD i []).length
def farB (x : Ir) : Bool := decide (40 < farS x x.st.length)
theorem far_tri (x : Ir) (H : Hp) (hO : x.ow.length < 2 ^ 63) (hS : x.st.length < 2 ^ 63) : PTri Try.prog (fnA 35) [x.av] H (boo (farB x)) := by
  refine tri_v0 (fun _ => false) Try.func35 (by kernel_rfl) rfl (by simp only [List.length_append, List.length_cons, List.length_nil, Try.ntmps35]; decide) ?_
  simp only [vsAll, loadA, loadRow, partA, partOk, fieldAddrA, lenA, boxA, mmA, okAll, stAll, opsA, opA, dstOk, nilSliceOp, argFr, Nat.reduceAdd, Nat.reduceLT, Nat.reduceEqDiff, ↓reduceIte, eq_self, wtAll, Try.ntmps35]
  refine vs_loop (σ := Nat) (fun i => i ≤ x.ow.length) (fun i => [(1, .rptr 1 5 (fun _ => x.cs) 0 0), (3, i64 (farO x i)), (22, llAV x.ow), (23, i64 x.ow.length), (24, i64 i)]) (fun _ => H) (fun i => x.ow.length - i) 0 (by omega) ?_ (HSub.refl _) fun i hi => ?_
  · simp only [vsAll, Nat.reduceEqDiff, ↓reduceIte, eq_self, Int.natCast_zero, farO]
  · simp only [vsAll, binA, binLitA, intA, opA, dstOk, Nat.reduceLT, Nat.reduceEqDiff, ↓reduceIte, eq_self]
    refine condD (fun hd => ?_) (fun hd => ?_)
    · simp only [vsAll, binA, binLitA, intA, loadA, loadRow, partA, partOk, indexAddrA, lenA, mmA, okAll, stAll, opsA, opA, dstOk, nilSliceOp, Nat.reduceLT, Nat.reduceEqDiff, ↓reduceIte, eq_self, wtAll, llF_at]
      refine ⟨by omega, by omega, by simp only [InR_i64]; omega, loop_next (i + 1) (by omega) (by omega) ?_ (HSub.refl _)⟩
      simp only [vsAll, Nat.reduceEqDiff, ↓reduceIte, eq_self, Int.natCast_add, Int.natCast_one, farO]
    · have ei : i = x.ow.length := by omega
      subst ei
      simp only [vsAll, loadA, loadRow, partA, partOk, fieldAddrA, lenA, opA, dstOk, Nat.reduceLT, Nat.reduceEqDiff, ↓reduceIte, eq_self, wtAll]
      refine vs_loop (σ := Nat) (fun i => i ≤ x.st.length) (fun i => [(3, i64 (farS x i)), (34, stAV x.st), (35, i64 x.st.length), (36, i64 i)]) (fun _ => H) (fun i => x.st.length - i) 0 (by omega) ?_ (HSub.refl _) fun i hi => ?_
      · simp only [vsAll, Nat.reduceEqDiff, ↓reduceIte, eq_self, Int.natCast_zero, farS]
      · simp only [vsAll, binA, binLitA, intA, opA, dstOk, Nat.reduceLT, Nat.reduceEqDiff, ↓reduceIte, eq_self]
        refine condD (fun hd => ?_) (fun hd => ?_)
        · simp only [vsAll, binA, binLitA, intA, loadA, loadRow, partA, partOk, indexAddrA, lenA, mmA, okAll, stAll, opsA, opA, dstOk, nilSliceOp, Nat.reduceLT, Nat.reduceEqDiff, ↓reduceIte, eq_self, wtAll, stF_at]
          refine ⟨by omega, by omega, by simp only [InR_i64]; omega, loop_next (i + 1) (by omega) (by omega) ?_ (HSub.refl _)⟩
          simp only [vsAll, Nat.reduceEqDiff, ↓reduceIte, eq_self, Int.natCast_add, Int.natCast_one, farS]
        · have ei : i = x.st.length := by omega
          subst ei
          simp only [vsAll, binA, binLitA, intA, opA, dstOk, nilSliceOp, resA, retA.eq_1, Nat.reduceLT, Nat.reduceEqDiff, ↓reduceIte, eq_self, Try.results35]
          rfl
theorem farO_le (x : Ir) (i : Nat) : (x.ow.length : Int) ≤ farO x i ∧ (x.mo.length : Int) ≤ farO x i ∧ (x.st.length : Int) ≤ farO x i ∧ (x.cl.length : Int) ≤ farO x i ∧ ∀ j, j < i → ((x.ow.getD j []).length : Int) ≤ farO x i := by
  induction i with
  | zero => exact ⟨by simp only [farO]; omega, by simp only [farO]; omega, by simp only [farO]; omega, by simp only [farO]; omega, fun j hj => absurd hj (by omega)⟩
  | succ i ih =>
    obtain ⟨h1, h2, h3, h4, h5⟩ := ih
    simp only [farO]
    refine ⟨by omega, by omega, by omega, by omega, fun j hj => ?_⟩
    by_cases e : j = i
    · subst e; omega
    · have := h5 j (by omega); omega
theorem farS_le (x : Ir) (i : Nat) : farO x x.ow.length ≤ farS x i ∧ ∀ j, j < i → ((x.st.getD j []).length : Int) ≤ farS x i := by
  induction i with
  | zero => exact ⟨Int.le_refl _, fun j hj => absurd hj (by omega)⟩
  | succ i ih =>
    obtain ⟨h1, h2⟩ := ih
    simp only [farS]
    refine ⟨by omega, fun j hj => ?_⟩
    by_cases e : j = i
    · subst e; omega
    · have := h2 j (by omega); omega
theorem far_near {x : Ir} (h : farB x = false) : Near x := by
  have h0 := of_decide_eq_false h
  obtain ⟨h1, h2⟩ := farS_le x x.st.length
  obtain ⟨q1, q2, q3, q4, q5⟩ := farO_le x x.ow.length
  exact ⟨by omega, by omega, by omega, by omega, fun i hi => by have := q5 i hi; omega, fun i hi => by have := h2 i hi; omega⟩

def hvB (x : Ir) (most : Nat) : Bool := if (farB x || !decide (Ok x)) = true then farB x else decide (most < (max 1 x.ow.length) ^ x.st.length)
theorem mark_tri (a b c : Int) (H : Hp) : PTri Try.prog (fnA 40) [i64 a, i64 b, i64 c] H (.agg [i64 a, i64 b, i64 c]) := by
  refine tri_vs (m := fun _ => false) Try.func40 (by kernel_rfl) rfl (by simp only [List.length_append, List.length_cons, List.length_nil, Try.ntmps40]; decide) ?_
  simp only [vsAll, cellA, cellsA, fillA, okParts, partsA, partsOk, opA, allocA, newCells, okCells, storeObj, dstOk, argFr, Nat.reduceAdd, Nat.reduceLT, Nat.reduceLeDiff, Nat.reduceEqDiff, ↓reduceIte, reduceCtorEq, eq_self, wtAll, Try.ntmps40]
  intro i4 hh_i4; (try simp only [Hp.set_none, ite_none] at hh_i4)
  refine ret0 ?_
  simp only [vsAll, loadA, loadRow, partA, partOk, resA, retA.eq_1, Nat.reduceLT, Nat.reduceEqDiff, ↓reduceIte, eq_self, wtAll, Try.results40]
  exact dropR_pure rfl (by (repeat (first | exact HSub_rfl | refine HSub_put_eq (by simp only [vsAll, binA, binLitA, intA, aggA, boolA, nilA2, isConst, unA, loadA, loadRow, partA, partOk, fieldAddrA, indexAddrA, indexA, fieldA, extractA, lenA, nilCheckA, boxA, cellA, cellsA, fillA, okParts, buildSliceA, buildMutA, makeSliceA, partIdx, elemsA, lensA, ifaceA, convA, mmA, pickA, okAll, stAll, opsA, partsA, partsOk, opA, allocA, boxMutA, newCells, okCells, storeObj, appendA, guardV, taA, nM, mapUpA, lookA, sliceA, boundsA, opO, okO, copyA, dstOk, nilA, quietOk, nilSliceOp, panA, resA, argFr, retA.eq_1, retA.eq_2, Nat.reduceAdd, Nat.reduceSub, Nat.reduceMul, Nat.reduceLT, Nat.reduceLeDiff, Nat.reduceEqDiff, Nat.reduceBEq, Int.reduceAdd, Int.reduceSub, Int.reduceMul, Int.reduceNeg, Int.reduceLE, Int.reduceLT, Int.reduceEq, Int.reduceNe, Int.reduceToNat, ↓reduceIte, reduceCtorEq, implies_true, forall_const, eq_self, ne_eq, wtAll, Try.ntmps40, Try.results40, hh_i4]) ?_ | refine HSub_drop2 (by simp only [eq_self, hh_i4]) ?_ | refine HSub_keep_eq (by simp only [vsAll, binA, binLitA, intA, aggA, boolA, nilA2, isConst, unA, loadA, loadRow, partA, partOk, fieldAddrA, indexAddrA, indexA, fieldA, extractA, lenA, nilCheckA, boxA, cellA, cellsA, fillA, okParts, buildSliceA, buildMutA, makeSliceA, partIdx, elemsA, lensA, ifaceA, convA, mmA, pickA, okAll, stAll, opsA, partsA, partsOk, opA, allocA, boxMutA, newCells, okCells, storeObj, appendA, guardV, taA, nM, mapUpA, lookA, sliceA, boundsA, opO, okO, copyA, dstOk, nilA, quietOk, nilSliceOp, panA, resA, argFr, retA.eq_1, retA.eq_2, Nat.reduceAdd, Nat.reduceSub, Nat.reduceMul, Nat.reduceLT, Nat.reduceLeDiff, Nat.reduceEqDiff, Nat.reduceBEq, Int.reduceAdd, Int.reduceSub, Int.reduceMul, Int.reduceNeg, Int.reduceLE, Int.reduceLT, Int.reduceEq, Int.reduceNe, Int.reduceToNat, ↓reduceIte, reduceCtorEq, implies_true, forall_const, eq_self, ne_eq, wtAll, Try.ntmps40, Try.results40, hh_i4]) ?_)))
theorem lhis_tri (a b : Int) (H : Hp) : PTri Try.prog (fnA 73) [i64 a, i64 b] H (.agg [i64 a, i64 b, boo false]) := by
  refine tri_vs (m := fun _ => false) Try.func73 (by kernel_rfl) rfl (by simp only [List.length_append, List.length_cons, List.length_nil, Try.ntmps73]; decide) ?_
  simp only [vsAll, cellA, cellsA, fillA, okParts, partsA, partsOk, opA, allocA, newCells, okCells, storeObj, dstOk, argFr, Nat.reduceAdd, Nat.reduceLT, Nat.reduceLeDiff, Nat.reduceEqDiff, ↓reduceIte, reduceCtorEq, eq_self, wtAll, Try.ntmps73]
  intro i4 hh_i4; (try simp only [Hp.set_none, ite_none] at hh_i4)
  refine ret0 ?_
  simp only [vsAll, loadA, loadRow, partA, partOk, resA, retA.eq_1, Nat.reduceLT, Nat.reduceEqDiff, ↓reduceIte, eq_self, wtAll, Try.results73]
  exact dropR_pure rfl (by (repeat (first | exact HSub_rfl | refine HSub_put_eq (by simp only [vsAll, binA, binLitA, intA, aggA, boolA, nilA2, isConst, unA, loadA, loadRow, partA, partOk, fieldAddrA, indexAddrA, indexA, fieldA, extractA, lenA, nilCheckA, boxA, cellA, cellsA, fillA, okParts, buildSliceA, buildMutA, makeSliceA, partIdx, elemsA, lensA, ifaceA, convA, mmA, pickA, okAll, stAll, opsA, partsA, partsOk, opA, allocA, boxMutA, newCells, okCells, storeObj, appendA, guardV, taA, nM, mapUpA, lookA, sliceA, boundsA, opO, okO, copyA, dstOk, nilA, quietOk, nilSliceOp, panA, resA, argFr, retA.eq_1, retA.eq_2, Nat.reduceAdd, Nat.reduceSub, Nat.reduceMul, Nat.reduceLT, Nat.reduceLeDiff, Nat.reduceEqDiff, Nat.reduceBEq, Int.reduceAdd, Int.reduceSub, Int.reduceMul, Int.reduceNeg, Int.reduceLE, Int.reduceLT, Int.reduceEq, Int.reduceNe, Int.reduceToNat, ↓reduceIte, reduceCtorEq, implies_true, forall_const, eq_self, ne_eq, wtAll, Try.ntmps73, Try.results73, hh_i4]) ?_ | refine HSub_drop2 (by simp only [eq_self, hh_i4]) ?_ | refine HSub_keep_eq (by simp only [vsAll, binA, binLitA, intA, aggA, boolA, nilA2, isConst, unA, loadA, loadRow, partA, partOk, fieldAddrA, indexAddrA, indexA, fieldA, extractA, lenA, nilCheckA, boxA, cellA, cellsA, fillA, okParts, buildSliceA, buildMutA, makeSliceA, partIdx, elemsA, lensA, ifaceA, convA, mmA, pickA, okAll, stAll, opsA, partsA, partsOk, opA, allocA, boxMutA, newCells, okCells, storeObj, appendA, guardV, taA, nM, mapUpA, lookA, sliceA, boundsA, opO, okO, copyA, dstOk, nilA, quietOk, nilSliceOp, panA, resA, argFr, retA.eq_1, retA.eq_2, Nat.reduceAdd, Nat.reduceSub, Nat.reduceMul, Nat.reduceLT, Nat.reduceLeDiff, Nat.reduceEqDiff, Nat.reduceBEq, Int.reduceAdd, Int.reduceSub, Int.reduceMul, Int.reduceNeg, Int.reduceLE, Int.reduceLT, Int.reduceEq, Int.reduceNe, Int.reduceToNat, ↓reduceIte, reduceCtorEq, implies_true, forall_const, eq_self, ne_eq, wtAll, Try.ntmps73, Try.results73, hh_i4]) ?_)))
theorem lother_tri (a b : Int) (H : Hp) : PTri Try.prog (fnA 74) [i64 a, i64 b] H (.agg [i64 a, i64 b, boo true]) := by
  refine tri_vs (m := fun _ => false) Try.func74 (by kernel_rfl) rfl (by simp only [List.length_append, List.length_cons, List.length_nil, Try.ntmps74]; decide) ?_
  simp only [vsAll, cellA, cellsA, fillA, okParts, partsA, partsOk, opA, allocA, newCells, okCells, storeObj, dstOk, argFr, Nat.reduceAdd, Nat.reduceLT, Nat.reduceLeDiff, Nat.reduceEqDiff, ↓reduceIte, reduceCtorEq, eq_self, wtAll, Try.ntmps74]
  intro i4 hh_i4; (try simp only [Hp.set_none, ite_none] at hh_i4)
  refine ret0 ?_
  simp only [vsAll, loadA, loadRow, partA, partOk, resA, retA.eq_1, Nat.reduceLT, Nat.reduceEqDiff, ↓reduceIte, eq_self, wtAll, Try.results74]
  exact dropR_pure rfl (by (repeat (first | exact HSub_rfl | refine HSub_put_eq (by simp only [vsAll, binA, binLitA, intA, aggA, boolA, nilA2, isConst, unA, loadA, loadRow, partA, partOk, fieldAddrA, indexAddrA, indexA, fieldA, extractA, lenA, nilCheckA, boxA, cellA, cellsA, fillA, okParts, buildSliceA, buildMutA, makeSliceA, partIdx, elemsA, lensA, ifaceA, convA, mmA, pickA, okAll, stAll, opsA, partsA, partsOk, opA, allocA, boxMutA, newCells, okCells, storeObj, appendA, guardV, taA, nM, mapUpA, lookA, sliceA, boundsA, opO, okO, copyA, dstOk, nilA, quietOk, nilSliceOp, panA, resA, argFr, retA.eq_1, retA.eq_2, Nat.reduceAdd, Nat.reduceSub, Nat.reduceMul, Nat.reduceLT, Nat.reduceLeDiff, Nat.reduceEqDiff, Nat.reduceBEq, Int.reduceAdd, Int.reduceSub, Int.reduceMul, Int.reduceNeg, Int.reduceLE, Int.reduceLT, Int.reduceEq, Int.reduceNe, Int.reduceToNat, ↓reduceIte, reduceCtorEq, implies_true, forall_const, eq_self, ne_eq, wtAll, Try.ntmps74, Try.results74, hh_i4]) ?_ | refine HSub_drop2 (by simp only [eq_self, hh_i4]) ?_ | refine HSub_keep_eq (by simp only [vsAll, binA, binLitA, intA, aggA, boolA, nilA2, isConst, unA, loadA, loadRow, partA, partOk, fieldAddrA, indexAddrA, indexA, fieldA, extractA, lenA, nilCheckA, boxA, cellA, cellsA, fillA, okParts, buildSliceA, buildMutA, makeSliceA, partIdx, elemsA, lensA, ifaceA, convA, mmA, pickA, okAll, stAll, opsA, partsA, partsOk, opA, allocA, boxMutA, newCells, okCells, storeObj, appendA, guardV, taA, nM, mapUpA, lookA, sliceA, boundsA, opO, okO, copyA, dstOk, nilA, quietOk, nilSliceOp, panA, resA, argFr, retA.eq_1, retA.eq_2, Nat.reduceAdd, Nat.reduceSub, Nat.reduceMul, Nat.reduceLT, Nat.reduceLeDiff, Nat.reduceEqDiff, Nat.reduceBEq, Int.reduceAdd, Int.reduceSub, Int.reduceMul, Int.reduceNeg, Int.reduceLE, Int.reduceLT, Int.reduceEq, Int.reduceNe, Int.reduceToNat, ↓reduceIte, reduceCtorEq, implies_true, forall_const, eq_self, ne_eq, wtAll, Try.ntmps74, Try.results74, hh_i4]) ?_)))
def smI (m : Int) : Ir := ⟨2, [[3, 5], [3, 7], [6, 5]], [m, 2, m], [[⟨0, 3, 3⟩], [⟨1, 5, 6⟩], []], [⟨0, 0, false⟩, ⟨1, 2, true⟩, ⟨1, 2, false⟩]⟩
theorem ret_le {P : Program} {fv : AV} {args : List AV} {H : Hp} {v v' : AV} (h : PTri P fv args H v) (hle : AV.Le v v') : PTri P fv args H v' := by
  intro S vf vs hH hvf ha
  obtain ⟨nx, h1, h2⟩ := h S vf vs hH hvf ha
  have ho : ∀ e w, Out S (fun r H' => r = .ret v ∧ H' = H) e w → Out S (fun r H' => r = .ret v' ∧ H' = H) e w := by
    rintro e w ⟨S', r, H', hw, hl, hH', hrr, rfl, rfl⟩
    refine ⟨S', .ret v', H', hw, hl, hH', ?_, rfl, rfl⟩
    cases e with
    | returned cv => exact hle S' cv hrr
    | panicked ch => exact hrr.elim
    | outgrown => exact hrr.elim
  refine ⟨nx, h1, ?_⟩
  cases nx <;> simp only [NextOk] at h2 ⊢
  · exact Calls.mono h2 ho
  · exact h2.mono ho
theorem sample_tri (m : Int) (H : Hp) : PTri Try.prog (fnA 42) [i64 m] H (smI m).av := by
  refine ret_le (v := .agg [i64 2, .rsl 3 1 (fun i => [[.rsl 2 1 (fun i => [[i64 3], [i64 5]].getD i [])], [.rsl 2 1 (fun i => [[i64 3], [i64 7]].getD i [])], [.rsl 2 1 (fun i => [[i64 6], [i64 5]].getD i [])]].getD i []),
    .rsl 3 1 (fun i => [[i64 m], [i64 2], [i64 m]].getD i []),
    .rsl 3 1 (fun i => [[.rsl 1 3 (fun i => [[i64 0, i64 3, i64 3]].getD i [])], [.rsl 1 3 (fun i => [[i64 1, i64 5, i64 6]].getD i [])], [.lit (.slice none 0 0)]].getD i []),
    .rsl 3 3 (fun i => [[i64 0, i64 0, boo false], [i64 1, i64 2, boo true], [i64 1, i64 2, boo false]].getD i [])]) ?_ ?_
  · refine tri_vs (m := fun _ => false) Try.func42 (by kernel_rfl) rfl (by simp only [List.length_append, List.length_cons, List.length_nil, Try.ntmps42]; decide) ?_
    simp only [vsAll, cellA, cellsA, okParts, buildSliceA, partIdx, elemsA, lensA, okAll, stAll, opsA, partsA, partsOk, opA, allocA, dstOk, argFr, Nat.reduceAdd, Nat.reduceMul, Nat.reduceLT, Nat.reduceLeDiff, Nat.reduceEqDiff, ↓reduceIte, reduceCtorEq, eq_self, wtAll, Try.ntmps42]
    intro i2 hh_i2; (try simp only [Hp.set_none, ite_none] at hh_i2)
    refine callK_pure (mark_tri 0 3 3 _) ?_
    simp only [vsAll, cellsA, okParts, buildSliceA, partIdx, elemsA, lensA, okAll, stAll, opsA, partsA, partsOk, opA, dstOk, Nat.reduceAdd, Nat.reduceMul, Nat.reduceLT, Nat.reduceLeDiff, ↓reduceIte, eq_self, wtAll]
    refine callK_pure (mark_tri 1 5 6 _) ?_
    simp only [vsAll, cellA, cellsA, okParts, buildSliceA, partIdx, elemsA, lensA, okAll, stAll, opsA, partsA, partsOk, opA, dstOk, Nat.reduceAdd, Nat.reduceMul, Nat.reduceLT, Nat.reduceLeDiff, Nat.reduceEqDiff, ↓reduceIte, eq_self, wtAll]
    refine callK_pure (lhis_tri 0 0 _) ?_
    simp only [vsAll, okAll, stAll, opsA, opA, dstOk, Nat.reduceLT]
    refine callK_pure (lother_tri 1 2 _) ?_
    simp only [vsAll, okAll, stAll, opsA, opA, dstOk, Nat.reduceLT]
    refine callK_pure (lhis_tri 1 2 _) ?_
    simp only [vsAll, cellA, cellsA, fillA, okParts, buildSliceA, partIdx, elemsA, lensA, partsA, partsOk, opA, newCells, okCells, storeObj, dstOk, Nat.reduceAdd, Nat.reduceMul, Nat.reduceLT, Nat.reduceLeDiff, Nat.reduceEqDiff, ↓reduceIte, eq_self, wtAll]
    refine ret0 ?_
    simp only [vsAll, loadA, loadRow, partA, partOk, resA, retA.eq_1, Nat.reduceLT, Nat.reduceEqDiff, ↓reduceIte, eq_self, wtAll, Try.results42]
    exact dropR_pure rfl (by (repeat (first | exact HSub_rfl | refine HSub_put_eq (by simp only [vsAll, binA, binLitA, intA, aggA, boolA, nilA2, isConst, unA, loadA, loadRow, partA, partOk, fieldAddrA, indexAddrA, indexA, fieldA, extractA, lenA, nilCheckA, boxA, cellA, cellsA, fillA, okParts, buildSliceA, buildMutA, makeSliceA, partIdx, elemsA, lensA, ifaceA, convA, mmA, pickA, okAll, stAll, opsA, partsA, partsOk, opA, allocA, boxMutA, newCells, okCells, storeObj, appendA, guardV, taA, nM, mapUpA, lookA, sliceA, boundsA, opO, okO, copyA, dstOk, nilA, quietOk, nilSliceOp, panA, resA, argFr, retA.eq_1, retA.eq_2, Nat.reduceAdd, Nat.reduceSub, Nat.reduceMul, Nat.reduceLT, Nat.reduceLeDiff, Nat.reduceEqDiff, Nat.reduceBEq, Int.reduceAdd, Int.reduceSub, Int.reduceMul, Int.reduceNeg, Int.reduceLE, Int.reduceLT, Int.reduceEq, Int.reduceNe, Int.reduceToNat, ↓reduceIte, reduceCtorEq, implies_true, forall_const, eq_self, ne_eq, wtAll, Try.ntmps42, Try.results42, hh_i2]) ?_ | refine HSub_drop2 (by simp only [eq_self, hh_i2]) ?_ | refine HSub_keep_eq (by simp only [vsAll, binA, binLitA, intA, aggA, boolA, nilA2, isConst, unA, loadA, loadRow, partA, partOk, fieldAddrA, indexAddrA, indexA, fieldA, extractA, lenA, nilCheckA, boxA, cellA, cellsA, fillA, okParts, buildSliceA, buildMutA, makeSliceA, partIdx, elemsA, lensA, ifaceA, convA, mmA, pickA, okAll, stAll, opsA, partsA, partsOk, opA, allocA, boxMutA, newCells, okCells, storeObj, appendA, guardV, taA, nM, mapUpA, lookA, sliceA, boundsA, opO, okO, copyA, dstOk, nilA, quietOk, nilSliceOp, panA, resA, argFr, retA.eq_1, retA.eq_2, Nat.reduceAdd, Nat.reduceSub, Nat.reduceMul, Nat.reduceLT, Nat.reduceLeDiff, Nat.reduceEqDiff, Nat.reduceBEq, Int.reduceAdd, Int.reduceSub, Int.reduceMul, Int.reduceNeg, Int.reduceLE, Int.reduceLT, Int.reduceEq, Int.reduceNe, Int.reduceToNat, ↓reduceIte, reduceCtorEq, implies_true, forall_const, eq_self, ne_eq, wtAll, Try.ntmps42, Try.results42, hh_i2]) ?_)))
  · have two : ∀ a b : Int, AV.Le (.rsl 2 1 (fun i => [[i64 a], [i64 b]].getD i [])) (intsAV [a, b]) := fun a b => AV.Le.rsl fun i hi => by
      match i, hi with
      | 0, _ => rfl
      | 1, _ => rfl
    have one : ∀ a b c : Int, AV.Le (.rsl 1 3 (fun i => [[i64 a, i64 b, i64 c]].getD i [])) (mksAV [⟨a, b, c⟩]) := fun a b c => AV.Le.rsl fun i hi => by
      match i, hi with
      | 0, _ => rfl
    refine AV.Le.aggD rfl fun j hj => ?_
    match j, hj with
    | 0, _ => exact AV.Le.refl _
    | 1, _ =>
      refine AV.Le.rslA (fun i hi => ?_) fun i hi j hj => ?_
      · match i, hi with
        | 0, _ => rfl
        | 1, _ => rfl
        | 2, _ => rfl
      · match i, hi, j, hj with
        | 0, _, 0, _ => exact two 3 5
        | 1, _, 0, _ => exact two 3 7
        | 2, _, 0, _ => exact two 6 5
    | 2, _ =>
      refine AV.Le.rsl fun i hi => ?_
      match i, hi with
      | 0, _ => rfl
      | 1, _ => rfl
      | 2, _ => rfl
    | 3, _ =>
      refine AV.Le.rslA (fun i hi => ?_) fun i hi j hj => ?_
      · match i, hi with
        | 0, _ => rfl
        | 1, _ => rfl
        | 2, _ => rfl
      · match i, hi, j, hj with
        | 0, _, 0, _ => exact one 0 3 3
        | 1, _, 0, _ => exact one 1 5 6
        | 2, _, 0, _ => exact AV.Le.nil 3 _
    | 4, _ =>
      refine AV.Le.rsl fun i hi => ?_
      match i, hi with
      | 0, _ => rfl
      | 1, _ => rfl
      | 2, _ => rfl
end Go.Proofs.Ytkonoggmdcdeeaa
end
section
set_option linter.unusedVariables false
set_option linter.unusedSimpArgs false
set_option maxHeartbeats 4000000
set_option maxRecDepth 100000
namespace Go.Proofs.Ytkonoggmdcdeeaa
open Go.V
theorem sm_ok : Ok (smI 1) ∧ Ok (smI 0) := by decide +kernel
theorem sm1 : ((fitsV (smI 1) 1 : Nat) : Int) = 5 := by decide +kernel
theorem sm2 : fitsE (smI 1) 1 = 0 := by decide +kernel
theorem sm3 : ((countV (smI 1) : Nat) : Int) = 5 := by decide +kernel
theorem sm4 : countE (smI 1) = 0 := by decide +kernel
theorem sm5 : ((canV (smI 1) 2 : Nat) : Int) = 7 := by decide +kernel
theorem sm6 : canE (smI 1) 2 = 0 := by decide +kernel
theorem sm7 : claimV (smI 1) 1 = 1 := by decide +kernel
theorem sm8 : claimE (smI 1) 1 = 0 := by decide +kernel
theorem sm9 : (((falseP (smI 1)).1 : Nat) : Int) = 1 := by decide +kernel
theorem sm10 : (((falseP (smI 1)).2 : Nat) : Int) = 2 := by decide +kernel
theorem sm11 : falseE (smI 1) = 0 := by decide +kernel
theorem sm12 : ((likV (smI 1) 2 : Nat) : Int) = 2 := by decide +kernel
theorem sm13 : likE (smI 1) 2 = 0 := by decide +kernel
theorem sm14 : ((setV (errE (smI 1) true true) (clashR (smI 1)) : Nat) : Int) = 3 := by decide +kernel
theorem sm15 : setE (errE (smI 1) true true) (clashR (smI 1)) = 0 := by decide +kernel
theorem sm16 : ((setV (errE (smI 0) true false) (shortR (smI 0)) : Nat) : Int) = 2 := by decide +kernel
theorem sm17 : setE (errE (smI 0) true false) (shortR (smI 0)) = 0 := by decide +kernel
theorem awake_tri (H : Hp) : PTri Try.prog (fnA 14) [] H (boo true) := by
  have k1 := sm_ok.1.near
  have k0 := sm_ok.2.near
  refine Tri.drop ?_
  refine tri_v0 (fun _ => false) Try.func14 (by kernel_rfl) rfl (by simp only [List.length_append, List.length_nil, Try.ntmps14]; decide) ?_
  simp only [vsAll, okAll, stAll, opsA, opA, dstOk, nilSliceOp, Nat.reduceLT, eq_self, Try.ntmps14]
  refine callK_pure (sample_tri 1 _) ?_
  simp only [vsAll, loadA, loadRow, partA, partOk, cellA, cellsA, okAll, stAll, opsA, opA, allocA, newCells, okCells, storeObj, dstOk, Nat.reduceAdd, Nat.reduceLT, Nat.reduceEqDiff, ↓reduceIte, eq_self, wtAll]
  intro i1 hh_i1; (try simp only [Hp.set_none, ite_none] at hh_i1)
  refine callK_pure (wfits_tri (smI 1) 1 _ k1) ?_
  simp only [vsAll, loadA, loadRow, partA, partOk, extractA, okAll, stAll, opsA, opA, dstOk, nilSliceOp, Nat.reduceAdd, Nat.reduceLT, Nat.reduceEqDiff, ↓reduceIte, eq_self, wtAll, sm1, sm2]
  refine callK_pure (wcount_tri (smI 1) _ k1) ?_
  simp only [vsAll, loadA, loadRow, partA, partOk, extractA, okAll, stAll, opsA, opA, dstOk, nilSliceOp, Nat.reduceAdd, Nat.reduceLT, Nat.reduceEqDiff, ↓reduceIte, eq_self, wtAll, sm3, sm4]
  refine callK_pure (wcan_tri (smI 1) 2 _ k1) ?_
  simp only [vsAll, loadA, loadRow, partA, partOk, extractA, okAll, stAll, opsA, opA, dstOk, nilSliceOp, Nat.reduceAdd, Nat.reduceLT, Nat.reduceEqDiff, ↓reduceIte, eq_self, wtAll, sm5, sm6]
  refine callK_pure (wclaim_tri (smI 1) 1 _ k1) ?_
  simp only [vsAll, loadA, loadRow, partA, partOk, extractA, okAll, stAll, opsA, opA, dstOk, nilSliceOp, Nat.reduceAdd, Nat.reduceLT, Nat.reduceEqDiff, ↓reduceIte, eq_self, wtAll, sm7, sm8]
  refine callK_pure (wfalse_tri (smI 1) _ k1) ?_
  simp only [vsAll, loadA, loadRow, partA, partOk, extractA, okAll, stAll, opsA, opA, dstOk, nilSliceOp, Nat.reduceAdd, Nat.reduceLT, Nat.reduceEqDiff, ↓reduceIte, eq_self, wtAll, sm9, sm10, sm11]
  refine callK_pure (wlikely_tri (smI 1) 2 _ k1) ?_
  simp only [vsAll, loadA, loadRow, partA, partOk, extractA, okAll, stAll, opsA, opA, dstOk, nilSliceOp, Nat.reduceAdd, Nat.reduceLT, Nat.reduceEqDiff, ↓reduceIte, eq_self, wtAll, sm12, sm13]
  refine callK_pure (wclash_tri (smI 1) _ k1) ?_
  simp only [vsAll, extractA, okAll, stAll, opsA, opA, dstOk, nilSliceOp, Nat.reduceAdd, Nat.reduceLT, Nat.reduceEqDiff, ↓reduceIte, eq_self, sm14, sm15]
  refine callK_pure (sample_tri 0 _) ?_
  simp only [vsAll, okAll, stAll, opsA, opA, dstOk, Nat.reduceLT, ↓reduceIte, eq_self]
  refine callK_pure (wshort_tri (smI 0) _ k0) ?_
  simp only [vsAll, binA, binLitA, intA, extractA, pickA, opA, guardV, dstOk, nilSliceOp, resA, retA.eq_1, Nat.reduceAdd, Nat.reduceLT, Nat.reduceEqDiff, ↓reduceIte, implies_true, eq_self, Try.results14, sm16, sm17]
  exact dropR_pure rfl (by (repeat (first | exact HSub_rfl | refine HSub_put_eq (by simp only [vsAll, binA, binLitA, intA, aggA, boolA, nilA2, isConst, unA, loadA, loadRow, partA, partOk, fieldAddrA, indexAddrA, indexA, fieldA, extractA, lenA, nilCheckA, boxA, cellA, cellsA, fillA, okParts, buildSliceA, buildMutA, makeSliceA, partIdx, elemsA, lensA, ifaceA, convA, mmA, pickA, okAll, stAll, opsA, partsA, partsOk, opA, allocA, boxMutA, newCells, okCells, storeObj, appendA, guardV, taA, nM, mapUpA, lookA, sliceA, boundsA, opO, okO, copyA, dstOk, nilA, quietOk, nilSliceOp, panA, resA, argFr, retA.eq_1, retA.eq_2, Nat.reduceAdd, Nat.reduceSub, Nat.reduceMul, Nat.reduceLT, Nat.reduceLeDiff, Nat.reduceEqDiff, Nat.reduceBEq, Int.reduceAdd, Int.reduceSub, Int.reduceMul, Int.reduceNeg, Int.reduceLE, Int.reduceLT, Int.reduceEq, Int.reduceNe, Int.reduceToNat, ↓reduceIte, reduceCtorEq, implies_true, forall_const, eq_self, ne_eq, wtAll, Try.ntmps14, Try.results14, hh_i1]) ?_ | refine HSub_drop2 (by simp only [eq_self, hh_i1]) ?_ | refine HSub_keep_eq (by simp only [vsAll, binA, binLitA, intA, aggA, boolA, nilA2, isConst, unA, loadA, loadRow, partA, partOk, fieldAddrA, indexAddrA, indexA, fieldA, extractA, lenA, nilCheckA, boxA, cellA, cellsA, fillA, okParts, buildSliceA, buildMutA, makeSliceA, partIdx, elemsA, lensA, ifaceA, convA, mmA, pickA, okAll, stAll, opsA, partsA, partsOk, opA, allocA, boxMutA, newCells, okCells, storeObj, appendA, guardV, taA, nM, mapUpA, lookA, sliceA, boundsA, opO, okO, copyA, dstOk, nilA, quietOk, nilSliceOp, panA, resA, argFr, retA.eq_1, retA.eq_2, Nat.reduceAdd, Nat.reduceSub, Nat.reduceMul, Nat.reduceLT, Nat.reduceLeDiff, Nat.reduceEqDiff, Nat.reduceBEq, Int.reduceAdd, Int.reduceSub, Int.reduceMul, Int.reduceNeg, Int.reduceLE, Int.reduceLT, Int.reduceEq, Int.reduceNe, Int.reduceToNat, ↓reduceIte, reduceCtorEq, implies_true, forall_const, eq_self, ne_eq, wtAll, Try.ntmps14, Try.results14, hh_i1]) ?_)))
end Go.Proofs.Ytkonoggmdcdeeaa
end
section
set_option linter.unusedVariables false
set_option linter.unusedSimpArgs false
set_option maxHeartbeats 4000000
set_option maxRecDepth 100000
namespace Go.Proofs.Ytkonoggmdcdeeaa
open Go.V
/-- How many claims are false in a truth. -/
def popW (x : Ir) (t : List Int) : Nat := pop (wrongT x t)
def clrB (x : Ir) (o : List (List Int)) (t : List Int) : Bool := decide (0 < o.length) && decide (popW x t < popW x (o.getD 0 []))
def addB (x : Ir) (o : List (List Int)) (t : List Int) : Bool := decide (o.length = 0) || decide (popW x t = popW x (o.getD 0 []))
def bst1 (x : Ir) (o : List (List Int)) (t : List Int) : List (List Int) := if addB x o t = true then o ++ [t] else o
def bstN (x : Ir) : Nat → List (List Int)
  | 0 => []
  | i + 1 => bst1 x (if clrB x (bstN x i) ((truA x).getD i []) = true then [] else bstN x i) ((truA x).getD i [])
def bestL (x : Ir) : List (List Int) := bstN x (truA x).length
end Go.Proofs.Ytkonoggmdcdeeaa
end
section
set_option linter.unusedVariables false
set_option linter.unusedSimpArgs false
set_option maxHeartbeats 4000000
set_option maxRecDepth 100000
namespace Go.Proofs.Ytkonoggmdcdeeaa
open Go.V
/-- The least set of false claims of the first ones. -/
def mnN (x : Ir) (L : List (List Int)) : Nat → Nat
  | 0 => wrongT x (L.getD 0 [])
  | i + 1 => min (mnN x L i) (wrongT x (L.getD i []))
def rfalP (x : Ir) : Nat × Nat := if falseE x = 0 then (pop (mnN x (bestL x) (bestL x).length), mnN x (bestL x) (bestL x).length) else (0, 0)
def rlikV (x : Ir) (s : Int) : Nat := if likE x s = 0 then who (bestL x) s.toNat else 0
end Go.Proofs.Ytkonoggmdcdeeaa
end
section
set_option linter.unusedVariables false
set_option linter.unusedSimpArgs false
namespace Go.Proofs.Ytkonoggmdcdeeaa
open Go.V
def moreK (x : Ir) (C k : Nat) (s : Nat) (o : Int) (r : Nat × Nat) : Nat × Nat := (r.1 + (wrO x C s o k).1, r.2 + (wrO x C s o k).2)
/-- A claim is false, and of one of these strakes. -/
def flB (x : Ir) (C k s : Nat) (t : List Int) : Bool := decide (s ≤ (x.cl.getD k cl0).s.toNat ∧ (x.cl.getD k cl0).s.toNat < s + t.length) && C.testBit k && !rightO (x.cl.getD k cl0) (t.getD ((x.cl.getD k cl0).s.toNat - s) 0)
end Go.Proofs.Ytkonoggmdcdeeaa
end
section
set_option linter.unusedVariables false
set_option linter.unusedSimpArgs false
namespace Go.Proofs.Ytkonoggmdcdeeaa
open Go.V
theorem tru_fit {x : Ir} {S : Nat} : ∀ {n : Nat} {b t : List Int}, t ∈ tru x S n b → ∀ j, b.length ≤ j → j < b.length + n → S.testBit j = true → fitB x (t.getD j 0).toNat j = true := by
  intro n
  induction n with
  | zero => intro b t _ j h1 h2; omega
  | succ n ih =>
    intro b t h j h1 h2 hj
    cases hb : S.testBit b.length with
    | true =>
      rw [tru_yes hb, truP_mem] at h
      obtain ⟨o, ho, hc, h⟩ := h
      by_cases e : j = b.length
      · subst e
        have := (tru_mem h).2.1 b.length (by simp)
        rw [this, getD_snoc, if_pos rfl, Int.toNat_natCast]
        simp only [canO, Bool.and_eq_true] at hc
        exact hc.1
      · exact ih h j (by simp; omega) (by simp; omega) hj
    | false =>
      rw [tru_no hb] at h
      by_cases e : j = b.length
      · subst e; rw [hb] at hj; cases hj
      · exact ih h j (by simp; omega) (by simp; omega) hj
end Go.Proofs.Ytkonoggmdcdeeaa
end
section
set_option linter.unusedVariables false
set_option linter.unusedSimpArgs false
set_option maxHeartbeats 4000000
set_option maxRecDepth 100000
namespace Go.Proofs.Ytkonoggmdcdeeaa
open Go.V
/-- All claims of a set, of the first ones, are right in a truth. -/
def okR (x : Ir) (set : Nat) (t : List Int) : Nat → Bool
  | 0 => true
  | n + 1 => okR x set t n && (!set.testBit n || rightT x t n)
/-- In no truth all are. -/
def clsB (x : Ir) (L : List (List Int)) (set : Nat) : Bool := L.all fun t => !okR x set t x.cl.length
/-- The smallest set, as the document looks for it: from all, each that is smaller. -/
def bsN (f : Nat → Bool) (b : Nat) : Nat → Nat
  | 0 => b
  | j + 1 => if (decide (pop j < pop (bsN f b j)) && f j) = true then j else bsN f b j
theorem bsN_lt (f : Nat → Bool) (b B : Nat) (hb : b < B) : ∀ j, j ≤ B → bsN f b j < B := by
  intro j
  induction j with
  | zero => intro _; exact hb
  | succ j ih => intro hj; simp only [bsN]; split; (· omega); (· exact ih (by omega))
def rset (f : Nat → Bool) (m : Nat) : Option Nat := if f (2 ^ m - 1) = true then some (bsN f (2 ^ m - 1) (2 ^ m)) else none
end Go.Proofs.Ytkonoggmdcdeeaa
end
section
set_option linter.unusedVariables false
set_option linter.unusedSimpArgs false
set_option maxHeartbeats 4000000
set_option maxRecDepth 100000
namespace Go.Proofs.Ytkonoggmdcdeeaa
open Go.V
/-- There is no truth with the strakes of a set alone. -/
def shD (x : Ir) (set : Nat) : Bool := decide ((truS x set).length = 0)
end Go.Proofs.Ytkonoggmdcdeeaa
end
section
set_option linter.unusedVariables false
set_option linter.unusedSimpArgs false
namespace Go.Proofs.Ytkonoggmdcdeeaa
open Go.V
theorem inn_none (f : Nat → Bool) (z n : Nat) : ∀ j, inn f z n j = none → ∀ i, j ≤ i → i < j + n → f i = true → pop i ≠ z := by
  induction n with
  | zero => intro j _ i h1 h2; omega
  | succ n ih =>
    intro j h i h1 h2 hf he
    simp only [inn] at h
    split at h
    · cases h
    · rename_i hc
      by_cases e : i = j
      · subst e; apply hc; rw [hf, decide_eq_true he]; rfl
      · exact ih (j + 1) h i (by omega) (by omega) hf he
theorem inn_first (f : Nat → Bool) (z n : Nat) : ∀ j r, inn f z n j = some r → ∀ i, j ≤ i → i < j + n → f i = true → pop i = z → r ≤ i := by
  induction n with
  | zero => intro j r h; cases h
  | succ n ih =>
    intro j r h i h1 h2 hf he
    simp only [inn] at h
    split at h
    · cases h; exact h1
    · rename_i hc
      by_cases e : i = j
      · subst e; exfalso; apply hc; rw [hf, decide_eq_true he]; rfl
      · exact ih (j + 1) r h i (by omega) (by omega) hf he
/-- The least set that suits. -/
structure LeastSet (f : Nat → Bool) (m r : Nat) : Prop where
  lt : r < 2 ^ m
  is : f r = true
  le : ∀ i, i < 2 ^ m → f i = true → pop r < pop i ∨ pop r = pop i ∧ r ≤ i
theorem LeastSet.uniq {f : Nat → Bool} {m r r' : Nat} (h : LeastSet f m r) (h' : LeastSet f m r') : r = r' := by
  have h1 := h.le r' h'.lt h'.is
  have h2 := h'.le r h.lt h.is
  omega
theorem outF_some (f : Nat → Bool) (m n : Nat) : ∀ z r, outF f m n z = some r → z ≤ pop r ∧ (∀ i, i < 2 ^ m → f i = true → z ≤ pop i → pop r < pop i ∨ pop r = pop i ∧ r ≤ i) := by
  induction n with
  | zero => intro z r h; cases h
  | succ n ih =>
    intro z r h
    simp only [outF] at h
    split at h
    · rename_i j hj
      cases h
      obtain ⟨_, _, h3, _⟩ := inn_lt _ _ _ _ _ hj
      refine ⟨by omega, fun i hi hf hz => ?_⟩
      by_cases e : pop i = z
      · exact .inr ⟨by omega, inn_first f z _ 0 _ hj i (Nat.zero_le _) (by omega) hf e⟩
      · exact .inl (by omega)
    · rename_i hj
      obtain ⟨h1, h2⟩ := ih (z + 1) r h
      refine ⟨by omega, fun i hi hf hz => ?_⟩
      have := inn_none f z _ 0 hj i (Nat.zero_le _) (by omega) hf
      exact h2 i hi hf (by omega)
theorem outF_none (f : Nat → Bool) (m n : Nat) : ∀ z, outF f m n z = none → ∀ i, i < 2 ^ m → f i = true → z ≤ pop i → z + n ≤ pop i := by
  induction n with
  | zero => intro z _ i _ _ h; exact h
  | succ n ih =>
    intro z h i hi hf hz
    simp only [outF] at h
    split at h
    · cases h
    · rename_i hj
      have := inn_none f z _ 0 hj i (Nat.zero_le _) (by omega) hf
      have := ih (z + 1) h i hi hf (by omega)
      omega
theorem pop_all : ∀ m, m < 9 → ∀ i, i < 256 → i < 2 ^ m → pop i ≤ m ∧ (pop i = m → i = 2 ^ m - 1) := by decide +kernel
theorem pop_full : ∀ m, m < 9 → pop (2 ^ m - 1) = m := by decide +kernel
theorem fewV_some {f : Nat → Bool} {m r : Nat} (h : fewV f m = some r) : LeastSet f m r := by
  obtain ⟨h1, h2⟩ := outF_lt f m (m + 1) 0 r h
  exact ⟨h1, h2, fun i hi hf => (outF_some f m (m + 1) 0 r h).2 i hi hf (Nat.zero_le _)⟩
theorem fewV_none {f : Nat → Bool} {m : Nat} (hm : m ≤ 8) (h : fewV f m = none) : ∀ i, i < 2 ^ m → f i = false := by
  intro i hi
  rw [← Bool.not_eq_true]
  intro hf
  have h1 := outF_none f m (m + 1) 0 h i hi hf (Nat.zero_le _)
  have hp : 2 ^ m ≤ 2 ^ 8 := Nat.pow_le_pow_right (by decide) hm
  have h2 := (pop_all m (by omega) i (by omega) hi).1
  omega
theorem bsN_spec (f : Nat → Bool) (b : Nat) : ∀ j, (bsN f b j = b ∨ (bsN f b j < j ∧ f (bsN f b j) = true)) ∧ pop (bsN f b j) ≤ pop b ∧ ∀ i, i < j → f i = true → pop (bsN f b j) < pop i ∨ pop (bsN f b j) = pop i ∧ (bsN f b j ≤ i ∨ bsN f b j = b) := by
  intro j
  induction j with
  | zero => exact ⟨.inl rfl, Nat.le_refl _, fun i hi => by omega⟩
  | succ j ih =>
    obtain ⟨h1, h2, h3⟩ := ih
    simp only [bsN]
    by_cases hc : (decide (pop j < pop (bsN f b j)) && f j) = true
    · rw [if_pos hc]
      simp only [Bool.and_eq_true, decide_eq_true_eq] at hc
      refine ⟨.inr ⟨by omega, hc.2⟩, by omega, fun i hi hf => ?_⟩
      by_cases e : i = j
      · subst e; exact .inr ⟨rfl, .inl (Nat.le_refl _)⟩
      · have := h3 i (by omega) hf
        exact .inl (by omega)
    · rw [if_neg hc]
      simp only [Bool.and_eq_true, decide_eq_true_eq] at hc
      refine ⟨h1.imp id fun h => ⟨by omega, h.2⟩, h2, fun i hi hf => ?_⟩
      by_cases e : i = j
      · subst e
        have : ¬ pop i < pop (bsN f b i) := fun q => hc ⟨q, hf⟩
        rcases h1 with h | h
        · by_cases q : pop (bsN f b i) = pop i
          · exact .inr ⟨q, .inr h⟩
          · exact .inl (by omega)
        · by_cases q : pop (bsN f b i) = pop i
          · exact .inr ⟨q, .inl (by omega)⟩
          · exact .inl (by omega)
      · exact h3 i (by omega) hf
theorem rset_least {f : Nat → Bool} {m r : Nat} (hm : m ≤ 8) (h : rset f m = some r) : LeastSet f m r := by
  unfold rset at h
  split at h
  · rename_i hf
    cases h
    have hp0 : 0 < 2 ^ m := Nat.pow_pos (by decide)
    have hp : 2 ^ m ≤ 2 ^ 8 := Nat.pow_le_pow_right (by decide) hm
    have hlt := bsN_lt f (2 ^ m - 1) (2 ^ m) (by omega) (2 ^ m) (Nat.le_refl _)
    obtain ⟨h1, h2, h3⟩ := bsN_spec f (2 ^ m - 1) (2 ^ m)
    refine ⟨hlt, ?_, fun i hi hfi => ?_⟩
    · rcases h1 with h | h
      · rw [h]; exact hf
      · exact h.2
    · rcases h3 i hi hfi with q | ⟨q, q2 | q2⟩
      · exact .inl q
      · exact .inr ⟨q, q2⟩
      · refine .inr ⟨q, ?_⟩
        rw [q2] at q
        rw [pop_full m (by omega)] at q
        have := (pop_all m (by omega) i (by omega) hi).2 q.symm
        rw [q2, this]
        exact Nat.le_refl _
  · cases h
/-- The two ways agree, if a set suits whenever a part of it does. -/
theorem few_rset {f : Nat → Bool} {m : Nat} (hm : m ≤ 8) (hmon : ∀ i, i < 2 ^ m → f i = true → f (2 ^ m - 1) = true) : fewV f m = rset f m := by
  cases hr : rset f m with
  | some r =>
    have hl := rset_least hm hr
    cases hw : fewV f m with
    | some w => rw [(fewV_some hw).uniq hl]
    | none => have := fewV_none hm hw r hl.lt; rw [hl.is] at this; cases this
  | none =>
    cases hw : fewV f m with
    | none => rfl
    | some w =>
      have hl := fewV_some hw
      unfold rset at hr
      rw [if_pos (hmon w hl.lt hl.is)] at hr
      cases hr

/-- No claim of a set is false from this strake on. -/
def noF (x : Ir) (C s : Nat) (t : List Int) : Bool := (List.range x.cl.length).all fun k => !flB x C k s t
end Go.Proofs.Ytkonoggmdcdeeaa
end
section
set_option linter.unusedVariables false
set_option linter.unusedSimpArgs false
namespace Go.Proofs.Ytkonoggmdcdeeaa
open Go.V
theorem tru_less {x : Ir} {S S' : Nat} : ∀ (n : Nat) (b b' : List Int), b'.length = b.length → (∀ j, b.length ≤ j → j < b.length + n → S'.testBit j = true → S.testBit j = true) → (∀ o : Nat, cntB b' o ≤ cntB b o) → tru x S n b ≠ [] → tru x S' n b' ≠ [] := by
  intro n
  induction n with
  | zero => intro b b' _ _ _ _; simp [tru]
  | succ n ih =>
    intro b b' hl hS hc h
    obtain ⟨t, ht⟩ := List.exists_mem_of_ne_nil _ h
    have hne : ∀ (c c' : List Int), t ∈ tru x S n c → c'.length = c.length → c.length = b.length + 1 → (∀ o : Nat, cntB c' o ≤ cntB c o) → tru x S' n c' ≠ [] := fun c c' hm h1 h2 h3 =>
      ih c c' h1 (fun j q1 q2 => hS j (by omega) (by omega)) h3 (List.ne_nil_of_mem hm)
    cases hb' : S'.testBit b'.length with
    | true =>
      have hb : S.testBit b.length = true := hS b.length (Nat.le_refl _) (by omega) (by rw [← hl]; exact hb')
      rw [tru_yes hb, truP_mem] at ht
      obtain ⟨o, ho, hcan, ht⟩ := ht
      have hcan' : canO x b' o = true := by
        simp only [canO, Bool.and_eq_true, decide_eq_true_eq] at hcan ⊢
        rw [hl]
        exact ⟨hcan.1, by have := hc o; omega⟩
      have := hne (b ++ [(o : Int)]) (b' ++ [(o : Int)]) ht (by simp [hl]) (by simp) (fun q => by rw [cntB_snoc, cntB_snoc]; have := hc q; omega)
      obtain ⟨t', ht'⟩ := List.exists_mem_of_ne_nil _ this
      rw [tru_yes hb']
      exact List.ne_nil_of_mem (truP_mem.2 ⟨o, ho, hcan', ht'⟩)
    | false =>
      rw [tru_no hb']
      cases hb : S.testBit b.length with
      | true =>
        rw [tru_yes hb, truP_mem] at ht
        obtain ⟨o, ho, hcan, ht⟩ := ht
        exact hne (b ++ [(o : Int)]) (b' ++ [-1]) ht (by simp [hl]) (by simp) (fun q => by rw [cntB_snoc, cntB_snoc, if_neg (by omega)]; have := hc q; omega)
      | false =>
        rw [tru_no hb] at ht
        exact hne (b ++ [-1]) (b' ++ [-1]) ht (by simp [hl]) (by simp) (fun q => by rw [cntB_snoc, cntB_snoc, if_neg (by omega)]; have := hc q; omega)
theorem short_eq {x : Ir} (k : Ok x) : shortR x = rset (shD x) x.st.length := by
  have e : shP x = shD x := by
    funext set
    rw [shP, shD, tlN_len k.gd]
  rw [shortR, e]
  refine few_rset (Nat.le_trans k.nS (by decide)) fun i hi hf => ?_
  rw [shD, decide_eq_true_eq, List.length_eq_zero_iff] at hf ⊢
  apply Classical.byContradiction
  intro h
  exact tru_less x.st.length [] [] rfl (fun j _ hj _ => full_bit _ _ (by simp at hj; exact hj)) (fun o => Nat.le_refl _) h hf
end Go.Proofs.Ytkonoggmdcdeeaa
end
section
set_option linter.unusedVariables false
set_option linter.unusedSimpArgs false
set_option maxHeartbeats 4000000
set_option maxRecDepth 100000
namespace Go.Proofs.Ytkonoggmdcdeeaa
open Go.V
/-- Irons of which a strake is known to be an owner's are not too large. -/
def fxB (x : Ir) (s : Nat) : Bool := decide (x.F + 1 ≤ 4) && decide ((x.st.getD s []).length + 1 ≤ 6)
def rowF (x : Ir) (o : Nat) : Nat → List AV := fun j => [intsAV (owW x o j)]
end Go.Proofs.Ytkonoggmdcdeeaa
end
section
set_option linter.unusedVariables false
set_option linter.unusedSimpArgs false
namespace Go.Proofs.Ytkonoggmdcdeeaa
open Go.V
/-- How many truths there are with one of the first owners. -/
def sumO (x : Ir) (s : Nat) : Nat → Nat
  | 0 => 0
  | o + 1 => sumO x s o + ((truA x).filter fun t => decide (t.getD s 0 = (o : Int))).length
theorem fitsN_bit (x : Ir) (s n o : Nat) : (fitsN x s n).testBit o = (decide (o < n) && fitB x o s) := by
  induction n with
  | zero => simp [fitsN]
  | succ n ih =>
    have hlt := fitsN_lt x s n
    simp only [fitsN]
    by_cases h : fitB x n s = true
    · rw [if_pos h, ← or_bit _ _ hlt, Nat.testBit_or, ih, Nat.testBit_two_pow]
      by_cases e : n = o
      · subst e; simp [h]
      · rw [decide_eq_false e, Bool.or_false]
        congr 1
        exact decide_eq_decide.2 (by omega)
    · rw [if_neg h, Nat.add_zero, ih]
      by_cases e : n = o
      · subst e
        rw [Bool.not_eq_true] at h
        simp [h]
      · congr 1
        exact decide_eq_decide.2 (by omega)
def wantW (own o : Nat) (nt : Bool) : Int :=
  if nt = true then 2 - (if own.testBit o = false then 0 else if own = 2 ^ o then 2 else 1) else if own.testBit o = false then 0 else if own = 2 ^ o then 2 else 1
end Go.Proofs.Ytkonoggmdcdeeaa
end
section
set_option linter.unusedVariables false
set_option linter.unusedSimpArgs false
set_option maxHeartbeats 4000000
set_option maxRecDepth 100000
namespace Go.Proofs.Ytkonoggmdcdeeaa
open Go.V
theorem fine_tri (x : Ir) (H : Hp) (hO : x.ow.length < 2 ^ 63) (hS : x.st.length < 2 ^ 63) : PTri Try.prog (fnA 33) [x.av] H (boo (!farB x && decide (Ok x))) := by
  refine tri_v0 (fun _ => false) Try.func33 (by kernel_rfl) rfl (by simp only [List.length_append, List.length_cons, List.length_nil, Try.ntmps33]; decide) ?_
  simp only [vsAll, loadA, loadRow, partA, partOk, boxA, okAll, stAll, opsA, opA, dstOk, nilSliceOp, argFr, Nat.reduceAdd, Nat.reduceLT, Nat.reduceEqDiff, ↓reduceIte, eq_self, wtAll, Try.ntmps33]
  refine callK_pure (far_tri x _ hO hS) ?_
  simp only [vsAll, unA, loadA, loadRow, partA, partOk, opA, guardV, dstOk, Nat.reduceLT, Nat.reduceEqDiff, ↓reduceIte, implies_true, eq_self, wtAll]
  refine gcall _ (fun g => ⟨by simp only [vsAll, opA], by simp only [vsAll, okAll, opsA, opA, ↓reduceIte, eq_self, g], rirons_tri x _ (far_near (by simpa using g))⟩) ?_
  simp only [vsAll, pickA, opA, dstOk, nilSliceOp, resA, retA.eq_1, Nat.reduceLT, Nat.reduceEqDiff, ↓reduceIte, implies_true, eq_self, Try.results33]
end Go.Proofs.Ytkonoggmdcdeeaa
end
section
set_option linter.unusedVariables false
set_option linter.unusedSimpArgs false
set_option maxHeartbeats 4000000
set_option maxRecDepth 100000
namespace Go.Proofs.Ytkonoggmdcdeeaa
open Go.V
/-- The claims of a set, of the first ones. -/
def partL (x : Ir) (set : Nat) : Nat → List Cl
  | 0 => []
  | i + 1 => if set.testBit i = true then partL x set i ++ [x.cl.getD i cl0] else partL x set i
def partI (x : Ir) (set : Nat) : Ir := { x with cl := partL x set x.cl.length }
/-- Not all claims of a set can be right: asked of irons with these alone. -/
def cfB (x : Ir) (set : Nat) : Bool := decide (falseE (partI x set) = 0) && decide (0 < (falseP (partI x set)).1)
end Go.Proofs.Ytkonoggmdcdeeaa
end
section
set_option linter.unusedVariables false
set_option linter.unusedSimpArgs false
set_option maxHeartbeats 4000000
set_option maxRecDepth 100000
namespace Go.Proofs.Ytkonoggmdcdeeaa
open Go.V
/-- Without the claims of a set the others can be right. -/
def cnB (x : Ir) (e set : Nat) : Bool := decide (setE (errE (partI x (e ^^^ (e &&& set))) true true) (clashR (partI x (e ^^^ (e &&& set)))) = 4)
end Go.Proofs.Ytkonoggmdcdeeaa
end
section
set_option linter.unusedVariables false
set_option linter.unusedSimpArgs false
namespace Go.Proofs.Ytkonoggmdcdeeaa
open Go.V
/-- A set is a part of another. -/
def SubB (w s : Nat) : Prop := ∀ j, w.testBit j = true → s.testBit j = true
theorem SubB.half {w s : Nat} (h : SubB w s) : SubB (w / 2) (s / 2) := fun j hj => by
  rw [Nat.testBit_div_two] at hj ⊢
  exact h _ hj
theorem SubB.odd {w s : Nat} (h : SubB w s) : w % 2 ≤ s % 2 := by
  have := h 0
  rw [Nat.testBit_zero, Nat.testBit_zero, decide_eq_true_eq, decide_eq_true_eq] at this
  omega
theorem SubB.popN : ∀ (f : Nat) {w s : Nat}, SubB w s → popN f w ≤ popN f s
  | 0, _, _, _ => Nat.le_refl _
  | f + 1, w, s, h => Nat.add_le_add h.odd (SubB.popN f h.half)
theorem SubB.pop {w s : Nat} (h : SubB w s) : pop w ≤ pop s := SubB.popN 64 h
theorem SubB.le {w s : Nat} (h : SubB w s) : w ≤ s := by
  have e : w &&& s = w := by
    apply Nat.eq_of_testBit_eq
    intro j
    rw [Nat.testBit_and]
    cases hb : w.testBit j with
    | false => rfl
    | true => rw [h j hb]; rfl
  rw [← e]
  exact Nat.and_le_right
/-- The truth that False tells of. -/
structure FSpec (x : Ir) (t0 : List Int) : Prop where
  mem : t0 ∈ truA x
  val : falseP x = (popW x t0, wrongT x t0)
  le : ∀ t ∈ truA x, popW x t0 < popW x t ∨ popW x t0 = popW x t ∧ wrongT x t0 ≤ wrongT x t
end Go.Proofs.Ytkonoggmdcdeeaa
end
section
set_option linter.unusedVariables false
set_option linter.unusedSimpArgs false
namespace Go.Proofs.Ytkonoggmdcdeeaa
open Go.V
def stR (x : Ir) (s : Nat) (m : Mk) (j : Nat) : List Mk := if j = s then x.st.getD s [] ++ [m] else x.st.getD j []
def readI (x : Ir) (s : Nat) (m : Mk) : Ir := { x with st := (List.range x.st.length).map (stR x s m) }
def saidI (x : Ir) (c : Cl) : Ir := { x with cl := x.cl ++ [c] }
def moR (x : Ir) (o j : Nat) : Int := if j = o then min 6 (x.mo.getD o 0 + 1) else x.mo.getD j 0
def moreI (x : Ir) (o : Nat) : Ir := { x with mo := (List.range x.mo.length).map (moR x o) }

theorem flat_sub {α β : Type} {f g : α → List β} : ∀ {l : List α}, (∀ a ∈ l, (f a).Sublist (g a)) → (l.flatMap f).Sublist (l.flatMap g)
  | [], _ => by simp
  | a :: l, h => by
    simp only [List.flatMap_cons]
    exact List.Sublist.append (h a (by simp)) (flat_sub fun b hb => h b (by simp [hb]))
theorem tru_sub {x y : Ir} {S : Nat} (hl : y.ow.length = x.ow.length) {L : Nat} (hc : ∀ b o, o < x.ow.length → b.length < L → canO y b o = true → canO x b o = true) :
    ∀ n b, b.length + n ≤ L → (tru y S n b).Sublist (tru x S n b) := by
  intro n
  induction n with
  | zero => intro b _; exact List.Sublist.refl _
  | succ n ih =>
    intro b hb
    cases hS : S.testBit b.length with
    | true =>
      simp only [tru, hS, if_true, hl]
      refine flat_sub fun o ho => ?_
      rw [List.mem_range] at ho
      by_cases h : canO y b o = true
      · rw [if_pos h, if_pos (hc b o ho (by omega) h)]
        exact ih _ (by simp; omega)
      · rw [if_neg h]
        exact List.nil_sublist _
    | false =>
      rw [tru_no hS, tru_no hS]
      exact ih _ (by simp; omega)

/-- The same irons, but for more marks. -/
structure LessI (x y : Ir) : Prop where
  ow : y.ow = x.ow
  mo : y.mo = x.mo
  cl : y.cl = x.cl
  len : y.st.length = x.st.length
  fit : ∀ o s, s < x.st.length → fitB y o s = true → fitB x o s = true
theorem LessI.refl (x : Ir) : LessI x x := ⟨rfl, rfl, rfl, rfl, fun _ _ _ h => h⟩
theorem LessI.tru {x y : Ir} (h : LessI x y) : (truA y).Sublist (truA x) := by
  have := tru_sub (x := x) (y := y) (S := 2 ^ x.st.length - 1) (by rw [h.ow]) (L := x.st.length) (fun b o ho hb hc => by
    simp only [canO, Bool.and_eq_true] at hc ⊢
    rw [h.mo] at hc
    exact ⟨h.fit _ _ hb hc.1, hc.2⟩) x.st.length [] (by simp)
  unfold truA truS
  rw [h.len]
  exact this
end Go.Proofs.Ytkonoggmdcdeeaa
end
section
set_option linter.unusedVariables false
set_option linter.unusedSimpArgs false
namespace Go.Proofs.Ytkonoggmdcdeeaa
open Go.V
def cn (p : Nat → Bool) : Nat → Nat
  | 0 => 0
  | n + 1 => cn p n + if p n = true then 1 else 0
def sm (g : Nat → Nat) : Nat → Nat
  | 0 => 0
  | n + 1 => sm g n + g n
def anyN (p : Nat → Bool) : Nat → Bool
  | 0 => false
  | n + 1 => anyN p n || p n
theorem anyN_iff (p : Nat → Bool) (n : Nat) : anyN p n = true ↔ ∃ s, s < n ∧ p s = true := by
  induction n with
  | zero => exact ⟨fun h => (by cases h), fun ⟨_, h, _⟩ => (by omega)⟩
  | succ n ih =>
    simp only [anyN, Bool.or_eq_true, ih]
    constructor
    · rintro (⟨s, h1, h2⟩ | h)
      · exact ⟨s, by omega, h2⟩
      · exact ⟨n, by omega, h⟩
    · rintro ⟨s, h1, h2⟩
      by_cases e : s = n
      · subst e; exact .inr h2
      · exact .inl ⟨s, by omega, h2⟩
theorem cn_congr {p q : Nat → Bool} {n : Nat} (h : ∀ s, s < n → p s = q s) : cn p n = cn q n := by
  induction n with
  | zero => rfl
  | succ n ih => simp only [cn, ih fun s hs => h s (by omega), h n (by omega)]
theorem cn_mono {p q : Nat → Bool} {n : Nat} (h : ∀ s, s < n → p s = true → q s = true) : cn p n ≤ cn q n := by
  induction n with
  | zero => exact Nat.le_refl _
  | succ n ih =>
    have := ih fun s hs => h s (by omega)
    have h2 := h n (by omega)
    simp only [cn]
    split
    · rename_i hp; rw [if_pos (h2 hp)]; omega
    · omega
theorem cn_split (p q : Nat → Bool) (n : Nat) : cn p n = cn (fun s => p s && q s) n + cn (fun s => p s && !q s) n := by
  induction n with
  | zero => rfl
  | succ n ih =>
    have key : ∀ a b : Bool, (if a = true then 1 else 0) = (if (a && b) = true then 1 else 0) + if (a && !b) = true then 1 else 0 := by decide
    simp only [cn, ih]
    rw [key (p n) (q n)]
    omega
theorem cn_zero {p : Nat → Bool} {n : Nat} : cn p n = 0 ↔ ∀ s, s < n → p s = false := by
  induction n with
  | zero => exact ⟨fun _ s h => by omega, fun _ => rfl⟩
  | succ n ih =>
    simp only [cn]
    constructor
    · intro h s hs
      by_cases e : s = n
      · subst e
        cases hp : p s with
        | false => rfl
        | true => rw [hp] at h; simp at h
      · exact ih.1 (by omega) s (by omega)
    · intro h
      rw [h n (by omega), ih.2 fun s hs => h s (by omega)]
      rfl
theorem cn_one {s n : Nat} (h : s < n) : cn (fun j => decide (j = s)) n = 1 := by
  induction n with
  | zero => omega
  | succ n ih =>
    simp only [cn]
    by_cases e : n = s
    · subst e
      rw [cn_zero.2 fun j hj => decide_eq_false (by omega), if_pos (by simp)]
    · rw [ih (by omega), if_neg (by simp [e])]
theorem sm_mono {f g : Nat → Nat} {n : Nat} (h : ∀ o, o < n → f o ≤ g o) : sm f n ≤ sm g n := by
  induction n with
  | zero => exact Nat.le_refl _
  | succ n ih =>
    have := ih fun s hs => h s (by omega)
    have := h n (by omega)
    simp only [sm]
    omega
theorem sm_add (f g : Nat → Nat) (n : Nat) : sm (fun o => f o + g o) n = sm f n + sm g n := by
  induction n with
  | zero => rfl
  | succ n ih => simp only [sm, ih]; omega
theorem sm_congr {f g : Nat → Nat} {n : Nat} (h : ∀ o, o < n → f o = g o) : sm f n = sm g n := by
  induction n with
  | zero => rfl
  | succ n ih => simp only [sm, ih fun s hs => h s (by omega), h n (by omega)]
theorem sm_one (a n : Nat) : sm (fun o => if o = a then 1 else 0) n ≤ 1 := by
  induction n with
  | zero => exact Nat.zero_le _
  | succ n ih =>
    simp only [sm]
    by_cases e : n = a
    · subst e
      have : sm (fun o => if o = n then 1 else 0) n = 0 := by
        have : ∀ m, m ≤ n → sm (fun o => if o = n then 1 else 0) m = 0 := by
          intro m
          induction m with
          | zero => intro _; rfl
          | succ m ih => intro hm; simp only [sm, ih (by omega)]; rw [if_neg (by omega)]
        exact this n (Nat.le_refl _)
      rw [this, if_pos rfl]
      exact Nat.le_refl _
    · rw [if_neg e]; omega
theorem sm_pos {f : Nat → Nat} {n : Nat} (h : 0 < sm f n) : ∃ o, o < n ∧ 0 < f o := by
  induction n with
  | zero => exact absurd h (Nat.lt_irrefl 0)
  | succ n ih =>
    by_cases e : 0 < f n
    · exact ⟨n, by omega, e⟩
    · simp only [sm] at h
      obtain ⟨o, h1, h2⟩ := ih (by omega)
      exact ⟨o, by omega, h2⟩
/-- A set is told by where its members go. -/
theorem cn_sum {p : Nat → Bool} {f : Nat → Nat} {O n : Nat} (h : ∀ s, s < n → p s = true → f s < O) : cn p n = sm (fun o => cn (fun s => p s && decide (f s = o)) n) O := by
  induction n with
  | zero =>
    have : ∀ O, sm (fun o => cn (fun s => p s && decide (f s = o)) 0) O = 0 := fun O => by
      induction O with
      | zero => rfl
      | succ O ih => simp only [sm, ih]; rfl
    rw [this]; rfl
  | succ n ih =>
    have e : sm (fun o => cn (fun s => p s && decide (f s = o)) (n + 1)) O = sm (fun o => cn (fun s => p s && decide (f s = o)) n) O + sm (fun o => if (p n && decide (f n = o)) = true then 1 else 0) O := by
      rw [← sm_add]
      exact sm_congr fun o _ => rfl
    rw [e, ← ih fun s hs => h s (by omega)]
    simp only [cn]
    congr 1
    cases hp : p n with
    | false =>
      have : ∀ O, sm (fun o => if (false && decide (f n = o)) = true then 1 else 0) O = 0 := fun O => by
        induction O with
        | zero => rfl
        | succ O ih => simp only [sm, ih]; rfl
      rw [this]; rfl
    | true =>
      have hf := h n (by omega) hp
      simp only [Bool.true_and, decide_eq_true_eq]
      have : ∀ m, sm (fun o => if f n = o then 1 else 0) m = if f n < m then 1 else 0 := fun m => by
        induction m with
        | zero => rfl
        | succ m ih =>
          simp only [sm, ih]
          by_cases e1 : f n < m
          · rw [if_pos e1, if_neg (by omega), if_pos (by omega)]
          · by_cases e2 : f n = m
            · rw [if_neg e1, if_pos e2, if_pos (by omega)]
            · rw [if_neg e1, if_neg e2, if_neg (by omega)]
      rw [this, if_pos hf, if_pos trivial]

section
variable (fit : Nat → Nat → Bool) (O N : Nat)
/-- Some strake of the set may be this owner's. -/
def nb (q : Nat → Bool) (o : Nat) : Bool := anyN (fun s => q s && fit o s) N
def cpN (cap : Nat → Nat) (q : Nat → Bool) : Nat := sm (fun o => if nb fit N q o = true then cap o else 0) O
structure Asg (cap : Nat → Nat) (p : Nat → Bool) (f : Nat → Nat) : Prop where
  fit : ∀ s, s < N → p s = true → f s < O ∧ fit (f s) s = true
  cap : ∀ o, o < O → cn (fun s => p s && decide (f s = o)) N ≤ cap o
variable {fit O N}
theorem Asg.need {cap : Nat → Nat} {p q : Nat → Bool} {f : Nat → Nat} (a : Asg fit O N cap p f) (h : ∀ s, s < N → q s = true → p s = true) : cn q N ≤ cpN fit O N cap q := by
  rw [cn_sum (f := f) (O := O) fun s hs hq => (a.fit s hs (h s hs hq)).1]
  refine sm_mono fun o ho => ?_
  by_cases e : nb fit N q o = true
  · rw [if_pos e]
    refine Nat.le_trans (cn_mono fun s hs hh => ?_) (a.cap o ho)
    rw [Bool.and_eq_true] at hh ⊢
    exact ⟨h s hs hh.1, hh.2⟩
  · rw [if_neg e, cn_zero.2]
    · exact Nat.le_refl _
    · intro s hs
      rw [← Bool.not_eq_true]
      intro hh
      rw [Bool.and_eq_true, decide_eq_true_eq] at hh
      exact e ((anyN_iff _ _).2 ⟨s, hs, by rw [Bool.and_eq_true]; exact ⟨hh.1, hh.2 ▸ (a.fit s hs (h s hs hh.1)).2⟩⟩)
theorem hall : ∀ (k : Nat) (p : Nat → Bool) (cap : Nat → Nat), cn p N = k → (∀ q, (∀ s, s < N → q s = true → p s = true) → cn q N ≤ cpN fit O N cap q) → ∃ f, Asg fit O N cap p f := by
  intro k
  induction k using Nat.strongRecOn with
  | ind k ih =>
    intro p cap hk hall
    by_cases hz : k = 0
    · subst hz
      rw [cn_zero] at hk
      exact ⟨fun _ => 0, fun s hs hp => (by rw [hk s hs] at hp; cases hp), fun o _ => by
        rw [cn_zero.2 fun s hs => by rw [hk s hs]; rfl]; exact Nat.zero_le _⟩
    · by_cases ht : ∃ T : Nat → Bool, (∀ s, s < N → T s = true → p s = true) ∧ 0 < cn T N ∧ cn T N < k ∧ cpN fit O N cap T = cn T N
      · obtain ⟨T, t1, t2, t3, t4⟩ := ht
        obtain ⟨f1, a1⟩ := ih (cn T N) t3 T cap rfl fun q hq => hall q fun s hs h => t1 s hs (hq s hs h)
        have hsp := cn_split p T N
        have eT : cn (fun s => p s && T s) N = cn T N := cn_congr fun s hs => by
          cases h : T s with
          | false => rw [Bool.and_false]
          | true => rw [t1 s hs h]; rfl
        obtain ⟨f2, a2⟩ := ih (cn (fun s => p s && !T s) N) (by omega) (fun s => p s && !T s) (fun o => if nb fit N T o = true then 0 else cap o) rfl fun V hV => by
          have hW := hall (fun s => T s || V s) fun s hs h => by
            rw [Bool.or_eq_true] at h
            rcases h with h | h
            · exact t1 s hs h
            · have := hV s hs h
              rw [Bool.and_eq_true] at this
              exact this.1
          have hs2 := cn_split (fun s => T s || V s) T N
          have e1 : cn (fun s => (T s || V s) && T s) N = cn T N := cn_congr fun s hs => by cases T s <;> simp
          have e2 : cn (fun s => (T s || V s) && !T s) N = cn V N := cn_congr fun s hs => by
            cases hv : V s with
            | false => cases T s <;> rfl
            | true =>
              have := hV s hs hv
              rw [Bool.and_eq_true] at this
              cases hT : T s with
              | false => rfl
              | true => rw [hT] at this; cases this.2
          have e3 : cpN fit O N cap (fun s => T s || V s) = cpN fit O N cap T + cpN fit O N (fun o => if nb fit N T o = true then 0 else cap o) V := by
            unfold cpN
            rw [← sm_add]
            refine sm_congr fun o _ => ?_
            have en : nb fit N (fun s => T s || V s) o = (nb fit N T o || nb fit N V o) := by
              rw [Bool.eq_iff_iff, Bool.or_eq_true]
              unfold nb
              rw [anyN_iff, anyN_iff, anyN_iff]
              constructor
              · rintro ⟨s, h1, h2⟩
                rw [Bool.and_eq_true, Bool.or_eq_true] at h2
                rcases h2.1 with h | h
                · exact .inl ⟨s, h1, by rw [h, h2.2]; rfl⟩
                · exact .inr ⟨s, h1, by rw [h, h2.2]; rfl⟩
              · rintro (⟨s, h1, h2⟩ | ⟨s, h1, h2⟩)
                · rw [Bool.and_eq_true] at h2
                  exact ⟨s, h1, by show ((T s || V s) && fit o s) = true; rw [h2.1, h2.2]; rfl⟩
                · rw [Bool.and_eq_true] at h2
                  exact ⟨s, h1, by show ((T s || V s) && fit o s) = true; rw [h2.1, h2.2, Bool.or_true]; rfl⟩
            rw [en]
            dsimp only
            cases nb fit N T o <;> cases nb fit N V o <;> simp
          omega
        refine ⟨fun s => if T s = true then f1 s else f2 s, fun s hs hp => ?_, fun o ho => ?_⟩
        · by_cases e : T s = true
          · simp only [e, if_true]
            exact a1.fit s hs e
          · simp only [e]
            exact a2.fit s hs (by rw [hp]; simpa using e)
        · have q1 := cn_split (fun s => p s && decide ((if T s = true then f1 s else f2 s) = o)) T N
          have q2 : cn (fun s => (p s && decide ((if T s = true then f1 s else f2 s) = o)) && T s) N = cn (fun s => T s && decide (f1 s = o)) N := cn_congr fun s hs => by
            cases h : T s with
            | false => simp
            | true => simp [t1 s hs h]
          have q3 : cn (fun s => (p s && decide ((if T s = true then f1 s else f2 s) = o)) && !T s) N = cn (fun s => (p s && !T s) && decide (f2 s = o)) N := cn_congr fun s hs => by
            cases h : T s with
            | true => simp
            | false => simp
          have c1 := a1.cap o ho
          have c2 := a2.cap o ho
          rw [q1, q2, q3]
          by_cases e : nb fit N T o = true
          · rw [if_pos e] at c2
            omega
          · rw [if_neg e] at c2
            have : cn (fun s => T s && decide (f1 s = o)) N = 0 := cn_zero.2 fun s hs => by
              rw [← Bool.not_eq_true]
              intro hh
              rw [Bool.and_eq_true, decide_eq_true_eq] at hh
              exact e ((anyN_iff _ _).2 ⟨s, hs, by rw [Bool.and_eq_true]; exact ⟨hh.1, hh.2 ▸ (a1.fit s hs hh.1).2⟩⟩)
            omega
      · obtain ⟨s0, hs0, hp0⟩ : ∃ s, s < N ∧ p s = true := by
          apply Classical.byContradiction
          intro hne
          apply hz
          rw [← hk, cn_zero]
          intro s hs
          rw [← Bool.not_eq_true]
          exact fun h => hne ⟨s, hs, h⟩
        have h1 := hall (fun s => decide (s = s0)) fun s hs h => by rw [of_decide_eq_true h]; exact hp0
        rw [cn_one hs0] at h1
        obtain ⟨o0, ho0, hpos⟩ := sm_pos (Nat.lt_of_lt_of_le Nat.zero_lt_one h1)
        have hnb : nb fit N (fun s => decide (s = s0)) o0 = true := by
          apply Classical.byContradiction
          intro h
          rw [if_neg h] at hpos
          exact Nat.lt_irrefl 0 hpos
        rw [if_pos hnb] at hpos
        have hfit : fit o0 s0 = true := by
          obtain ⟨s, _, h2⟩ := (anyN_iff _ _).1 hnb
          rw [Bool.and_eq_true, decide_eq_true_eq] at h2
          rw [← h2.1]; exact h2.2
        have hsp := cn_split p (fun s => decide (s = s0)) N
        have e1 : cn (fun s => p s && decide (s = s0)) N = 1 := by
          rw [← cn_one hs0]
          exact cn_congr fun s hs => by
            by_cases e : s = s0
            · subst e; rw [hp0]; simp
            · simp [e]
        obtain ⟨f, a⟩ := ih (cn (fun s => p s && !decide (s = s0)) N) (by omega) (fun s => p s && !decide (s = s0)) (fun o => cap o - if o = o0 then 1 else 0) rfl fun q hq => by
          have hqp : ∀ s, s < N → q s = true → p s = true := fun s hs h => by
            have := hq s hs h
            rw [Bool.and_eq_true] at this
            exact this.1
          have g1 := hall q hqp
          have g2 := cn_mono hq
          by_cases e0 : cn q N = 0
          · omega
          · have g3 : cpN fit O N cap q ≠ cn q N := fun e => ht ⟨q, hqp, by omega, by omega, e⟩
            have g4 : cpN fit O N cap q ≤ cpN fit O N (fun o => cap o - if o = o0 then 1 else 0) q + 1 := by
              have := sm_one o0 O
              refine Nat.le_trans ?_ (Nat.add_le_add_left this _)
              unfold cpN
              rw [← sm_add]
              refine sm_mono fun o _ => ?_
              by_cases en : nb fit N q o = true
              · rw [if_pos en, if_pos en]
                show cap o ≤ (cap o - if o = o0 then 1 else 0) + if o = o0 then 1 else 0
                omega
              · rw [if_neg en]; exact Nat.zero_le _
            omega
        refine ⟨fun s => if s = s0 then o0 else f s, fun s hs hp => ?_, fun o ho => ?_⟩
        · by_cases e : s = s0
          · simp only [e, if_true]
            exact ⟨ho0, hfit⟩
          · simp only [e, if_false]
            exact a.fit s hs (by rw [hp]; simp [e])
        · have q1 := cn_split (fun s => p s && decide ((if s = s0 then o0 else f s) = o)) (fun s => decide (s = s0)) N
          have q3 : cn (fun s => (p s && decide ((if s = s0 then o0 else f s) = o)) && !decide (s = s0)) N = cn (fun s => (p s && !decide (s = s0)) && decide (f s = o)) N := cn_congr fun s hs => by
            by_cases e : s = s0
            · simp [e]
            · simp [e]
          have c2 : cn (fun s => (p s && !decide (s = s0)) && decide (f s = o)) N ≤ cap o - if o = o0 then 1 else 0 := a.cap o ho
          rw [q1, q3]
          by_cases e : o = o0
          · have q2 : cn (fun s => (p s && decide ((if s = s0 then o0 else f s) = o)) && decide (s = s0)) N ≤ 1 := by
              rw [← cn_one hs0]
              refine cn_mono fun s hs h => ?_
              rw [Bool.and_eq_true] at h
              exact h.2
            rw [if_pos e] at c2
            subst e
            omega
          · have q2 : cn (fun s => (p s && decide ((if s = s0 then o0 else f s) = o)) && decide (s = s0)) N = 0 := cn_zero.2 fun s hs => by
              by_cases es : s = s0
              · simp [es, Ne.symm e]
              · simp [es]
            rw [if_neg e] at c2
            omega
/-- A set that cannot be marked, while it can without any one of it, has too few places. -/
theorem hall_least {cap : Nat → Nat} {p : Nat → Bool} (hno : ¬ ∃ f, Asg fit O N cap p f) (hmin : ∀ i, i < N → p i = true → ∃ f, Asg fit O N cap (fun s => p s && !decide (s = i)) f) : cpN fit O N cap p < cn p N := by
  apply Classical.byContradiction
  intro hge
  apply hno
  refine hall _ p cap rfl fun q hq => ?_
  by_cases hall : ∀ s, s < N → p s = true → q s = true
  · have e : ∀ s, s < N → q s = p s := fun s hs => by
      rw [Bool.eq_iff_iff]
      exact ⟨hq s hs, hall s hs⟩
    have e2 : cpN fit O N cap q = cpN fit O N cap p := sm_congr fun o _ => by
      have : nb fit N q o = nb fit N p o := by
        rw [Bool.eq_iff_iff]
        unfold nb
        rw [anyN_iff, anyN_iff]
        exact ⟨fun ⟨s, h1, h2⟩ => ⟨s, h1, by rw [← e s h1]; exact h2⟩, fun ⟨s, h1, h2⟩ => ⟨s, h1, by rw [e s h1]; exact h2⟩⟩
      rw [this]
    rw [cn_congr e, e2]
    omega
  · have : ∃ i, i < N ∧ p i = true ∧ q i = false := by
      apply Classical.byContradiction
      intro hne
      apply hall
      intro s hs hp
      apply Classical.byContradiction
      intro hnq
      exact hne ⟨s, hs, hp, by simpa using hnq⟩
    obtain ⟨i, hi, hpi, hqi⟩ := this
    obtain ⟨f, a⟩ := hmin i hi hpi
    refine a.need fun s hs h => ?_
    rw [hq s hs h]
    by_cases e : s = i
    · subst e; rw [hqi] at h; cases h
    · simp [e]
end
end Go.Proofs.Ytkonoggmdcdeeaa
end
section
set_option linter.unusedVariables false
set_option linter.unusedSimpArgs false
namespace Go.Proofs.Ytkonoggmdcdeeaa
open Go.V
theorem cntB_cn (l : List Int) (o : Nat) : cntB l (o : Int) = cn (fun s => decide (l.getD s 0 = (o : Int))) l.length := by
  have key : ∀ k, k ≤ l.length → cntB (l.take k) (o : Int) = cn (fun s => decide (l.getD s 0 = (o : Int))) k := by
    intro k
    induction k with
    | zero => intro _; rfl
    | succ k ih =>
      intro hk
      rw [take_snoc l k 0 (by omega), cntB_snoc, ih (by omega)]
      simp only [cn, decide_eq_true_eq]
  have := key l.length (Nat.le_refl _)
  rwa [List.take_length] at this
theorem cn_le_len {p : Nat → Bool} {a b : Nat} (h : a ≤ b) : cn p a ≤ cn p b := by
  induction b with
  | zero => rw [show a = 0 by omega]; exact Nat.le_refl _
  | succ b ih =>
    by_cases e : a = b + 1
    · rw [e]; exact Nat.le_refl _
    · have := ih (by omega)
      simp only [cn]; omega
theorem tru_room {x : Ir} {S : Nat} : ∀ {n : Nat} {b t : List Int}, t ∈ tru x S n b → (∀ o : Nat, o < x.ow.length → (cntB b (o : Int) : Int) ≤ x.mo.getD o 0) → ∀ o : Nat, o < x.ow.length → (cntB t (o : Int) : Int) ≤ x.mo.getD o 0 := by
  intro n
  induction n with
  | zero =>
    intro b t h hb
    simp only [tru, List.mem_singleton] at h
    subst h
    exact hb
  | succ n ih =>
    intro b t h hb
    cases hS : S.testBit b.length with
    | true =>
      rw [tru_yes hS, truP_mem] at h
      obtain ⟨o', ho', hc, h⟩ := h
      refine ih h fun o ho => ?_
      rw [cntB_snoc]
      simp only [canO, Bool.and_eq_true, decide_eq_true_eq] at hc
      have := hb o ho
      split
      · rename_i e
        have e2 : o' = o := by omega
        subst e2
        have := hc.2
        omega
      · omega
    | false =>
      rw [tru_no hS] at h
      refine ih h fun o ho => ?_
      rw [cntB_snoc, if_neg (by omega)]
      exact hb o ho
abbrev capI (x : Ir) (o : Nat) : Nat := (x.mo.getD o 0).toNat
abbrev AsgI (x : Ir) (S : Nat) (f : Nat → Nat) : Prop := Asg (fitB x) x.ow.length x.st.length (capI x) (fun s => S.testBit s) f
theorem tru_asg {x : Ir} (k : Ok x) {S : Nat} (h : truS x S ≠ []) : ∃ f, AsgI x S f := by
  obtain ⟨t, ht⟩ := List.exists_mem_of_ne_nil _ h
  unfold truS at ht
  obtain ⟨h1, _, h3⟩ := tru_mem ht
  simp only [List.length_nil, Nat.zero_add] at h1 h3
  refine ⟨fun s => (t.getD s 0).toNat, fun s hs hp => ?_, fun o ho => ?_⟩
  · obtain ⟨o, ho, e⟩ := (h3 s (Nat.zero_le _) hs).1 hp
    refine ⟨?_, tru_fit ht s (Nat.zero_le _) (by simp; exact hs) hp⟩
    rw [e, Int.toNat_natCast]; exact ho
  · have hr := tru_room ht (fun o ho => by
      have := (k.mo o ho).1
      have e : cntB [] (o : Int) = 0 := rfl
      rw [e]; omega) o ho
    rw [cntB_cn, h1] at hr
    have hm : cn (fun s => S.testBit s && decide ((t.getD s 0).toNat = o)) x.st.length ≤ cn (fun s => decide (t.getD s 0 = (o : Int))) x.st.length := cn_mono fun s hs hh => by
      rw [Bool.and_eq_true, decide_eq_true_eq] at hh
      obtain ⟨o', _, e⟩ := (h3 s (Nat.zero_le _) hs).1 hh.1
      rw [decide_eq_true_eq]
      have := hh.2
      omega
    show _ ≤ (x.mo.getD o 0).toNat
    omega
def begL (S : Nat) (f : Nat → Nat) (k : Nat) : List Int := (List.range k).map fun s => if S.testBit s = true then ((f s : Nat) : Int) else -1
theorem asg_tru {x : Ir} (k : Ok x) {S : Nat} {f : Nat → Nat} (a : AsgI x S f) : truS x S ≠ [] := by
  have key : ∀ n, n ≤ x.st.length → tru x S n (begL S f (x.st.length - n)) ≠ [] := by
    intro n
    induction n with
    | zero => intro _; simp [tru]
    | succ n ih =>
      intro hn
      have hl : (begL S f (x.st.length - (n + 1))).length = x.st.length - (n + 1) := by simp [begL]
      have hs : x.st.length - (n + 1) < x.st.length := by omega
      have e : begL S f (x.st.length - n) = begL S f (x.st.length - (n + 1)) ++ [if S.testBit (x.st.length - (n + 1)) = true then ((f (x.st.length - (n + 1)) : Nat) : Int) else -1] := by
        rw [show x.st.length - n = (x.st.length - (n + 1)) + 1 by omega]
        simp only [begL, List.range_succ, List.map_append, List.map_cons, List.map_nil]
      have ih := ih (by omega)
      rw [e] at ih
      generalize hj : x.st.length - (n + 1) = j at *
      cases hS : S.testBit j with
      | true =>
        rw [hS, if_pos rfl] at ih
        obtain ⟨g1, g2⟩ := a.fit j hs hS
        have hc := a.cap (f j) g1
        have hle : cn (fun s => S.testBit s && decide (f s = f j)) (j + 1) ≤ cn (fun s => S.testBit s && decide (f s = f j)) x.st.length := cn_le_len (by omega)
        have hm : cntB (begL S f j) ((f j : Nat) : Int) ≤ cn (fun s => S.testBit s && decide (f s = f j)) j := by
          rw [cntB_cn, hl]
          refine cn_mono fun s hs' hh => ?_
          rw [decide_eq_true_eq] at hh
          have es : (begL S f j).getD s 0 = if S.testBit s = true then ((f s : Nat) : Int) else -1 := getD_mapR _ _ _ _ hs'
          rw [es] at hh
          split at hh
          · rename_i q
            rw [q, decide_eq_true (by omega)]
            rfl
          · omega
        simp only [cn, hS, decide_true, Bool.and_self, if_true] at hle
        have hmo := k.mo (f j) g1
        have hcap : capI x (f j) = (x.mo.getD (f j) 0).toNat := rfl
        have hcan : canO x (begL S f j) (f j) = true := by
          simp only [canO, Bool.and_eq_true, decide_eq_true_eq, hl]
          refine ⟨g2, ?_⟩
          omega
        obtain ⟨t, ht⟩ := List.exists_mem_of_ne_nil _ ih
        rw [tru_yes (by rw [hl]; exact hS)]
        exact List.ne_nil_of_mem (truP_mem.2 ⟨f j, g1, hcan, ht⟩)
      | false =>
        rw [hS, if_neg (by decide)] at ih
        rw [tru_no (by rw [hl]; exact hS)]
        exact ih
  have := key x.st.length (Nat.le_refl _)
  rw [Nat.sub_self] at this
  exact this
/-- A least set that cannot be marked: to all owners whose iron fits one of them fewer were given. -/
theorem short_room {x : Ir} (k : Ok x) {r : Nat} (h : truS x r = []) (hm : ∀ i, i < x.st.length → r.testBit i = true → truS x (r ^^^ (r &&& 2 ^ i)) ≠ []) : cpN (fitB x) x.ow.length x.st.length (capI x) (fun s => r.testBit s) < cn (fun s => r.testBit s) x.st.length := by
  refine hall_least (fun ⟨f, a⟩ => asg_tru k a h) fun i hi hb => ?_
  obtain ⟨f, a⟩ := tru_asg k (hm i hi hb)
  have e : ∀ s, (r.testBit s && !decide (s = i)) = (r ^^^ (r &&& 2 ^ i)).testBit s := fun s => by
    rw [Nat.testBit_xor, Nat.testBit_and, Nat.testBit_two_pow]
    by_cases e : s = i
    · subst e; simp
    · rw [decide_eq_false e, decide_eq_false (fun q => e q.symm)]; simp
  have ef : (fun s => r.testBit s && !decide (s = i)) = fun s => (r ^^^ (r &&& 2 ^ i)).testBit s := funext e
  rw [ef]
  exact ⟨f, a⟩
theorem pop_cn : ∀ N, N < 7 → ∀ r, r < 64 → r < 2 ^ N → pop r = cn (fun s => r.testBit s) N := by decide +kernel
end Go.Proofs.Ytkonoggmdcdeeaa
end
section
set_option linter.unusedVariables false
set_option linter.unusedSimpArgs false
set_option maxHeartbeats 4000000
set_option maxRecDepth 100000
namespace Go.Proofs.Ytkonoggmdcdeeaa
open Go.V
/-- The strakes of a set, of the first ones. -/
def stL (x : Ir) (set : Nat) : Nat → List (List Mk)
  | 0 => []
  | i + 1 => if set.testBit i = true then stL x set i ++ [x.st.getD i []] else stL x set i
def stI (x : Ir) (set : Nat) : Ir := { x with st := stL x set x.st.length, cl := [] }
theorem stL_len (x : Ir) (set i : Nat) : (stL x set i).length ≤ i := by
  induction i with
  | zero => exact Nat.le_refl _
  | succ i ih =>
    simp only [stL]
    split
    · rw [List.length_append]; simp only [List.length_cons, List.length_nil]; omega
    · omega
theorem app_st (l : List (List Mk)) (c : List Mk) (g : Nat → List AV) (hg : g 0 = [mksAV c]) : appF l.length 1 (stF l) g = stF (l ++ [c]) := app_lF (fun c => [mksAV c]) [] l c g hg
theorem stL_mem {x : Ir} {set : Nat} {c : List Mk} : ∀ {i : Nat}, c ∈ stL x set i ↔ ∃ k, k < i ∧ set.testBit k = true ∧ c = x.st.getD k [] := by
  intro i
  induction i with
  | zero => simp [stL]
  | succ i ih =>
    simp only [stL]
    constructor
    · intro h
      split at h
      · rename_i hb
        rcases List.mem_append.1 h with h | h
        · obtain ⟨k, h1, h2⟩ := ih.1 h; exact ⟨k, by omega, h2⟩
        · rw [List.mem_singleton] at h; exact ⟨i, by omega, hb, h⟩
      · obtain ⟨k, h1, h2⟩ := ih.1 h; exact ⟨k, by omega, h2⟩
    · rintro ⟨k, h1, h2, h3⟩
      by_cases e : k = i
      · subst e
        rw [if_pos h2]
        exact List.mem_append_right _ (by rw [h3]; simp)
      · have := ih.2 ⟨k, by omega, h2, h3⟩
        split
        · exact List.mem_append_left _ this
        · exact this
theorem stI_ok {x : Ir} (k : Ok x) (set : Nat) : Ok (stI x set) := by
  have hl : (stI x set).st.length ≤ 6 := Nat.le_trans (stL_len x set x.st.length) k.nS
  have hm : ∀ i, i < (stI x set).st.length → ∃ q, q < x.st.length ∧ (stI x set).st.getD i [] = x.st.getD q [] := fun i hi => by
    obtain ⟨q, h1, _, h3⟩ := stL_mem.1 (mem_getD (stI x set).st i [] hi)
    exact ⟨q, h1, h3⟩
  refine ⟨k.F, k.nO, k.nM, hl, by show 0 ≤ 8; omega, k.ow, k.mo, k.ov, fun i hi => ?_, fun i hi => ?_, fun i hi => ?_, fun i hi => absurd hi (Nat.not_lt_zero i), fun i hi => absurd hi (Nat.not_lt_zero i)⟩
  · obtain ⟨q, h1, h2⟩ := hm i hi
    rw [h2]; exact k.st q h1
  · obtain ⟨q, h1, h2⟩ := hm i hi
    rw [h2]; exact k.sf q h1
  · obtain ⟨q, h1, h2⟩ := hm i hi
    rw [h2]; exact k.sl q h1
/-- The strakes of a set cannot all have been marked. -/
def shC (x : Ir) (set : Nat) : Bool := decide (countE (stI x set) = 0) && decide (countV (stI x set) = 0)
theorem shortc_tri (x : Ir) (set : Nat) (H : Hp) (k : Ok x) (hs : set < 2 ^ 60) : PTri Try.prog (.func (.func 39) [] [.rptr 1 5 (fun _ => x.cs) 0 0]) [i64 set] H (boo (shC x set)) := by
  have nS := k.nS
  refine Tri.drop ?_
  refine tri_v (mset [29]) Try.func39 (by kernel_rfl) rfl (by simp only [List.length_append, List.length_cons, List.length_nil, Try.ntmps39]; decide) ?_
  simp only [vsAll, loadA, loadRow, partA, partOk, fieldAddrA, lenA, cellA, cellsA, opA, allocA, newCells, okCells, storeObj, dstOk, nilSliceOp, argFr, Nat.reduceAdd, Nat.reduceLT, Nat.reduceLeDiff, Nat.reduceEqDiff, Nat.reduceBEq, ↓reduceIte, eq_self, wtAll, Try.ntmps39]
  intro i4 hh_i4; (try simp only [Hp.set_none, ite_none] at hh_i4)
  rw [Hp.set_set, Hp.set_set, Hp.set_set]
  refine vs_entL (Ent.nilBox 1 (fun _ => []) (fun id _ => [i64 x.F, llAV x.ow, intsAV x.mo, .sl id 1 0, .lit (.slice none 0 0)]) (j := i4) (st' := 5) (n' := 1) (g := fun _ => [i64 x.F, llAV x.ow, intsAV x.mo, .lit (.slice none 0 0), .lit (.slice none 0 0)]) (by simp only [vsAll, ↓reduceIte, eq_self]) (fun _ _ _ => rfl) (fun id q d hq hd => ?_) fun ic hic => ?_)
  · match d, hd with
    | 0, _ => exact Nld.rfl
    | 1, _ => exact Nld.rfl
    | 2, _ => exact Nld.rfl
    | 3, _ => exact Nld.hit
    | 4, _ => exact Nld.rfl
  simp only [Hp.set_none] at hic
  have d1 := hic.1.1
  have d2 := hic.1.2
  skip
  refine vs_loop (σ := Nat) (fun i => i ≤ x.st.length) (fun i => [(0, i64 set), (4, .ref i4 0 5 0 0), (13, stAV x.st), (14, i64 x.st.length), (15, i64 i)])
    (fun i => ((H.set ic (.row 1 (stL x set i).length (stF (stL x set i)))).set i4 (.box 5 1 fun _ => [i64 x.F, llAV x.ow, intsAV x.mo, .sl ic 1 (stL x set i).length, clAV []]))) (fun i => x.st.length - i) 0 (by ((try clear hh_i4); (try clear d1); (try clear d2); (try clear hic); omega)) ?_ ?_ fun i hi => ?_
  · simp only [vsAll, argFr, Nat.reduceEqDiff, ↓reduceIte, reduceCtorEq, eq_self, Int.natCast_zero]
  · refine HSub.set (HSub.set (HSub_drop2 (by simp only [eq_self, hh_i4]) HSub_rfl) (row_ext fun q hq => absurd hq (Nat.not_lt_zero q))) (box_leA (fun _ _ => rfl) fun q hq c hc => ?_)
    match c, hc with
    | 0, _ => exact AV.Le.refl _
    | 1, _ => exact AV.Le.refl _
    | 2, _ => exact AV.Le.refl _
    | 3, _ => exact AV.Le.refl _
    | 4, _ => exact AV.Le.nil _ _
  · have hpl := stL_len x set i
    have hd0 : 0 ≤ (set : Int) / 2 ^ i ∧ (set : Int) / 2 ^ i ≤ set := ⟨Int.ediv_nonneg (by ((try clear hh_i4); (try clear d1); (try clear d2); (try clear hic); omega)) (Int.le_of_lt (Int.pow_pos (by decide))), Int.ediv_le_self _ (by ((try clear hh_i4); (try clear d1); (try clear d2); (try clear hic); omega))⟩
    have ep : stL x set (i + 1) = if set.testBit i = true then stL x set i ++ [x.st.getD i []] else stL x set i := rfl
    generalize hLL : stL x set i = L at hpl ep ⊢
    simp only [vsAll, binA, binLitA, intA, opA, dstOk, Nat.reduceLT, Nat.reduceEqDiff, ↓reduceIte, reduceCtorEq, eq_self]
    refine condD (fun hd => ?_) (fun hd => ?_)
    · simp only [vsAll, binA, binLitA, intA, loadA, loadRow, partA, partOk, indexAddrA, opA, dstOk, nilSliceOp, Nat.reduceLT, Nat.reduceEqDiff, Nat.reduceBEq, Int.reduceLE, Int.reduceToNat, ↓reduceIte, reduceCtorEq, eq_self, wtAll, stF_at]
      refine ⟨by ((try clear hh_i4); (try clear d1); (try clear d2); (try clear hic); omega), by ((try clear hh_i4); (try clear d1); (try clear d2); (try clear hic); omega), ?_⟩
      refine ⟨⟨by ((try clear hh_i4); (try clear d1); (try clear d2); (try clear hic); omega), by ((try clear hh_i4); (try clear d1); (try clear d2); (try clear hic); omega), rfl⟩, ⟨hd0.1, by simp only [InR_i64]; ((try clear hh_i4); (try clear d1); (try clear d2); (try clear hic); omega), by simp only [InR_i64]; ((try clear hh_i4); (try clear d1); (try clear d2); (try clear hic); omega)⟩, ?_⟩
      rw [bit_eq]
      refine condV (fun hb => ?_) (fun hb => ?_)
      · rw [if_pos hb] at ep
        simp only [vsAll, binA, binLitA, intA, loadA, loadRow, partA, partOk, fieldAddrA, cellA, cellsA, okParts, buildSliceA, partIdx, elemsA, lensA, partsA, partsOk, opA, newCells, okCells, storeObj, appendA, dstOk, Nat.reduceAdd, Nat.reduceMul, Nat.reduceLT, Nat.reduceLeDiff, Nat.reduceEqDiff, Nat.reduceBEq, ↓reduceIte, reduceCtorEq, eq_self, wtAll, d1, d2]
        rw [app_st L (x.st.getD i []) _ rfl]
        refine ⟨fun q hq => by simp [okCells, cellA, show q = 0 by ((try clear hh_i4); (try clear d1); (try clear d2); (try clear hic); omega)], by ((try clear hh_i4); (try clear d1); (try clear d2); (try clear hic); omega), by ((try clear hh_i4); (try clear d1); (try clear d2); (try clear hic); omega), by simp only [InR_i64]; ((try clear hh_i4); (try clear d1); (try clear d2); (try clear hic); omega), loop_next (i + 1) (by ((try clear hh_i4); (try clear d1); (try clear d2); (try clear hic); omega)) (by ((try clear hh_i4); (try clear d1); (try clear d2); (try clear hic); omega)) ?_ ?_⟩
        · simp only [vsAll, Nat.reduceEqDiff, ↓reduceIte, reduceCtorEq, eq_self, Int.natCast_add, Int.natCast_one]
        · rw [ep]
          simp only [List.length_append, List.length_cons, List.length_nil, Nat.zero_add]
          exact HSub.set (HSub.set (HSub_drop2 (by simp only [eq_self, hh_i4]) (HSub_drop2 (by simp only [eq_self, hic]) HSub_rfl)) (.refl _)) (.refl _)
      · rw [if_neg (by rw [hb]; decide)] at ep
        simp only [vsAll, binA, binLitA, intA, opA, dstOk, Nat.reduceLT, Nat.reduceEqDiff, ↓reduceIte, reduceCtorEq, eq_self]
        refine ⟨by simp only [InR_i64]; ((try clear hh_i4); (try clear d1); (try clear d2); (try clear hic); omega), loop_next (i + 1) (by ((try clear hh_i4); (try clear d1); (try clear d2); (try clear hic); omega)) (by ((try clear hh_i4); (try clear d1); (try clear d2); (try clear hic); omega)) ?_ ?_⟩
        · simp only [vsAll, Nat.reduceEqDiff, ↓reduceIte, reduceCtorEq, eq_self, Int.natCast_add, Int.natCast_one]
        · rw [ep]
          exact HSub.refl _
    · have ei : i = x.st.length := by ((try clear hh_i4); (try clear d1); (try clear d2); (try clear hic); omega)
      have eL : (stI x set).st = L := by rw [← hLL, ei]; rfl
      have ecs : (stI x set).cs = [i64 x.F, llAV x.ow, intsAV x.mo, stAV L, clAV []] := by rw [← eL]; rfl
      have kn := (stI_ok k set).near
      have shE : shC x set = (decide (countE (stI x set) = 0) && decide (countV (stI x set) = 0)) := rfl
      generalize stI x set = y at ecs kn shE
      simp only [vsAll, loadA, loadRow, partA, partOk, okAll, stAll, opsA, opA, dstOk, Nat.reduceLT, Nat.reduceEqDiff, ↓reduceIte, reduceCtorEq, eq_self, wtAll]
      refine callK (tri_freezeD (args' := [y.av]) (id := ic) (st := 1) (n := L.length) (f := stF L) (by simp only [vsAll, ↓reduceIte, eq_self, d1]) rfl (fun k hk => ?_) (wcount_tri y _ kn)) ?_
      · match k, hk with
        | 0, _ =>
          show FrzD _ _ _ _ _ (.agg y.cs)
          rw [ecs]
          exact .agg rfl fun k hk => match k, hk with
          | 0, _ => .same _
          | 1, _ => .same _
          | 2, _ => .same _
          | 3, _ => .hit fun i hi => rfl
          | 4, _ => .same _
      rintro r2 H' ⟨rfl, rfl⟩
      simp only [vsAll, binA, binLitA, intA, extractA, pickA, opA, guardV, dstOk, nilSliceOp, Nat.reduceAdd, Nat.reduceLT, Nat.reduceEqDiff, Nat.reduceBEq, ↓reduceIte, implies_true, eq_self]
      refine ret0 ?_
      simp only [vsAll, resA, retA.eq_1, ↓reduceIte, eq_self, Try.results39]
      refine dropR_pure ?_ (HSub_del hic.2 (HSub_drop2 hh_i4 (HSub_drop2 hic.2 HSub_rfl)))
      rw [shE, dec_zero]
end Go.Proofs.Ytkonoggmdcdeeaa
end
section
set_option linter.unusedVariables false
set_option linter.unusedSimpArgs false
namespace Go.Proofs.Ytkonoggmdcdeeaa
open Go.V
theorem stL_pre (x : Ir) (set i : Nat) : ∀ d, ∃ r, stL x set (i + d) = stL x set i ++ r
  | 0 => ⟨[], by simp⟩
  | d + 1 => by
    obtain ⟨r, h⟩ := stL_pre x set i d
    show ∃ r, stL x set ((i + d) + 1) = _
    simp only [stL, h]
    split
    · exact ⟨r ++ [x.st.getD (i + d) []], by rw [List.append_assoc]⟩
    · exact ⟨r, rfl⟩
theorem stL_at {x : Ir} {set i N : Nat} (hi : i < N) (hb : set.testBit i = true) : (stL x set N).getD (stL x set i).length [] = x.st.getD i [] ∧ (stL x set i).length < (stL x set N).length := by
  obtain ⟨r, h⟩ := stL_pre x set (i + 1) (N - (i + 1))
  rw [show i + 1 + (N - (i + 1)) = N by omega] at h
  have e : stL x set (i + 1) = stL x set i ++ [x.st.getD i []] := by simp only [stL, hb, if_true]
  rw [e] at h
  rw [h]
  refine ⟨?_, by simp only [List.length_append, List.length_cons, List.length_nil]; omega⟩
  simp only [List.getD_eq_getElem?_getD, List.append_assoc]
  rw [List.getElem?_append_right (Nat.le_refl _), Nat.sub_self]
  rfl
theorem tru_stI (x : Ir) (set : Nat) : ∀ n b b', b.length + n = x.st.length → b'.length = (stL x set b.length).length → (∀ o : Nat, cntB b' (o : Int) = cntB b (o : Int)) →
    ((∃ t, t ∈ tru x set n b) ↔ ∃ t, t ∈ tru (stI x set) (2 ^ (stI x set).st.length - 1) ((stI x set).st.length - b'.length) b') := by
  intro n
  induction n with
  | zero =>
    intro b b' h1 h2 h3
    have e : (stI x set).st.length - b'.length = 0 := by
      rw [h2, show b.length = x.st.length by omega]
      exact Nat.sub_self _
    rw [e]
    simp only [tru]
    exact ⟨fun _ => ⟨b', by simp⟩, fun _ => ⟨b, by simp⟩⟩
  | succ n ih =>
    intro b b' h1 h2 h3
    cases hb : set.testBit b.length with
    | true =>
      obtain ⟨g1, g2⟩ := stL_at (x := x) (N := x.st.length) (by omega) hb
      have hlt : b'.length < (stI x set).st.length := by rw [h2]; exact g2
      have hbit : (2 ^ (stI x set).st.length - 1).testBit b'.length = true := full_bit _ _ hlt
      have e1 : (stL x set (b.length + 1)).length = b'.length + 1 := by
        simp only [stL, hb, if_true, List.length_append, List.length_cons, List.length_nil, h2]
      rw [show (stI x set).st.length - b'.length = ((stI x set).st.length - (b'.length + 1)) + 1 by omega, tru_yes hb, tru_yes hbit]
      have hcan : ∀ o, canO (stI x set) b' o = canO x b o := fun o => by
        have ef : fitB (stI x set) o b'.length = fitB x o b.length := by
          have : (stI x set).st.getD b'.length [] = x.st.getD b.length [] := by rw [h2]; exact g1
          unfold fitB
          rw [this]; rfl
        unfold canO
        rw [ef, h3 o]; rfl
      have hih : ∀ o : Nat, ((∃ t, t ∈ tru x set n (b ++ [(o : Int)])) ↔ ∃ t, t ∈ tru (stI x set) (2 ^ (stI x set).st.length - 1) ((stI x set).st.length - (b'.length + 1)) (b' ++ [(o : Int)])) := fun o => by
        have := ih (b ++ [(o : Int)]) (b' ++ [(o : Int)]) (by simp; omega) (by simp [e1]) (fun q => by rw [cntB_snoc, cntB_snoc, h3 q])
        rw [show (b' ++ [(o : Int)]).length = b'.length + 1 by simp] at this
        exact this
      simp only [truP_mem]
      constructor
      · rintro ⟨t, o, ho, hc, ht⟩
        obtain ⟨t', h'⟩ := (hih o).1 ⟨t, ht⟩
        exact ⟨t', o, ho, by rw [hcan]; exact hc, h'⟩
      · rintro ⟨t, o, ho, hc, ht⟩
        obtain ⟨t', h'⟩ := (hih o).2 ⟨t, ht⟩
        exact ⟨t', o, ho, by rw [← hcan]; exact hc, h'⟩
    | false =>
      rw [tru_no hb]
      have e1 : stL x set (b.length + 1) = stL x set b.length := by simp only [stL, hb, Bool.false_eq_true, if_false]
      exact ih (b ++ [-1]) b' (by simp; omega) (by rw [h2, show (b ++ [(-1 : Int)]).length = b.length + 1 by simp, e1]) (fun o => by rw [cntB_snoc, if_neg (by omega)]; exact h3 o)
theorem shC_eq {x : Ir} (k : Ok x) (set : Nat) : shC x set = shD x set := by
  have e : countE (stI x set) = 0 := errE_ok (stI_ok k set)
  have ev : countV (stI x set) = (truA (stI x set)).length := by rw [countV, if_pos e]
  have h := tru_stI x set x.st.length [] [] (by simp) rfl (fun _ => rfl)
  rw [shC, e, ev, shD, Bool.eq_iff_iff]
  simp only [decide_true, Bool.true_and, decide_eq_true_eq, List.length_eq_zero_iff]
  rw [List.eq_nil_iff_forall_not_mem, List.eq_nil_iff_forall_not_mem]
  unfold truA truS
  constructor
  · intro q t ht
    obtain ⟨t', h'⟩ := h.1 ⟨t, ht⟩
    exact q t' h'
  · intro q t ht
    obtain ⟨t', h'⟩ := h.2 ⟨t, ht⟩
    exact q t' h'
theorem pop_less6 : ∀ i, i < 6 → ∀ r, r < 64 → r.testBit i = true → pop (r ^^^ (r &&& 2 ^ i)) < pop r := by decide +kernel
theorem shD_iff (x : Ir) (set : Nat) : shD x set = true ↔ truS x set = [] := by rw [shD, decide_eq_true_eq, List.length_eq_zero_iff]
/-- To all owners whose iron fits one of them so many were given. -/
theorem short_cases {x : Ir} (k : Ok x) : (shortR x = none ∧ (truA x).length ≠ 0) ∨ ∃ r, shortR x = some r ∧ (truA x).length = 0 ∧ 1 ≤ r ∧ r < 2 ^ x.st.length ∧ shC x r = true ∧ (∀ i, i < x.st.length → r.testBit i = true → shC x (r ^^^ (r &&& 2 ^ i)) = false) ∧
    (∀ o, o < 2 ^ x.st.length → shC x o = true → pop r < pop o ∨ pop r = pop o ∧ r ≤ o) ∧ cpN (fitB x) x.ow.length x.st.length (capI x) (fun s => r.testBit s) < pop r := by
  have nS := k.nS
  have hp : 2 ^ x.st.length ≤ 2 ^ 6 := Nat.pow_le_pow_right (by decide) nS
  have he : shP x = shD x := by
    funext set
    rw [shP, shD, tlN_len k.gd]
  have hr := short_eq k
  have hA : shD x (2 ^ x.st.length - 1) = decide ((truA x).length = 0) := rfl
  cases hc : shortR x with
  | none =>
    left
    rw [hc] at hr
    refine ⟨rfl, ?_⟩
    unfold rset at hr
    split at hr
    · cases hr
    · rename_i q
      rw [hA] at q
      simpa using q
  | some r =>
    right
    have hs := hc
    rw [shortR, he] at hs
    have L := fewV_some hs
    have hlt := L.lt
    rw [hc] at hr
    have hz : (truA x).length = 0 := by
      unfold rset at hr
      split at hr
      · rename_i q
        rw [hA] at q
        exact of_decide_eq_true q
      · cases hr
    have hmin : ∀ i, i < x.st.length → r.testBit i = true → shD x (r ^^^ (r &&& 2 ^ i)) = false := fun i hi hb => by
      have hl : r ^^^ (r &&& 2 ^ i) < 2 ^ x.st.length := Nat.xor_lt_two_pow hlt (Nat.lt_of_le_of_lt Nat.and_le_left hlt)
      have h2 := pop_less6 i (by omega) r (by omega) hb
      rw [← Bool.not_eq_true]
      intro hh
      have := L.le _ hl hh
      omega
    refine ⟨r, rfl, hz, ?_, hlt, by rw [shC_eq k]; exact L.is, fun i hi hb => by rw [shC_eq k]; exact hmin i hi hb, fun o ho hco => L.le o ho (by rw [← shC_eq k]; exact hco), ?_⟩
    · apply Nat.pos_of_ne_zero
      rintro rfl
      have h0 := (shD_iff x 0).1 L.is
      have : AsgI x 0 (fun _ => 0) := ⟨fun s hs hb => (by rw [Nat.zero_testBit] at hb; cases hb), fun o _ => by
        rw [cn_zero.2 fun s hs => by rw [Nat.zero_testBit]; rfl]; exact Nat.zero_le _⟩
      exact asg_tru k this h0
    · rw [pop_cn x.st.length (by omega) r (by omega) hlt]
      exact short_room k ((shD_iff x r).1 L.is) fun i hi hb h => by
        have := hmin i hi hb
        rw [(shD_iff x _).2 h] at this
        cases this
end Go.Proofs.Ytkonoggmdcdeeaa
end
section
set_option linter.unusedVariables false
set_option linter.unusedSimpArgs false
set_option maxHeartbeats 4000000
set_option maxRecDepth 100000
namespace Go.Proofs.Ytkonoggmdcdeeaa
open Go.V
/-- All owners whose iron fits one of the first strakes of a set. -/
def orN (x : Ir) (r : Nat) : Nat → Nat
  | 0 => 0
  | i + 1 => if r.testBit i = true then orN x r i ||| fitsN x i x.ow.length else orN x r i
theorem orN_lt (x : Ir) (r i : Nat) : orN x r i < 2 ^ x.ow.length := by
  induction i with
  | zero => exact Nat.pow_pos (by decide)
  | succ i ih =>
    simp only [orN]
    split
    · exact Nat.or_lt_two_pow ih (fitsN_lt x i _)
    · exact ih
theorem orN_bit {x : Ir} {r o : Nat} (ho : o < x.ow.length) : ∀ i, (orN x r i).testBit o = anyN (fun s => r.testBit s && fitB x o s) i := by
  intro i
  induction i with
  | zero => simp [orN, anyN]
  | succ i ih =>
    simp only [orN, anyN]
    cases hb : r.testBit i with
    | true =>
      rw [if_pos rfl, Nat.testBit_or, ih, fitsN_bit, decide_eq_true ho]
    | false =>
      rw [if_neg (by decide), ih]
      simp
/-- How many strakes were given to the first owners of a set. -/
def gvN (x : Ir) (w : Nat) : Nat → Int
  | 0 => 0
  | o + 1 => if w.testBit o = true then gvN x w o + x.mo.getD o 0 else gvN x w o
theorem gvN_bd {x : Ir} (k : Ok x) (w : Nat) : ∀ i, i ≤ x.ow.length → 0 ≤ gvN x w i ∧ gvN x w i ≤ 6 * i := by
  intro i
  induction i with
  | zero => intro _; exact ⟨Int.le_refl _, Int.le_refl _⟩
  | succ i ih =>
    intro hi
    have h1 := ih (by omega)
    have h2 := k.mo i (by omega)
    simp only [gvN]
    split <;> omega
theorem gvN_cp {x : Ir} (k : Ok x) (r : Nat) : gvN x (orN x r x.st.length) x.ow.length = (cpN (fitB x) x.ow.length x.st.length (capI x) (fun s => r.testBit s) : Nat) := by
  have key : ∀ i, i ≤ x.ow.length → gvN x (orN x r x.st.length) i = (sm (fun o => if nb (fitB x) x.st.length (fun s => r.testBit s) o = true then capI x o else 0) i : Nat) := by
    intro i
    induction i with
    | zero => intro _; rfl
    | succ i ih =>
      intro hi
      have h2 := k.mo i (by omega)
      have hb : (orN x r x.st.length).testBit i = nb (fitB x) x.st.length (fun s => r.testBit s) i := orN_bit (by omega) _
      have hc : ((capI x i : Nat) : Int) = x.mo.getD i 0 := by show (((x.mo.getD i 0).toNat : Nat) : Int) = _; omega
      simp only [gvN, sm, ih (by omega), hb]
      split
      · rw [← hc]; omega
      · omega
  exact key _ (Nat.le_refl _)
theorem short_law (x : Ir) (w : Int) (H : Hp) (hw : 0 ≤ w ∧ w ≤ 255) (hO : x.ow.length < 2 ^ 63) (hS : x.st.length < 2 ^ 63) :
    PTri Try.prog (fnA 10) [x.av, .lit (.int .u8 w)] H (boo true) := by
  refine Tri.drop ?_
  refine tri_v0 (fun _ => false) Try.func10 (by kernel_rfl) rfl (by simp only [List.length_append, List.length_cons, List.length_nil, Try.ntmps10]; decide) ?_
  simp only [vsAll, loadA, loadRow, partA, partOk, boxA, okAll, stAll, opsA, opA, dstOk, nilSliceOp, argFr, Nat.reduceAdd, Nat.reduceLT, Nat.reduceEqDiff, ↓reduceIte, eq_self, wtAll, Try.ntmps10]
  refine callK_pure (fine_tri x _ hO hS) ?_
  simp only [vsAll, unA, opA, dstOk, Nat.reduceLT, ↓reduceIte, eq_self]
  refine condV (fun hf1 => ?_) (fun hf1 => ?_)
  · simp only [vsAll, okAll, stAll, opsA, opA, dstOk, Nat.reduceLT]
    refine callK_pure (awake_tri _) ?_
    simp only [vsAll, opA, dstOk, nilSliceOp, resA, retA.eq_1, Nat.reduceLT, ↓reduceIte, eq_self, Try.results10]
    exact dropR_pure rfl (HSub.refl _)
  · have hk : Ok x := by
      simp only [Bool.not_eq_false', Bool.and_eq_true, decide_eq_true_eq] at hf1
      exact hf1.2
    have nS := hk.nS
    have nO := hk.nO
    have kn := hk.near
    have hE : errE x true false = 0 := errE_ok hk
    have cE : countE x = 0 := errE_ok hk
    have cV : countV x = (truA x).length := by rw [countV, if_pos cE]
    have hl : (truA x).length ≤ 15625 := truS_len hk (2 ^ x.st.length - 1)
    simp only [vsAll, loadA, loadRow, partA, partOk, okAll, stAll, opsA, opA, dstOk, Nat.reduceLT, Nat.reduceEqDiff, ↓reduceIte, eq_self, wtAll]
    refine callK_pure (wshort_tri x _ kn) ?_
    rw [hE]
    simp only [vsAll, loadA, loadRow, partA, partOk, extractA, okAll, stAll, opsA, opA, dstOk, nilSliceOp, Nat.reduceAdd, Nat.reduceLT, Nat.reduceEqDiff, ↓reduceIte, eq_self, wtAll]
    refine callK_pure (wcount_tri x _ kn) ?_
    rw [cV, cE]
    rcases short_cases hk with ⟨c1, c2⟩ | ⟨r, c1, c2, c3, c4, c5, c6, c7, c8⟩
    · obtain ⟨e1, e2⟩ := setV_none (r := shortR x) (by rw [c1]; rfl)
      have d1 : decide (((truA x).length : Int) = 0) = false := decide_eq_false (by omega)
      rw [e1, e2]
      simp only [vsAll, binA, binLitA, intA, boolA, extractA, pickA, okAll, stAll, opsA, opA, guardV, dstOk, nilSliceOp, Nat.reduceAdd, Nat.reduceLT, Nat.reduceEqDiff, Int.reduceEq, ↓reduceIte, implies_true, eq_self, wtAll, Int.natCast_zero, d1, beq_self_eq_true]
      refine callK_pure (awake_tri _) ?_
      simp only [vsAll, opA, dstOk, nilSliceOp, resA, retA.eq_1, Nat.reduceLT, ↓reduceIte, eq_self, Try.results10]
      exact dropR_pure rfl (by (repeat (first | exact HSub_rfl | refine HSub_put_eq (by simp only [vsAll, binA, binLitA, intA, aggA, boolA, nilA2, isConst, unA, loadA, loadRow, partA, partOk, fieldAddrA, indexAddrA, indexA, fieldA, extractA, lenA, nilCheckA, boxA, cellA, cellsA, fillA, okParts, buildSliceA, buildMutA, makeSliceA, partIdx, elemsA, lensA, ifaceA, convA, mmA, pickA, okAll, stAll, opsA, partsA, partsOk, opA, allocA, boxMutA, newCells, okCells, storeObj, appendA, guardV, taA, nM, mapUpA, lookA, sliceA, boundsA, opO, okO, copyA, dstOk, nilA, quietOk, nilSliceOp, panA, resA, argFr, retA.eq_1, retA.eq_2, Nat.reduceAdd, Nat.reduceSub, Nat.reduceMul, Nat.reduceLT, Nat.reduceLeDiff, Nat.reduceEqDiff, Nat.reduceBEq, Int.reduceAdd, Int.reduceSub, Int.reduceMul, Int.reduceNeg, Int.reduceLE, Int.reduceLT, Int.reduceEq, Int.reduceNe, Int.reduceToNat, ↓reduceIte, reduceCtorEq, implies_true, forall_const, eq_self, ne_eq, wtAll, Try.ntmps10, Try.results10]) ?_ | refine HSub_drop2 (by simp only [vsAll, binA, binLitA, intA, aggA, boolA, nilA2, isConst, unA, loadA, loadRow, partA, partOk, fieldAddrA, indexAddrA, indexA, fieldA, extractA, lenA, nilCheckA, boxA, cellA, cellsA, fillA, okParts, buildSliceA, buildMutA, makeSliceA, partIdx, elemsA, lensA, ifaceA, convA, mmA, pickA, okAll, stAll, opsA, partsA, partsOk, opA, allocA, boxMutA, newCells, okCells, storeObj, appendA, guardV, taA, nM, mapUpA, lookA, sliceA, boundsA, opO, okO, copyA, dstOk, nilA, quietOk, nilSliceOp, panA, resA, argFr, retA.eq_1, retA.eq_2, Nat.reduceAdd, Nat.reduceSub, Nat.reduceMul, Nat.reduceLT, Nat.reduceLeDiff, Nat.reduceEqDiff, Nat.reduceBEq, Int.reduceAdd, Int.reduceSub, Int.reduceMul, Int.reduceNeg, Int.reduceLE, Int.reduceLT, Int.reduceEq, Int.reduceNe, Int.reduceToNat, ↓reduceIte, reduceCtorEq, implies_true, forall_const, eq_self, ne_eq, wtAll, Try.ntmps10, Try.results10]) ?_ | refine HSub_keep_eq (by simp only [vsAll, binA, binLitA, intA, aggA, boolA, nilA2, isConst, unA, loadA, loadRow, partA, partOk, fieldAddrA, indexAddrA, indexA, fieldA, extractA, lenA, nilCheckA, boxA, cellA, cellsA, fillA, okParts, buildSliceA, buildMutA, makeSliceA, partIdx, elemsA, lensA, ifaceA, convA, mmA, pickA, okAll, stAll, opsA, partsA, partsOk, opA, allocA, boxMutA, newCells, okCells, storeObj, appendA, guardV, taA, nM, mapUpA, lookA, sliceA, boundsA, opO, okO, copyA, dstOk, nilA, quietOk, nilSliceOp, panA, resA, argFr, retA.eq_1, retA.eq_2, Nat.reduceAdd, Nat.reduceSub, Nat.reduceMul, Nat.reduceLT, Nat.reduceLeDiff, Nat.reduceEqDiff, Nat.reduceBEq, Int.reduceAdd, Int.reduceSub, Int.reduceMul, Int.reduceNeg, Int.reduceLE, Int.reduceLT, Int.reduceEq, Int.reduceNe, Int.reduceToNat, ↓reduceIte, reduceCtorEq, implies_true, forall_const, eq_self, ne_eq, wtAll, Try.ntmps10, Try.results10]) ?_)))
    · obtain ⟨e1, e2⟩ := setV_some (r := shortR x) (by rw [c1]; rfl)
      rw [c1, Option.getD_some] at e2
      rw [c1] at e1
      rw [c1, e1, e2, c2]
      simp only [vsAll, binA, binLitA, intA, boolA, loadA, loadRow, partA, partOk, fieldAddrA, extractA, lenA, pickA, okAll, stAll, opsA, opA, guardV, dstOk, nilSliceOp, Nat.reduceAdd, Nat.reduceLT, Nat.reduceEqDiff, Int.reduceEq, ↓reduceIte, implies_true, eq_self, wtAll, Int.natCast_zero, beq_self_eq_true]
      have ep : ∀ k : Nat, (1 : Int) * 2 ^ k = ((2 ^ k : Nat) : Int) := fun k => by rw [Int.one_mul]; simp
      have hp0 : 0 < 2 ^ x.st.length := Nat.pow_pos (by decide)
      have hp8 : 2 ^ x.st.length ≤ 2 ^ 6 := Nat.pow_le_pow_right (by decide) nS
      have ev : ((2 ^ x.st.length : Nat) : Int) - 1 = ((2 ^ x.st.length - 1 : Nat) : Int) := by omega
      have d3 : decide ((r : Int) < 1) = false := decide_eq_false (by omega)
      have d4 : decide (((2 ^ x.st.length - 1 : Nat) : Int) < (r : Int)) = false := decide_eq_false (by omega)
      rw [ep, ev, d3, d4]
      refine ⟨⟨by omega, by omega, by simp only [InR_i64]; omega⟩, by simp only [InR_i64]; omega, ?_⟩
      refine gcall (boo (shC x r)) (fun g => ⟨by simp only [vsAll, opA, Nat.reduceEqDiff, ↓reduceIte, eq_self], by simp only [vsAll, okAll, opsA, opA, ↓reduceIte, eq_self], shortc_tri x r _ hk (by omega)⟩) ?_
      simp only [vsAll, unA, loadA, loadRow, partA, partOk, fieldAddrA, lenA, pickA, opA, guardV, dstOk, nilSliceOp, Nat.reduceLT, Nat.reduceEqDiff, ↓reduceIte, implies_true, eq_self, wtAll, c5]
      refine vs_loop (σ := Nat) (fun i => i ≤ x.st.length) (fun i => [(1, .lit (.int .u8 w)), (2, .rptr 1 5 (fun _ => x.cs) 0 0), (5, i64 r), (9, .func (.func 39) [] [.rptr 1 5 (fun _ => x.cs) 0 0]), (10, i64 ((2 ^ x.st.length - 1 : Nat) : Int)), (11, i64 0), (12, i64 (orN x r i : Nat)), (79, i64 x.st.length), (80, i64 i)]) (fun _ => H) (fun i => x.st.length - i) 0 (by omega) ?_ (HSub.refl _) fun i hi => ?_
      · simp only [vsAll, argFr, Nat.reduceEqDiff, ↓reduceIte, eq_self, Int.natCast_zero, orN]
      · simp only [vsAll, binA, binLitA, intA, opA, dstOk, Nat.reduceLT, Nat.reduceEqDiff, ↓reduceIte, eq_self]
        refine condD (fun hd => ?_) (fun hd => ?_)
        · have hi2 : i < x.st.length := by omega
          have hpi : 2 ^ i ≤ 2 ^ 6 := Nat.pow_le_pow_right (by decide) (by omega)
          have hc6 := c6 i hi2
          have hlx : r ^^^ (r &&& 2 ^ i) < 2 ^ x.st.length := Nat.xor_lt_two_pow c4 (Nat.lt_of_le_of_lt Nat.and_le_left c4)
          have hd0 : 0 ≤ (r : Int) / 2 ^ i ∧ (r : Int) / 2 ^ i ≤ r := ⟨Int.ediv_nonneg (by omega) (Int.le_of_lt (Int.pow_pos (by decide))), Int.ediv_le_self _ (by omega)⟩
          have eo : orN x r (i + 1) = if r.testBit i = true then orN x r i ||| fitsN x i x.ow.length else orN x r i := rfl
          have hol := orN_lt x r i
          have hfl := fitsN_lt x i x.ow.length
          have hp5 : 2 ^ x.ow.length ≤ 2 ^ 5 := Nat.pow_le_pow_right (by decide) nO
          have hv : strB x (i : Int) = true := (strB_iff x i).2 ⟨by omega, by omega⟩
          have fE : fitsE x i = 0 := by unfold fitsE; rw [hv]; exact errE_ok hk
          have fV : fitsV x i = fitsN x i x.ow.length := by rw [fitsV, if_pos fE, Int.toNat_natCast]
          simp only [vsAll, binA, binLitA, intA, opA, dstOk, nilSliceOp, Nat.reduceLT, Nat.reduceEqDiff, Int.reduceLE, Int.reduceToNat, ↓reduceIte, eq_self]
          rw [bit_eq0]
          refine ⟨⟨by omega, by omega, rfl⟩, ⟨hd0.1, by simp only [InR_i64]; omega, by simp only [InR_i64]; omega⟩, condV (fun hb => ?_) (fun hb => ?_)⟩
          · have hb2 : r.testBit i = false := by simpa using hb
            rw [hb2, if_neg (by decide)] at eo
            simp only [vsAll, binA, binLitA, intA, opA, dstOk, Nat.reduceLT, Nat.reduceEqDiff, ↓reduceIte, eq_self]
            refine ⟨by simp only [InR_i64]; omega, loop_next (i + 1) (by omega) (by omega) ?_ (HSub.refl _)⟩
            simp only [vsAll, Nat.reduceEqDiff, ↓reduceIte, eq_self, eo, Int.natCast_add, Int.natCast_one]
          · have hb2 : r.testBit i = true := by simpa using hb
            rw [if_pos hb2] at eo
            have hc7 := hc6 hb2
            simp only [vsAll, binA, binLitA, intA, okAll, stAll, opsA, opA, dstOk, Nat.reduceLT, Nat.reduceEqDiff, ↓reduceIte, eq_self]
            rw [ep, Int.toNat_natCast]
            generalize 2 ^ i = P at *
            refine ⟨⟨by omega, by omega, by simp only [InR_i64]; omega⟩, ⟨by omega, by omega, by simp only [InR_i64]; omega, by simp only [InR_i64]; omega⟩, ?_⟩
            refine callK_pure (shortc_tri x (r ^^^ (r &&& P)) _ hk (by omega)) ?_
            rw [hc7]
            simp only [vsAll, loadA, loadRow, partA, partOk, okAll, stAll, opsA, opA, dstOk, Nat.reduceLT, Nat.reduceEqDiff, ↓reduceIte, eq_self, wtAll]
            refine callK_pure (wfits_tri x i _ kn) ?_
            rw [fV, fE]
            have hor : orN x r i ||| fitsN x i x.ow.length < 2 ^ x.ow.length := Nat.or_lt_two_pow hol hfl
            generalize fitsN x i x.ow.length = fi at *
            simp only [vsAll, binA, binLitA, intA, extractA, opA, dstOk, nilSliceOp, Nat.reduceAdd, Nat.reduceLT, Nat.reduceEqDiff, ↓reduceIte, eq_self]
            refine ⟨⟨by omega, by omega, by simp only [InR_i64]; omega, by simp only [InR_i64]; omega⟩, by simp only [InR_i64]; omega, loop_next (i + 1) (by omega) (by omega) ?_ (HSub.refl _)⟩
            simp only [vsAll, Nat.reduceEqDiff, ↓reduceIte, eq_self, eo, Int.natCast_add, Int.natCast_one]
        · have ei : i = x.st.length := by omega
          subst ei
          have hol := orN_lt x r x.st.length
          have hp5 : 2 ^ x.ow.length ≤ 2 ^ 5 := Nat.pow_le_pow_right (by decide) nO
          have hcp := gvN_cp hk r
          have hbd := gvN_bd hk (orN x r x.st.length)
          have nM := hk.nM
          generalize hW : orN x r x.st.length = W at *
          have hgs : ∀ i, gvN x W (i + 1) = if W.testBit i = true then gvN x W i + x.mo.getD i 0 else gvN x W i := fun _ => rfl
          simp only [vsAll, loadA, loadRow, partA, partOk, fieldAddrA, lenA, opA, nM, dstOk, Nat.reduceLT, Nat.reduceEqDiff, ↓reduceIte, eq_self, wtAll]
          refine vs_loop (σ := Nat) (fun i => i ≤ x.mo.length) (fun i => [(1, .lit (.int .u8 w)), (5, i64 r), (9, .func (.func 39) [] [.rptr 1 5 (fun _ => x.cs) 0 0]), (10, i64 ((2 ^ x.st.length - 1 : Nat) : Int)), (11, i64 (gvN x W i)), (12, i64 W), (107, intsAV x.mo), (108, i64 x.mo.length), (109, i64 i)]) (fun _ => H) (fun i => x.mo.length - i) 0 (by omega) ?_ (HSub.refl _) fun i hi => ?_
          · simp only [vsAll, nM, Nat.reduceEqDiff, ↓reduceIte, eq_self, Int.natCast_zero, gvN]
          · simp only [vsAll, binA, binLitA, intA, opA, nM, dstOk, Nat.reduceLT, Nat.reduceEqDiff, ↓reduceIte, eq_self]
            refine condD (fun hd => ?_) (fun hd => ?_)
            · have hg := hgs i
              have hb1 := hbd i (by omega)
              have hm := hk.mo i (by omega)
              have hd0 : 0 ≤ (W : Int) / 2 ^ i ∧ (W : Int) / 2 ^ i ≤ W := ⟨Int.ediv_nonneg (by omega) (Int.le_of_lt (Int.pow_pos (by decide))), Int.ediv_le_self _ (by omega)⟩
              simp only [vsAll, binA, binLitA, intA, loadA, loadRow, partA, partOk, indexAddrA, opA, nM, dstOk, nilSliceOp, Nat.reduceLT, Nat.reduceEqDiff, Int.reduceLE, Int.reduceToNat, ↓reduceIte, eq_self, wtAll, intF_at]
              rw [bit_eq]
              refine ⟨by omega, by omega, ⟨by omega, by omega, rfl⟩, ⟨hd0.1, by simp only [InR_i64]; omega, by simp only [InR_i64]; omega⟩, condV (fun hb => ?_) (fun hb => ?_)⟩
              · rw [if_pos hb] at hg
                simp only [vsAll, binA, binLitA, intA, opA, dstOk, nilSliceOp, Nat.reduceLT, Nat.reduceEqDiff, ↓reduceIte, eq_self]
                refine ⟨by simp only [InR_i64]; omega, by simp only [InR_i64]; omega, loop_next (i + 1) (by omega) (by omega) ?_ (HSub.refl _)⟩
                simp only [vsAll, Nat.reduceEqDiff, ↓reduceIte, eq_self, hg, Int.natCast_add, Int.natCast_one]
              · rw [if_neg (by rw [hb]; decide)] at hg
                simp only [vsAll, binA, binLitA, intA, opA, dstOk, Nat.reduceLT, Nat.reduceEqDiff, ↓reduceIte, eq_self]
                refine ⟨by simp only [InR_i64]; omega, loop_next (i + 1) (by omega) (by omega) ?_ (HSub.refl _)⟩
                simp only [vsAll, Nat.reduceEqDiff, ↓reduceIte, eq_self, hg, Int.natCast_add, Int.natCast_one]
            · have ei : i = x.ow.length := by omega
              subst ei
              obtain ⟨q, rfl⟩ : ∃ q : Nat, w = (q : Int) := ⟨w.toNat, by omega⟩
              rw [hcp]
              generalize cpN (fitB x) x.ow.length x.st.length (capI x) (fun s => r.testBit s) = cp at c8
              have d5 : decide (((cp : Nat) : Int) < ((pop r : Nat) : Int)) = true := decide_eq_true (by omega)
              simp only [vsAll, binA, binLitA, intA, convA, okAll, stAll, opsA, opA, dstOk, nilSliceOp, Nat.reduceLT, Nat.reduceEqDiff, ↓reduceIte, eq_self, wtAll]
              have hq : q &&& 2 ^ x.st.length - 1 < 2 ^ x.st.length := by
                have := @Nat.and_le_right q (2 ^ x.st.length - 1)
                omega
              generalize q &&& 2 ^ x.st.length - 1 = o at hq ⊢
              have hco := c7 o hq
              refine ⟨by simp only [InR_i64]; omega, ⟨by omega, by omega, by simp only [InR_i64]; omega, by simp only [InR_i64]; omega⟩, ?_⟩
              refine callK_pure (size_tri r _ (by omega)) ?_
              simp only [vsAll, binA, binLitA, intA, opA, guardV, dstOk, Nat.reduceLT, Nat.reduceEqDiff, ↓reduceIte, eq_self, d5]
              refine gcall (boo (shC x o)) (fun g => ⟨by simp only [vsAll, opA, Nat.reduceEqDiff, ↓reduceIte, eq_self], by simp only [vsAll, okAll, opsA, opA, ↓reduceIte, eq_self], shortc_tri x o _ hk (by omega)⟩) ?_
              generalize shC x o = co at hco ⊢
              simp only [vsAll, unA, opA, guardV, dstOk, Nat.reduceLT, Nat.reduceEqDiff, ↓reduceIte, implies_true, eq_self]
              refine gcall (i64 (pop o)) (fun g => ⟨by simp only [vsAll, opA, Nat.reduceEqDiff, ↓reduceIte, eq_self, g], by simp only [vsAll, okAll, opsA, opA, ↓reduceIte, eq_self, g], size_tri o _ (by omega)⟩) ?_
              simp only [vsAll, opA, guardV, dstOk, Nat.reduceLT, Nat.reduceEqDiff, ↓reduceIte, implies_true, eq_self]
              refine gcall (i64 (pop r)) (fun g => ⟨by simp only [vsAll, opA, Nat.reduceEqDiff, ↓reduceIte, eq_self, g], by simp only [vsAll, okAll, opsA, opA, ↓reduceIte, eq_self, g], size_tri r _ (by omega)⟩) ?_
              simp only [vsAll, binA, binLitA, intA, pickA, opA, guardV, dstOk, Nat.reduceLT, Nat.reduceEqDiff, ↓reduceIte, implies_true, eq_self]
              refine gcall (i64 (pop o)) (fun g => ⟨by simp only [vsAll, opA, Nat.reduceEqDiff, ↓reduceIte, eq_self, g], by simp only [vsAll, okAll, opsA, opA, ↓reduceIte, eq_self, g], size_tri o _ (by omega)⟩) ?_
              simp only [vsAll, opA, guardV, dstOk, Nat.reduceLT, Nat.reduceEqDiff, ↓reduceIte, implies_true, eq_self]
              refine gcall (i64 (pop r)) (fun g => ⟨by simp only [vsAll, opA, Nat.reduceEqDiff, ↓reduceIte, eq_self, g], by simp only [vsAll, okAll, opsA, opA, ↓reduceIte, eq_self, g], size_tri r _ (by omega)⟩) ?_
              simp only [vsAll, binA, binLitA, intA, pickA, opA, guardV, dstOk, Nat.reduceLT, Nat.reduceEqDiff, ↓reduceIte, implies_true, eq_self]
              have hgo : (!co || decide (((pop r : Nat) : Int) < ((pop o : Nat) : Int)) || (decide (((pop o : Nat) : Int) = ((pop r : Nat) : Int)) && decide ((r : Int) ≤ (o : Int)))) = true := by
                cases co with
                | false => rfl
                | true =>
                  rcases hco rfl with h | ⟨h1, h2⟩
                  · rw [decide_eq_true (by omega : ((pop r : Nat) : Int) < ((pop o : Nat) : Int))]; rfl
                  · rw [decide_eq_true (by omega : ((pop o : Nat) : Int) = ((pop r : Nat) : Int)), decide_eq_true (by omega : (r : Int) ≤ (o : Int))]; simp
              refine ⟨fun g => ⟨g, fun g2 => by rw [g, g2]; rfl⟩, ?_⟩
              rw [hgo]
              refine gcall (boo true) (fun g => ⟨trivial, by simp only [okAll, opsA], awake_tri _⟩) ?_
              simp only [vsAll, pickA, opA, dstOk, nilSliceOp, resA, retA.eq_1, Nat.reduceLT, Nat.reduceEqDiff, ↓reduceIte, implies_true, eq_self, Try.results10]
              exact dropR_pure rfl (HSub.refl _)
end Go.Proofs.Ytkonoggmdcdeeaa
end
section
set_option linter.unusedVariables false
set_option linter.unusedSimpArgs false
set_option maxRecDepth 100000
namespace Go.Proofs.Ytkonoggmdcdeeaa
open Go.V Go.ChangeShapes Go.WideShapes Go.ChangeAt Go.RowKit
theorem irons_cells : cellsT Try.prog 9 27 = some [.int .i64, .sl [.sl [.int .i64]], .sl [.int .i64], .sl [.sl [.int .i64, .int .i64, .int .i64]], .sl [.int .i64, .int .i64, .bool]] := by kernel_rfl
theorem ints_of {av : AV} (h : CKA (.sl [.int .i64]) av) : ∃ l : List Int, l.length ≤ maxLen ∧ AV.Le av (intsAV l) := by
  obtain ⟨l, h1, h2⟩ := told_slice (α := Int) (fun z => [i64 z]) 0 (fun cs hcs => by
    obtain ⟨z, hz, _⟩ := told_int 0 hcs rfl
    exact ⟨z, rfl, fun j hj => by
      match j, hj with
      | 0, _ => rw [hz]; exact AV.Le.refl _⟩) h
  exact ⟨l, h1, h2⟩
theorem marks_of {av : AV} (h : CKA (.sl [.int .i64, .int .i64, .int .i64]) av) : ∃ l : List Mk, l.length ≤ maxLen ∧ AV.Le av (mksAV l) := by
  obtain ⟨l, h1, h2⟩ := told_slice (α := Mk) Mk.cs mk0 (fun cs hcs => by
    obtain ⟨a, ha, _⟩ := told_int 0 hcs rfl
    obtain ⟨b, hb, _⟩ := told_int 1 hcs rfl
    obtain ⟨c, hc, _⟩ := told_int 2 hcs rfl
    exact ⟨⟨a, b, c⟩, rfl, fun j hj => by
      match j, hj with
      | 0, _ => rw [ha]; exact AV.Le.refl _
      | 1, _ => rw [hb]; exact AV.Le.refl _
      | 2, _ => rw [hc]; exact AV.Le.refl _⟩) h
  exact ⟨l, h1, h2⟩
theorem claims_of {av : AV} (h : CKA (.sl [.int .i64, .int .i64, .bool]) av) : ∃ l : List Cl, l.length ≤ maxLen ∧ AV.Le av (clAV l) := by
  obtain ⟨l, h1, h2⟩ := told_slice (α := Cl) Cl.cs cl0 (fun cs hcs => by
    obtain ⟨a, ha, _⟩ := told_int 0 hcs rfl
    obtain ⟨b, hb, _⟩ := told_int 1 hcs rfl
    obtain ⟨c, hc⟩ := told_bool 2 hcs rfl
    exact ⟨⟨a, b, c⟩, rfl, fun j hj => by
      match j, hj with
      | 0, _ => rw [ha]; exact AV.Le.refl _
      | 1, _ => rw [hb]; exact AV.Le.refl _
      | 2, _ => rw [hc]; exact AV.Le.refl _⟩) h
  exact ⟨l, h1, h2⟩
theorem lists_of {av : AV} (h : CKA (.sl [.sl [.int .i64]]) av) : ∃ l : List (List Int), l.length ≤ maxLen ∧ AV.Le av (llAV l) := by
  obtain ⟨l, h1, h2⟩ := told_slice (α := List Int) (fun l => [intsAV l]) [] (fun cs hcs => by
    obtain ⟨l, _, hl⟩ := ints_of (hcs.2 0 _ rfl)
    exact ⟨l, rfl, fun j hj => by
      match j, hj with
      | 0, _ => exact hl⟩) h
  exact ⟨l, h1, h2⟩
theorem strakes_of {av : AV} (h : CKA (.sl [.sl [.int .i64, .int .i64, .int .i64]]) av) : ∃ l : List (List Mk), l.length ≤ maxLen ∧ AV.Le av (stAV l) := by
  obtain ⟨l, h1, h2⟩ := told_slice (α := List Mk) (fun l => [mksAV l]) [] (fun cs hcs => by
    obtain ⟨l, _, hl⟩ := marks_of (hcs.2 0 _ rfl)
    exact ⟨l, rfl, fun j hj => by
      match j, hj with
      | 0, _ => exact hl⟩) h
  exact ⟨l, h1, h2⟩
theorem iron_rel {H : Type} {enc : TypeId × Value → H} {W : World} {sp : Nat → Bool} {held : Bool} {v : Value} {d : DataW H} {ps : List MemPlace}
    (h : DataW.Trod enc Try.prog W 0 sp held 27 v d ps) : ∃ x : Ir, (x.ow.length < 2 ^ 63 ∧ x.st.length < 2 ^ 63) ∧ VRel (st0 W) x.av v := by
  obtain ⟨cs, hcs, hv⟩ := trod_agg irons_cells (by decide) h
  obtain ⟨F, h0, _⟩ := told_int 0 hcs rfl
  obtain ⟨ow, l1, h1⟩ := lists_of (hcs.2 1 _ rfl)
  obtain ⟨mo, l2, h2⟩ := ints_of (hcs.2 2 _ rfl)
  obtain ⟨st, l3, h3⟩ := strakes_of (hcs.2 3 _ rfl)
  obtain ⟨cl, l4, h4⟩ := claims_of (hcs.2 4 _ rfl)
  have hm : maxLen < 2 ^ 63 := by decide
  refine ⟨⟨F, ow, mo, st, cl⟩, ⟨by show ow.length < _; omega, by show st.length < _; omega⟩, AV.Le.aggD (cs := cs) hcs.1.symm (fun j hj => ?_) _ _ hv⟩
  have hj5 : j < 5 := by have := hcs.1; simp at this; omega
  match j, hj5 with
  | 0, _ => rw [h0]; exact AV.Le.refl _
  | 1, _ => exact h1
  | 2, _ => exact h2
  | 3, _ => exact h3
  | 4, _ => exact h4

theorem Try.own : ownKnob Try.prog.godebug = none := by kernel_rfl
theorem u4 : Try.prog.underlying 4 = some .bool := by kernel_rfl
end Go.Proofs.Ytkonoggmdcdeeaa
end
section
set_option linter.unusedVariables false
set_option linter.unusedSimpArgs false
set_option maxRecDepth 100000
namespace Go.Proofs.Ytkonoggmdcdeeaa
open Go.V Go.ChangeShapes Go.WideShapes Go.ChangeAt Go.RowKit
theorem ironShort_u5 : Try.prog.underlying 5 = some (.int .u8) := by kernel_rfl
theorem ironShort_b8 {n : Int} (h : (Lit.int .u8 n).wf = true) : 0 ≤ n ∧ n ≤ 255 := by
  simp [Lit.wf, IntKind.min, IntKind.max, IntKind.signed, IntKind.bits] at h
  omega

theorem ironShort_lifted (os : Os) (started : os.Started) (H : Type) (enc : TypeId × Value → H) :
    ReturnsInHanded {} Try.checked os 10 .any (Rows.ironShortSpec.pre6 enc Try.prog Try.f10 Rows.ironShortRow.domain false) (Rows.ironShortSpec.post enc Try.prog Try.f10 false true false false) := by
  refine returnsInHanded_of_change (C := Try.checked) Try.own started (by kernel_rfl) Try.func10
    (ChangeSpec.witness6 (enc := enc) (C := Try.checked) false ⟨#[], #[.agg #[.int .i64 0, .slice none 0 0, .slice none 0 0, .slice none 0 0, .slice none 0 0], .int .u8 0], []⟩ 8 (by kernel_rfl) (by kernel_rfl) (by kernel_rfl) (by kernel_rfl)) ?_
  intro W base args ds gs before hval hW hcnd _
  have hW' := hW
  obtain ⟨p, q, hA, hV, rfl, hfz, hnd⟩ := hW
  obtain ⟨rfl, rfl⟩ := trodVars_none hV
  rw [show Try.f10.params.toList = [27, 5] from by kernel_rfl] at hA
  obtain ⟨v0, v1, d0, d1, p0, p1, rfl, rfl, rfl, h0, h1⟩ := trodAll_two hA
  have hval : ∀ (j : Nat) t v, Try.f10.params[j]? = some t → (#[v0, v1] : Array Value)[j]? = some v → Value.okWide Try.prog W .any base t v := hval
  rw [show Try.f10.params = #[27, 5] from by kernel_rfl] at hval
  obtain ⟨x1, rfl, rfl, rfl, w1⟩ := open_int ironShort_u5 (hval 1 5 v1 rfl rfl) h1
  obtain ⟨h, hbd, hr⟩ := iron_rel h0
  refine (law_calls Try.func10 (by kernel_rfl) rfl (Tri.mono (short_law h x1 H0 (ironShort_b8 w1) hbd.1 hbd.2) ?_) ⟨rfl, fun k hk => match k, hk with | 0, _ => hr | 1, _ => .lit _⟩).mono fun e W' he => ?_
  · rintro r H' ⟨rfl, _⟩; rfl
  · obtain ⟨rfl, hh, ho, hp⟩ := he
    exact ⟨_, rfl, law_post (d := 6) rfl (tb := 4) (by kernel_rfl) u4 (by decide +kernel) hW' rfl hh ho hp⟩

theorem ironShort_holds : Rows.IronShortSaid :=
  OpenClaim.holds_of_wide (p := Try.pinned) (s := Rows.ironShortSpec) (c := Rows.ironShortRow) 10 Try.f10 rfl rfl rfl rfl rfl rfl rfl ⟨rfl, rfl, rfl, rfl, rfl⟩ rfl rfl rfl rfl rfl (by kernel_rfl) Try.func10 (by kernel_rfl)
    (of_decide_eq_true (by kernel_rfl)) (by unfold Func.isWrapper; first | (rw [if_pos (by decide +kernel)]; kernel_rfl) | (rw [if_neg (by decide +kernel)]; exact ⟨rfl, rfl⟩))
    (fun os started H enc _ => ironShort_lifted os started H enc)

end Go.Proofs.Ytkonoggmdcdeeaa
end
