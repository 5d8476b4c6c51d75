/- WHAT IS PROVED: the given statement of this claim. Conditions: none beyond the given row. -/
import Derived.Test.YtkonoggmdcdeeaaRows
import Derived.Test.YtkonoggmdcdeeaaFa4
section
set_option linter.unusedVariables false
set_option linter.unusedSimpArgs false
set_option maxHeartbeats 4000000
set_option maxRecDepth 100000
namespace Go.Proofs.Ytkonoggmdcdeeaa
open Go.V
/-- The owners' values with one more: one for one owner, none for all others. -/
def owW (x : Ir) (o : Nat) (i : Nat) : List Int := x.ow.getD i [] ++ [if i = o then 1 else 0]
def stW (x : Ir) (s : Nat) (i : Nat) : List Mk := if i = s then x.st.getD i [] ++ [⟨x.F, 1, 1⟩] else x.st.getD i []
/-- Irons in which a strake has a mark that just an owner's iron has. -/
def withI (x : Ir) (s o : Nat) : Ir := ⟨x.F + 1, (List.range x.ow.length).map (owW x o), x.mo, (List.range x.st.length).map (stW x s), x.cl⟩
def rowO (x : Ir) (o : Nat) (i : Nat) : Nat → List AV := fun j => if j < i then [intsAV (owW x o j)] else llF x.ow j
theorem rowO_len (x : Ir) (o i q : Nat) : (rowO x o i q).length = 1 := by
  unfold rowO
  split <;> rfl
theorem updF_at {n i q : Nat} (hi : i < n) (hq : q < n) (f : Nat → List AV) (c : List AV) : updF n i f c q = if q = i then c else f q := by
  unfold updF
  split
  · rw [if_pos (by omega)]
  · rfl
abbrev extF (l : List Int) (z : Int) : Nat → List AV := appF l.length 1 (appF 0 l.length (fun i => []) (intF l)) (fun i => [[i64 z]].getD i [])
theorem rowO_step {x : Ir} {o i : Nat} {z : Int} (ez : owW x o i = x.ow.getD i [] ++ [z]) (n : Nat) :
    Obj.Le (.row 1 n fun j => if j = i then [.rsl ((x.ow.getD i []).length + 1) 1 (extF (x.ow.getD i []) z)] else rowO x o i j) (.row 1 n (rowO x o (i + 1))) := by
  refine row_leA (fun q hq => ?_) fun q hq c hc => ?_
  · rw [rowO_len]
    split
    · rfl
    · rw [rowO_len]
  · have hc0 : c = 0 := by omega
    subst hc0
    by_cases e : q = i
    · subst e
      rw [if_pos rfl]
      simp only [rowO, Nat.lt_succ_self, if_true, List.getD_cons_zero, ez, intsAV, List.length_append, List.length_cons, List.length_nil, Nat.zero_add]
      exact AV.Le.rsl fun j hj => cp_app _ _ j hj
    · rw [if_neg e]
      have : rowO x o (i + 1) q = rowO x o i q := by
        simp only [rowO]
        by_cases h : q < i
        · rw [if_pos h, if_pos (by omega)]
        · rw [if_neg h, if_neg (by omega)]
      rw [this]
      exact AV.Le.refl _
theorem rowO_frz {x : Ir} {o i iz n q c : Nat} {F : Nat → List AV} {w : Nat} (hi : i < n) (hq : q < n) (hc : c < 1) :
    Frz iz 1 w F ((updF n i (rowO x o i) [AV.sl iz 1 w] q).getD c .any) ((if q = i then [AV.rsl w 1 F] else rowO x o i q).getD c .any) := by
  have hc0 : c = 0 := by omega
  subst hc0
  rw [updF_at hi hq]
  split
  · exact Frz.hit
  · exact Frz.rfl
abbrev extM (l : List Mk) (F : Int) : Nat → List AV := appF l.length 1 (appF 0 l.length (fun i => []) (mkF l)) (fun i => [[i64 F, i64 1, i64 1]].getD i [])
abbrev cpS (x : Ir) : Nat → List AV := cpF 0 x.st.length (fun _ => [.lit (.slice none 0 0)]) 0 (stF x.st)
theorem cpS_at (x : Ir) {j : Nat} (hj : j < x.st.length) : cpS x j = [mksAV (x.st.getD j [])] := by
  simp only [cpF]
  rw [if_pos (by omega), Nat.zero_add, Nat.sub_zero]
  rfl
theorem extM_at (l : List Mk) (F : Int) (i : Nat) (hi : i < l.length + 1) : extM l F i = mkF (l ++ [⟨F, 1, 1⟩]) i := by
  show appF l.length 1 _ _ i = _
  rw [appF_at (by omega)]
  simp only [mkF, getD_snoc]
  by_cases e : i = l.length
  · rw [if_neg (by omega), if_pos e, e, Nat.sub_self]; rfl
  · rw [if_pos (by omega), if_neg e, appF_at (by omega), if_neg (by omega), Nat.sub_zero]; rfl
theorem getD_mapR {α : Type} (f : Nat → α) (n i : Nat) (d : α) (hi : i < n) : ((List.range n).map f).getD i d = f i := by
  rw [List.getD_eq_getElem?_getD, List.getElem?_map, List.getElem?_range hi]; rfl
theorem ow_le (x : Ir) (s o : Nat) : AV.Le (.rsl x.ow.length 1 (rowO x o x.ow.length)) (llAV (withI x s o).ow) := by
  have hl : (withI x s o).ow.length = x.ow.length := by simp [withI]
  simp only [llAV, hl]
  refine AV.Le.rsl fun i hi => ?_
  simp only [rowO, hi, if_true, llF, withI, getD_mapR _ _ _ _ hi]
theorem st_le (x : Ir) (s o : Nat) (hs : s < x.st.length) : AV.Le (.rsl x.st.length 1 fun j => if j = s then [.rsl ((x.st.getD s []).length + 1) 3 (extM (x.st.getD s []) x.F)] else cpS x j) (stAV (withI x s o).st) := by
  have hl : (withI x s o).st.length = x.st.length := by simp [withI]
  simp only [stAV, hl]
  refine AV.Le.rslA (fun i hi => ?_) fun i hi j hj => ?_
  · split
    · rfl
    · rw [cpS_at x hi]; rfl
  · have hj0 : j = 0 := by omega
    subst hj0
    have e : stF (withI x s o).st i = [mksAV (stW x s i)] := by simp only [stF, withI, getD_mapR _ _ _ _ hi]
    rw [e]
    by_cases eq : i = s
    · subst eq
      rw [if_pos rfl]
      simp only [List.getD_cons_zero, stW, if_true, mksAV, List.length_append, List.length_cons, List.length_nil, Nat.zero_add]
      exact AV.Le.rsl fun q hq => extM_at _ _ q hq
    · rw [if_neg eq, cpS_at x hi]
      simp only [stW, eq, if_false]
      exact AV.Le.refl _
theorem cpS_frz {x : Ir} {s im q c w : Nat} {F : Nat → List AV} (hs : s < x.st.length) (hq : q < x.st.length) (hc : c < 1) :
    Frz im 3 w F ((updF x.st.length s (cpS x) [AV.sl im 3 w] q).getD c .any) ((if q = s then [AV.rsl w 3 F] else cpS x q).getD c .any) := by
  have hc0 : c = 0 := by omega
  subst hc0
  rw [updF_at hs hq]
  split
  · exact Frz.hit
  · exact Frz.rfl
theorem with1_tri (x : Ir) (S C : Nat) (m : Bool) (s o : Nat) (H : Hp) (k : Ok x) (hs : s < x.st.length) (ho : o < x.ow.length) :
    PTri Try.prog (fnA 66) [irP x S C m, i64 s, i64 o] H (.tuple [irP (withI x s o) S C m, boo (fitB x o s)]) := by
  have nO := k.nO
  have nS := k.nS
  have hF := k.F
  refine tri_vs (m := mset [21, 55, 57, 60, 69, 85, 94, 102]) Try.func66 (by kernel_rfl) rfl (by simp only [List.length_append, List.length_cons, List.length_nil, Try.ntmps66]; decide) ?_
  simp only [vsAll, loadA, loadRow, partA, partOk, fieldAddrA, lenA, nilCheckA, cellA, cellsA, makeSliceA, opA, allocA, newCells, okCells, storeObj, dstOk, nilSliceOp, argFr, Nat.reduceAdd, Nat.reduceLT, Nat.reduceLeDiff, Nat.reduceEqDiff, Nat.reduceBEq, ↓reduceIte, reduceCtorEq, eq_self, wtAll, Try.ntmps66]
  intro i8 hh_i8; (try simp only [Hp.set_none, ite_none] at hh_i8)
  refine ⟨by ((try clear hh_i8); omega), by ((try clear hh_i8); omega), by ((try clear hh_i8); omega), ?_⟩
  intro iow hh_iow; (try simp only [ite_none] at hh_iow)
  simp only [vsAll, Nat.reduceLT, ↓reduceIte, eq_self, hh_iow]
  refine vs_draw2 [0, 0, 0, 0, 0, 0, 0, 0, 1] [([0, 1, 2, 3, 4, 5, 6, 7], [], 8)] [] (by decide +kernel) ?_
  simp only [vsAll, binA, binLitA, intA, loadA, loadRow, partA, partOk, fieldAddrA, lenA, nilCheckA, cellA, cellsA, opA, newCells, okCells, storeObj, copyA, dstOk, argFr, Nat.reduceLT, Nat.reduceLeDiff, Nat.reduceEqDiff, ↓reduceIte, reduceCtorEq, eq_self, wtAll, hh_iow, Nat.min_self]
  refine ⟨fun i hi => by simp [llF, okCells, cellA], by simp only [InR_i64]; ((try clear hh_i8); (try clear hh_iow); omega), ?_⟩
  rw [Hp.set_set]
  refine vs_loop (σ := Nat) (fun i => i ≤ x.ow.length) (fun i => [(0, irP x S C m), (1, i64 s), (2, i64 o), (8, .ref i8 0 8 0 0), (41, .sl iow 1 x.ow.length), (42, i64 x.ow.length), (43, i64 i)])
    (fun i => (H.set iow (.row 1 x.ow.length (rowO x o i))).set i8 (.box 8 1 fun _ => [i64 (x.F + 1), .sl iow 1 x.ow.length, intsAV x.mo, stAV x.st, clAV x.cl, u64 S, u64 C, boo m])) (fun i => x.ow.length - i) 0 (by ((try clear hh_i8); (try clear hh_iow); omega)) ?_ ?_ fun i hi => ?_
  · simp only [vsAll, argFr, Nat.reduceEqDiff, ↓reduceIte, reduceCtorEq, eq_self, Int.natCast_zero]
  · refine HSub.set (HSub.set (HSub_drop2 hh_i8 (HSub_drop2 hh_iow.2.2 (HSub_drop2 hh_i8 HSub_rfl))) (row_ext fun q hq => ?_)) (.refl _)
    simp only [cpF, rowO, Nat.not_lt_zero, if_false]
    rw [if_pos (by ((try clear hh_i8); (try clear hh_iow); omega)), Nat.zero_add, Nat.sub_zero]
  · simp only [vsAll, binA, binLitA, intA, opA, dstOk, Nat.reduceLT, Nat.reduceEqDiff, ↓reduceIte, reduceCtorEq, eq_self]
    refine condD (fun hd => ?_) (fun hd => ?_)
    · have hr : rowO x o i i = [intsAV (x.ow.getD i [])] := by simp only [rowO, Nat.lt_irrefl, if_false]; rfl
      simp only [vsAll, binA, binLitA, intA, loadA, loadRow, partA, partOk, indexAddrA, opA, dstOk, nilSliceOp, Nat.reduceLT, Nat.reduceEqDiff, Nat.reduceBEq, ↓reduceIte, reduceCtorEq, eq_self, wtAll, hh_iow, hr]
      have hfl := k.ow i (by ((try clear hh_i8); (try clear hh_iow); omega))
      refine ⟨by ((try clear hh_i8); (try clear hh_iow); omega), by ((try clear hh_i8); (try clear hh_iow); omega), condV (fun hc => ?_) (fun hc => ?_)⟩
      · have hc : i = o := by have := of_decide_eq_true hc; ((try clear hh_i8); (try clear hh_iow); omega)
        have ez : owW x o i = x.ow.getD i [] ++ [1] := by simp only [owW, hc, if_true]
        simp only [vsAll, opA, dstOk, nilSliceOp, Nat.reduceLT, Nat.reduceBEq, eq_self]
        refine vs_draw2 [0, 0, 0, 0, 1, 0, 3, 0, 0, 5, 6, 7] [([0, 1, 2, 3, 5, 7, 8], [2], 4), ([], [2], 6), ([], [2], 9), ([10], [], 11)] [] (by decide +kernel) ?_
        simp only [vsAll, binA, binLitA, intA, loadA, loadRow, partA, partOk, fieldAddrA, indexAddrA, cellA, cellsA, okParts, buildSliceA, buildMutA, partIdx, elemsA, lensA, partsA, partsOk, opA, newCells, okCells, storeObj, appendA, dstOk, Nat.reduceMul, Nat.reduceLT, Nat.reduceLeDiff, Nat.reduceEqDiff, Nat.reduceBEq, ↓reduceIte, reduceCtorEq, eq_self, wtAll, hh_iow]
        intro iz hh_iz; (try simp only [ite_none] at hh_iz)
        simp only [vsAll, Nat.reduceLT, ↓reduceIte, eq_self, hh_iz, hr]
        refine ⟨fun q hq => by simp [intF, okCells, cellA], by ((try clear hh_i8); (try clear hh_iow); (try clear hh_iz); omega), by ((try clear hh_i8); (try clear hh_iow); (try clear hh_iz); omega), fun q hq => by simp [okCells, cellA, show q = 0 by ((try clear hh_i8); (try clear hh_iow); (try clear hh_iz); omega)], by ((try clear hh_i8); (try clear hh_iow); (try clear hh_iz); omega), by ((try clear hh_i8); (try clear hh_iow); (try clear hh_iz); omega), by ((try clear hh_i8); (try clear hh_iow); (try clear hh_iz); omega), by ((try clear hh_i8); (try clear hh_iow); (try clear hh_iz); omega), by simp only [InR_i64]; ((try clear hh_i8); (try clear hh_iow); (try clear hh_iz); omega), ?_⟩
        rw [Hp.set_set, Hp.set_set]
        refine loop_ent (Ent.freezeRow (s' := _) (id := iz) (st := 1) (n := (x.ow.getD i []).length + 1) (f := appF (x.ow.getD i []).length 1 (appF 0 (x.ow.getD i []).length (fun i => []) (intF (x.ow.getD i []))) (fun i => [[i64 1]].getD i []))
          (j := iow) (st' := 1) (n' := x.ow.length) (g := updF x.ow.length i (rowO x o i) [.sl iz 1 ((x.ow.getD i []).length + 1)])
          (g' := fun j => if j = i then [.rsl ((x.ow.getD i []).length + 1) 1 (appF (x.ow.getD i []).length 1 (appF 0 (x.ow.getD i []).length (fun i => []) (intF (x.ow.getD i []))) (fun i => [[i64 1]].getD i []))] else rowO x o i j) (by simp only [vsAll, ↓reduceIte, eq_self, hh_iz]) (by simp only [vsAll, ↓reduceIte, eq_self]) hh_iz.2.1.2 (fun t => .rfl) (fun q hq => ?_) (fun q c hq hc' => ?_) ?_)
        · show (ite _ _ _ : List AV).length = 1
          split
          · rfl
          · exact rowO_len _ _ _ _
        · exact rowO_frz (by ((try clear hh_i8); (try clear hh_iow); (try clear hh_iz); omega)) hq hc'
        · refine loop_next (i + 1) (by ((try clear hh_i8); (try clear hh_iow); (try clear hh_iz); omega)) (by ((try clear hh_i8); (try clear hh_iow); (try clear hh_iz); omega)) ?_ ?_
          · simp only [vsAll, Nat.reduceEqDiff, ↓reduceIte, reduceCtorEq, eq_self, Int.natCast_add, Int.natCast_one]
          · exact HSub_put (o' := .box 8 1 fun _ => [i64 (x.F + 1), .sl iow 1 x.ow.length, intsAV x.mo, stAV x.st, clAV x.cl, u64 S, u64 C, boo m]) (by simp only [vsAll, ↓reduceIte, eq_self, hh_iow, hh_iz, Hp.del_get]) (.refl _) (HSub.set (HSub_del hh_iz.2.2 (HSub_drop2 hh_iow.2.2 (HSub_drop2 hh_iz.2.2 (HSub_drop2 hh_i8 (HSub_drop2 hh_iow.2.2 HSub_rfl))))) (rowO_step ez _))
      · have hc : ¬ i = o := by have := of_decide_eq_false hc; ((try clear hh_i8); (try clear hh_iow); omega)
        have ez : owW x o i = x.ow.getD i [] ++ [0] := by simp only [owW, hc, if_false]
        simp only [vsAll]
        refine vs_draw2 [0, 0, 0, 0, 1, 0, 3, 0, 0, 5, 6, 7] [([0, 1, 2, 3, 5, 7, 8], [2], 4), ([], [2], 6), ([], [2], 9), ([10], [], 11)] [] (by decide +kernel) ?_
        simp only [vsAll, binA, binLitA, intA, loadA, loadRow, partA, partOk, fieldAddrA, indexAddrA, cellA, cellsA, okParts, buildSliceA, buildMutA, partIdx, elemsA, lensA, partsA, partsOk, opA, newCells, okCells, storeObj, appendA, dstOk, Nat.reduceMul, Nat.reduceLT, Nat.reduceLeDiff, Nat.reduceEqDiff, Nat.reduceBEq, ↓reduceIte, reduceCtorEq, eq_self, wtAll, hh_iow]
        intro iz hh_iz; (try simp only [ite_none] at hh_iz)
        simp only [vsAll, Nat.reduceLT, ↓reduceIte, eq_self, hh_iz, hr]
        refine ⟨fun q hq => by simp [intF, okCells, cellA], by ((try clear hh_i8); (try clear hh_iow); (try clear hh_iz); omega), by ((try clear hh_i8); (try clear hh_iow); (try clear hh_iz); omega), fun q hq => by simp [okCells, cellA, show q = 0 by ((try clear hh_i8); (try clear hh_iow); (try clear hh_iz); omega)], by ((try clear hh_i8); (try clear hh_iow); (try clear hh_iz); omega), by ((try clear hh_i8); (try clear hh_iow); (try clear hh_iz); omega), by ((try clear hh_i8); (try clear hh_iow); (try clear hh_iz); omega), by ((try clear hh_i8); (try clear hh_iow); (try clear hh_iz); omega), by simp only [InR_i64]; ((try clear hh_i8); (try clear hh_iow); (try clear hh_iz); omega), ?_⟩
        rw [Hp.set_set, Hp.set_set]
        refine loop_ent (Ent.freezeRow (s' := _) (id := iz) (st := 1) (n := (x.ow.getD i []).length + 1) (f := appF (x.ow.getD i []).length 1 (appF 0 (x.ow.getD i []).length (fun i => []) (intF (x.ow.getD i []))) (fun i => [[i64 0]].getD i []))
          (j := iow) (st' := 1) (n' := x.ow.length) (g := updF x.ow.length i (rowO x o i) [.sl iz 1 ((x.ow.getD i []).length + 1)])
          (g' := fun j => if j = i then [.rsl ((x.ow.getD i []).length + 1) 1 (appF (x.ow.getD i []).length 1 (appF 0 (x.ow.getD i []).length (fun i => []) (intF (x.ow.getD i []))) (fun i => [[i64 0]].getD i []))] else rowO x o i j) (by simp only [vsAll, ↓reduceIte, eq_self, hh_iz]) (by simp only [vsAll, ↓reduceIte, eq_self]) hh_iz.2.1.2 (fun t => .rfl) (fun q hq => ?_) (fun q c hq hc' => ?_) ?_)
        · show (ite _ _ _ : List AV).length = 1
          split
          · rfl
          · exact rowO_len _ _ _ _
        · exact rowO_frz (by ((try clear hh_i8); (try clear hh_iow); (try clear hh_iz); omega)) hq hc'
        · refine loop_next (i + 1) (by ((try clear hh_i8); (try clear hh_iow); (try clear hh_iz); omega)) (by ((try clear hh_i8); (try clear hh_iow); (try clear hh_iz); omega)) ?_ ?_
          · simp only [vsAll, Nat.reduceEqDiff, ↓reduceIte, reduceCtorEq, eq_self, Int.natCast_add, Int.natCast_one]
          · exact HSub_put (o' := .box 8 1 fun _ => [i64 (x.F + 1), .sl iow 1 x.ow.length, intsAV x.mo, stAV x.st, clAV x.cl, u64 S, u64 C, boo m]) (by simp only [vsAll, ↓reduceIte, eq_self, hh_iow, hh_iz, Hp.del_get]) (.refl _) (HSub.set (HSub_del hh_iz.2.2 (HSub_drop2 hh_iow.2.2 (HSub_drop2 hh_iz.2.2 (HSub_drop2 hh_i8 (HSub_drop2 hh_iow.2.2 HSub_rfl))))) (rowO_step ez _))
    · have ei : i = x.ow.length := by ((try clear hh_i8); (try clear hh_iow); omega)
      subst ei
      simp only [vsAll, loadA, loadRow, partA, partOk, fieldAddrA, lenA, nilCheckA, cellA, cellsA, makeSliceA, opA, newCells, okCells, storeObj, dstOk, Nat.reduceAdd, Nat.reduceLT, Nat.reduceLeDiff, Nat.reduceEqDiff, Nat.reduceBEq, ↓reduceIte, reduceCtorEq, eq_self, wtAll]
      refine ⟨by ((try clear hh_i8); (try clear hh_iow); omega), by ((try clear hh_i8); (try clear hh_iow); omega), by ((try clear hh_i8); (try clear hh_iow); omega), ?_⟩
      intro ist hh_ist; (try simp only [ite_none] at hh_ist)
      simp only [vsAll, Nat.reduceLT, ↓reduceIte, eq_self, hh_ist]
      refine vs_draw2 [0, 0, 0, 0, 0, 0, 0, 0, 1] [([0, 1, 2, 3, 4, 5, 6, 7], [], 8)] [] (by decide +kernel) ?_
      simp only [vsAll, loadA, loadRow, partA, partOk, fieldAddrA, nilCheckA, opA, copyA, dstOk, Nat.reduceLT, Nat.reduceEqDiff, ↓reduceIte, reduceCtorEq, eq_self, wtAll, hh_ist, Nat.min_self]
      refine ⟨fun i hi => by simp [stF, okCells, cellA], ?_⟩
      refine vs_draw2 [0, 0, 0, 0, 1, 0, 0, 0, 0, 0, 0, 0, 0, 3, 0, 0, 0, 0, 0, 0, 0, 5, 6, 7] [([0, 1, 2, 3, 5, 6, 7, 8, 9, 10, 11, 12, 14, 15, 16, 17, 18, 19, 20], [2, 9, 12, 18], 4), ([], [2, 18], 13), ([], [2], 21), ([22], [], 23)] [] (by decide +kernel) ?_
      simp only [vsAll, loadA, loadRow, partA, partOk, fieldAddrA, indexAddrA, nilCheckA, cellA, cellsA, fillA, okParts, buildSliceA, buildMutA, partIdx, elemsA, lensA, okAll, stAll, opsA, partsA, partsOk, opA, newCells, okCells, storeObj, appendA, dstOk, Nat.reduceAdd, Nat.reduceMul, Nat.reduceLT, Nat.reduceLeDiff, Nat.reduceEqDiff, Nat.reduceBEq, ↓reduceIte, reduceCtorEq, eq_self, wtAll, hh_ist, stF_at]
      refine ⟨by ((try clear hh_i8); (try clear hh_iow); (try clear hh_ist); omega), by ((try clear hh_i8); (try clear hh_iow); (try clear hh_ist); omega), ?_⟩
      intro im hh_im; (try simp only [ite_none] at hh_im)
      have hml := k.st s hs
      have hcp : cpF 0 x.st.length (fun _ => [.lit (.slice none 0 0)]) 0 (stF x.st) s = [mksAV (x.st.getD s [])] := cpS_at x hs
      simp only [vsAll, Nat.reduceLT, ↓reduceIte, eq_self, hh_im, hcp]
      refine ⟨by ((try clear hh_i8); (try clear hh_iow); (try clear hh_ist); (try clear hh_im); omega), fun q hq => by simp [mkF, okCells, cellA], by ((try clear hh_i8); (try clear hh_iow); (try clear hh_ist); (try clear hh_im); omega), by ((try clear hh_i8); (try clear hh_iow); (try clear hh_ist); (try clear hh_im); omega), fun q hq => by simp [okCells, cellA, show q = 0 by ((try clear hh_i8); (try clear hh_iow); (try clear hh_ist); (try clear hh_im); omega)], by ((try clear hh_i8); (try clear hh_iow); (try clear hh_ist); (try clear hh_im); omega), by ((try clear hh_i8); (try clear hh_iow); (try clear hh_ist); (try clear hh_im); omega), by ((try clear hh_i8); (try clear hh_iow); (try clear hh_ist); (try clear hh_im); omega), by ((try clear hh_i8); (try clear hh_iow); (try clear hh_ist); (try clear hh_im); omega), ?_⟩
      rw [Hp.set_set, Hp.set_set]
      refine callK_pure (wfit_tri x S C m o s _ k.gd ho hs) ?_
      simp only [vsAll, opA, dstOk, nilSliceOp, Nat.reduceLT, Nat.reduceEqDiff, Nat.reduceBEq, ↓reduceIte, reduceCtorEq, eq_self]
      refine fn_ent (Ent.of [(6, .ref i8 0 8 0 0), (7, boo (fitB x o s))] (H' := ((((H.set i8 (.box 8 1 fun _ => [i64 (x.F + 1), .sl iow 1 x.ow.length, intsAV x.mo, .sl ist 1 x.st.length, clAV x.cl, u64 S, u64 C, boo m])).set iow (.row 1 x.ow.length (rowO x o x.ow.length))).set im (.row 3 ((x.st.getD s []).length + 1) (extM (x.st.getD s []) x.F))).set ist (.row 1 x.st.length (updF x.st.length s (cpS x) [.sl im 3 ((x.st.getD s []).length + 1)])))) (by simp only [vsAll, Nat.reduceEqDiff, ↓reduceIte, eq_self]) ?_ ?_)
      · (repeat (first | exact HSub_rfl | refine HSub_put_eq (by simp only [vsAll, ↓reduceIte, eq_self, hh_iow, hh_ist, hh_im]) ?_ | refine HSub_drop2 (by simp only [eq_self, hh_i8, hh_iow, hh_ist, hh_im]) ?_ | refine HSub_keep_eq (by simp only [vsAll, binA, binLitA, intA, aggA, boolA, nilA2, isConst, unA, loadA, loadRow, partA, partOk, fieldAddrA, indexAddrA, indexA, fieldA, extractA, lenA, nilCheckA, boxA, cellA, cellsA, fillA, okParts, buildSliceA, buildMutA, makeSliceA, partIdx, elemsA, lensA, ifaceA, convA, mmA, pickA, okAll, stAll, opsA, partsA, partsOk, opA, allocA, boxMutA, newCells, okCells, storeObj, appendA, guardV, taA, nM, mapUpA, lookA, sliceA, boundsA, opO, okO, copyA, dstOk, nilA, quietOk, nilSliceOp, panA, resA, argFr, retA.eq_1, retA.eq_2, Nat.reduceAdd, Nat.reduceSub, Nat.reduceMul, Nat.reduceLT, Nat.reduceLeDiff, Nat.reduceEqDiff, Nat.reduceBEq, Int.reduceAdd, Int.reduceSub, Int.reduceMul, Int.reduceNeg, Int.reduceLE, Int.reduceLT, Int.reduceEq, Int.reduceNe, Int.reduceToNat, ↓reduceIte, reduceCtorEq, implies_true, forall_const, eq_self, ne_eq, wtAll, Try.ntmps66, Try.results66, hh_i8, hh_iow, hh_ist, hh_im]) ?_))
      · have d1 := hh_im.1
        have d2 := hh_iow.2.2
        refine fn_ent (Ent.freezeRow (s' := _) (id := im) (st := 3) (n := (x.st.getD s []).length + 1) (f := extM (x.st.getD s []) x.F) (j := ist) (st' := 1) (n' := x.st.length) (g := updF x.st.length s (cpS x) [.sl im 3 ((x.st.getD s []).length + 1)])
          (g' := (fun j => if j = s then [.rsl ((x.st.getD s []).length + 1) 3 (extM (x.st.getD s []) x.F)] else cpS x j)) (by simp only [vsAll, ↓reduceIte, eq_self, hh_im]) (by simp only [vsAll, ↓reduceIte, eq_self]) (by simp only [vsAll, ne_eq, hh_im]) (fun t => .rfl) (fun q hq => ?_) (fun q c hq hc => cpS_frz hs hq hc) ?_)
        · show (ite _ _ _ : List AV).length = 1
          split
          · rfl
          · rw [cpS_at x hq]; rfl
        refine fn_ent (Ent.of [(6, .ref i8 0 8 0 0), (7, boo (fitB x o s))] (H' := ((H.set i8 (.box 8 1 fun _ => [i64 (x.F + 1), .sl iow 1 x.ow.length, intsAV x.mo, .sl ist 1 x.st.length, clAV x.cl, u64 S, u64 C, boo m])).set iow (.row 1 x.ow.length (rowO x o x.ow.length))).set ist (.row 1 x.st.length (fun j => if j = s then [.rsl ((x.st.getD s []).length + 1) 3 (extM (x.st.getD s []) x.F)] else cpS x j))) (by simp only [vsAll, Nat.reduceEqDiff, ↓reduceIte, eq_self]) ?_ ?_)
        · exact HSub.set (HSub_del (by simp only [vsAll, ↓reduceIte, eq_self, hh_im]) (HSub_drop2 (by simp only [vsAll, ↓reduceIte, eq_self, hh_ist]) (HSub_drop2 (by simp only [vsAll, ↓reduceIte, eq_self, hh_im]) HSub_rfl))) (.refl _)
        refine fn_ent (Ent.freezeBox (s' := _) (id := iow) (st := 1) (n := x.ow.length) (f := rowO x o x.ow.length) (j := i8) (st' := 8) (n' := 1) (g := fun _ => [i64 (x.F + 1), .sl iow 1 x.ow.length, intsAV x.mo, .sl ist 1 x.st.length, clAV x.cl, u64 S, u64 C, boo m]) (g' := fun _ => [i64 (x.F + 1), .rsl x.ow.length 1 (rowO x o x.ow.length), intsAV x.mo, .sl ist 1 x.st.length, clAV x.cl, u64 S, u64 C, boo m]) (by simp only [vsAll, ↓reduceIte, eq_self, hh_ist]) (by simp only [vsAll, ↓reduceIte, eq_self, hh_iow, hh_ist]) (fun t => .rfl) (fun _ _ => rfl) (fun q c hq hc => ?_) ?_)
        · match c, hc with
          | 0, _ => exact .rfl
          | 1, _ => exact .hit
          | 2, _ => exact .rfl
          | 3, _ => exact .rfl
          | 4, _ => exact .rfl
          | 5, _ => exact .rfl
          | 6, _ => exact .rfl
          | 7, _ => exact .rfl
        refine fn_ent (Ent.of [(6, .ref i8 0 8 0 0), (7, boo (fitB x o s))] (H' := (H.set i8 (.box 8 1 fun _ => [i64 (x.F + 1), .rsl x.ow.length 1 (rowO x o x.ow.length), intsAV x.mo, .sl ist 1 x.st.length, clAV x.cl, u64 S, u64 C, boo m])).set ist (.row 1 x.st.length (fun j => if j = s then [.rsl ((x.st.getD s []).length + 1) 3 (extM (x.st.getD s []) x.F)] else cpS x j))) (by simp only [vsAll, Nat.reduceEqDiff, ↓reduceIte, eq_self]) ?_ ?_)
        · exact HSub_put (o' := .row 1 x.st.length (fun j => if j = s then [.rsl ((x.st.getD s []).length + 1) 3 (extM (x.st.getD s []) x.F)] else cpS x j)) (by simp only [vsAll, ↓reduceIte, eq_self, hh_ist, Hp.del_get]) (.refl _) (HSub.set (HSub_del hh_iow.2.2 (HSub_drop2 hh_ist.2.2 (HSub_drop2 hh_iow.2.2 (HSub_drop2 hh_i8 HSub_rfl)))) (.refl _))
        refine fn_ent (Ent.freezeBox (s' := _) (id := ist) (st := 1) (n := x.st.length) (f := (fun j => if j = s then [.rsl ((x.st.getD s []).length + 1) 3 (extM (x.st.getD s []) x.F)] else cpS x j)) (j := i8) (st' := 8) (n' := 1) (g := fun _ => [i64 (x.F + 1), .rsl x.ow.length 1 (rowO x o x.ow.length), intsAV x.mo, .sl ist 1 x.st.length, clAV x.cl, u64 S, u64 C, boo m]) (g' := fun _ => [i64 (x.F + 1), .rsl x.ow.length 1 (rowO x o x.ow.length), intsAV x.mo, .rsl x.st.length 1 (fun j => if j = s then [.rsl ((x.st.getD s []).length + 1) 3 (extM (x.st.getD s []) x.F)] else cpS x j), clAV x.cl, u64 S, u64 C, boo m]) (by simp only [vsAll, ↓reduceIte, eq_self]) (by simp only [vsAll, ↓reduceIte, eq_self, hh_ist]) (fun t => .rfl) (fun _ _ => rfl) (fun q c hq hc => ?_) ?_)
        · match c, hc with
          | 0, _ => exact .rfl
          | 1, _ => exact .rfl
          | 2, _ => exact .rfl
          | 3, _ => exact .hit
          | 4, _ => exact .rfl
          | 5, _ => exact .rfl
          | 6, _ => exact .rfl
          | 7, _ => exact .rfl
        refine fn_ent (Ent.of [(6, .ref i8 0 8 0 0), (7, boo (fitB x o s))] (H' := H.set i8 (.box 8 1 fun _ => irC (withI x s o) S C m)) (by simp only [vsAll, Nat.reduceEqDiff, ↓reduceIte, eq_self]) ?_ ?_)
        · refine HSub.set (HSub_del hh_ist.2.2 (HSub_drop2 hh_ist.2.2 (HSub_drop2 hh_i8 HSub_rfl))) (box_leA (fun _ _ => rfl) fun q hq c hc => ?_)
          match c, hc with
          | 0, _ => exact AV.Le.refl _
          | 1, _ => exact ow_le x s o
          | 2, _ => exact AV.Le.refl _
          | 3, _ => exact st_le x s o hs
          | 4, _ => exact AV.Le.refl _
          | 5, _ => exact AV.Le.refl _
          | 6, _ => exact AV.Le.refl _
          | 7, _ => exact AV.Le.refl _
        refine fn_ent (Ent.freezeB (id := i8) (s' := Fr.of [(6, irP (withI x s o) S C m), (7, boo (fitB x o s))]) (Hp.set_same _ _ _) (fun t => ?_) ?_)
        · by_cases ht : t = 6
          · subst ht
            exact .inr ⟨0, 0, rfl, rfl⟩
          · left
            simp only [Fr.of]
            simp [ht]
        rw [set_del hh_i8]
        refine ret0 ?_
        simp only [vsAll, resA, retA.eq_2, Nat.reduceEqDiff, ↓reduceIte, eq_self, Try.results66]
        exact dropR_pure rfl (HSub.refl _)
end Go.Proofs.Ytkonoggmdcdeeaa
end
section
set_option linter.unusedVariables false
set_option linter.unusedSimpArgs false
set_option maxHeartbeats 4000000
set_option maxRecDepth 100000
namespace Go.Proofs.Ytkonoggmdcdeeaa
open Go.V
theorem withI_ow {x : Ir} {s o i : Nat} (hi : i < x.ow.length) : (withI x s o).ow.getD i [] = owW x o i := getD_mapR _ _ _ _ hi
theorem withI_st {x : Ir} {s o i : Nat} (hi : i < x.st.length) : (withI x s o).st.getD i [] = stW x s i := getD_mapR _ _ _ _ hi
theorem withI_gd {x : Ir} (k : Ok x) (s o : Nat) : Gd (withI x s o) := by
  have lo : (withI x s o).ow.length = x.ow.length := by simp [withI]
  have ls : (withI x s o).st.length = x.st.length := by simp [withI]
  have hF := k.F
  refine ⟨by show 0 ≤ x.F + 1 ∧ x.F + 1 ≤ 5; omega, by rw [lo]; exact k.nO, by rw [lo]; exact k.nM, by rw [ls]; exact k.nS, k.nC, fun i hi => ?_, fun i hi => k.mo i (by omega), fun i hi q hq => ?_, fun i hi => ?_, fun i hi q hq => ?_, fun i hi q hq => ?_, fun i hi => by rw [ls]; exact k.cs i hi, fun i hi => by rw [lo]; exact k.co i hi⟩
  · rw [lo] at hi
    rw [withI_ow hi, owW, List.length_append]
    have := k.ow i hi
    show ((_ + 1 : Nat) : Int) = x.F + 1
    omega
  · rw [lo] at hi
    rw [withI_ow hi, owW, getD_snoc]
    have h1 := k.ow i hi
    have h2 : (q : Int) < x.F + 1 := hq
    split
    · split <;> omega
    · exact k.ov i hi q (by omega)
  · rw [ls] at hi
    rw [withI_st hi, stW]
    have := k.st i hi
    split
    · rw [List.length_append]; show _ + 1 ≤ 7; omega
    · omega
  · rw [ls] at hi
    rw [withI_st hi] at hq ⊢
    show 0 ≤ _ ∧ _ < x.F + 1
    unfold stW at hq ⊢
    split at hq <;> rename_i e
    · rw [if_pos e, getD_snoc]
      split
      · show 0 ≤ x.F ∧ x.F < x.F + 1; omega
      · rename_i hne
        rw [List.length_append] at hq
        have := k.sf i hi q (by simp only [List.length_cons, List.length_nil] at hq; omega)
        omega
    · rw [if_neg e]
      have := k.sf i hi q hq
      omega
  · rw [ls] at hi
    rw [withI_st hi] at hq ⊢
    unfold stW at hq ⊢
    split at hq <;> rename_i e
    · rw [if_pos e, getD_snoc]
      split
      · exact ⟨(by decide : (0 : Int) ≤ 1), (by decide : (1 : Int) ≤ 1), (by decide : (1 : Int) ≤ 9)⟩
      · rename_i hne
        rw [List.length_append] at hq
        exact k.sl i hi q (by simp only [List.length_cons, List.length_nil] at hq; omega)
    · rw [if_neg e]
      exact k.sl i hi q hq

def likB (x : Ir) (s o : Nat) : Bool := fitB x o s && ((tlW (withI x s o) (fullS x) (fullC x) false).isSome && decide (((tlW (withI x s o) (fullS x) (fullC x) false).getD (0, 0)).1 = ((tlW x (fullS x) (fullC x) false).getD (0, 0)).1))
def likN (x : Ir) (s : Nat) : Nat → Nat
  | 0 => 0
  | o + 1 => likN x s o + if likB x s o = true then 2 ^ o else 0
theorem likN_lt (x : Ir) (s o : Nat) : likN x s o < 2 ^ o := by
  induction o with
  | zero => simp [likN]
  | succ o ih => simp only [likN, Nat.pow_succ]; split <;> omega
def likE (x : Ir) (s : Int) : Int := errE x (strB x s) true
def likV (x : Ir) (s : Int) : Nat := if likE x s = 0 then likN x s.toNat x.ow.length else 0
theorem dec_cast2 (a b : Nat) (x : Bool) : (x && decide ((a : Int) = (b : Int))) = (x && decide (a = b)) := by
  rw [show decide ((a : Int) = (b : Int)) = decide (a = b) from decide_eq_decide.2 (by omega)]
theorem wlikely_tri (x : Ir) (s : Int) (H : Hp) (kn : Near x) : PTri Try.prog (fnA 25) [x.av, i64 s] H (.tuple [i64 (likV x s : Nat), i64 (likE x s)]) := by
  refine Tri.drop ?_
  refine tri_a (m := fun _ => false) ans43 Try.func25 (by kernel_rfl) rfl (by simp only [List.length_append, List.length_cons, List.length_nil, Try.ntmps25]; decide) ?_
  simp only [vsAll, boxA, okAll, stAll, opsA, opA, allocA, dstOk, nilSliceOp, argFr, Nat.reduceAdd, Nat.reduceLT, ↓reduceIte, eq_self, wtAll, Try.ntmps25]
  intro i5 hh_i5; (try simp only [Hp.set_none, ite_none] at hh_i5)
  refine vs_draw2 [0, 0, 0, 1, 3, 4] [([0, 1, 2], [], 3), ([], [], 4)] [5] (by decide +kernel) ?_
  simp only [vsAll, loadA, loadRow, partA, partOk, opA, dstOk, argFr, Nat.reduceLT, Nat.reduceEqDiff, ↓reduceIte, eq_self, wtAll]
  refine qcall _ ⟨trivial, by simp only [vsAll, okAll, opsA, opA, ↓reduceIte, eq_self], isStrakeF_tri s _⟩ ?_
  simp only [vsAll, okAll, stAll, opsA, opA, dstOk, Nat.reduceLT, Nat.reduceEqDiff, ↓reduceIte, eq_self]
  refine open_call (open_tri x _ (strB x s) _ kn trivial rfl (fun hk H' => isStrake1_tri x _ _ _ s H' kn)) (fun hno => ?_) (fun hk hv => ?_) (fun hk hv => ?_)
  · have e : likE x s = 1 := errE_no hno _ _
    have ev : likV x s = 0 := by simp only [likV, e]; rfl
    simp only [vsAll]
    refine ⟨1, i5, _, rfl, rfl, by simp only [vsAll, ↓reduceIte, eq_self]; try rfl, ?_⟩
    simp only [vsAll, loadA, loadRow, partA, partOk, resA, retA.eq_2, Nat.reduceLT, Nat.reduceEqDiff, ↓reduceIte, eq_self, wtAll, Try.results25]
    refine dropR_pure ?_ (by (repeat (first | exact HSub_rfl | refine HSub_put_eq (by simp only [vsAll, binA, binLitA, intA, aggA, boolA, nilA2, isConst, unA, loadA, loadRow, partA, partOk, fieldAddrA, indexAddrA, indexA, fieldA, extractA, lenA, nilCheckA, boxA, cellA, cellsA, fillA, okParts, buildSliceA, buildMutA, makeSliceA, partIdx, elemsA, lensA, ifaceA, convA, mmA, pickA, okAll, stAll, opsA, partsA, partsOk, opA, allocA, boxMutA, newCells, okCells, storeObj, appendA, guardV, taA, nM, mapUpA, lookA, sliceA, boundsA, opO, okO, copyA, dstOk, nilA, quietOk, nilSliceOp, panA, resA, argFr, retA.eq_1, retA.eq_2, Nat.reduceAdd, Nat.reduceSub, Nat.reduceMul, Nat.reduceLT, Nat.reduceLeDiff, Nat.reduceEqDiff, Nat.reduceBEq, Int.reduceAdd, Int.reduceSub, Int.reduceMul, Int.reduceNeg, Int.reduceLE, Int.reduceLT, Int.reduceEq, Int.reduceNe, Int.reduceToNat, ↓reduceIte, reduceCtorEq, implies_true, forall_const, eq_self, ne_eq, wtAll, Try.ntmps25, Try.results25, hh_i5]) ?_ | refine HSub_drop2 (by simp only [eq_self, hh_i5]) ?_ | refine HSub_keep_eq (by simp only [vsAll, binA, binLitA, intA, aggA, boolA, nilA2, isConst, unA, loadA, loadRow, partA, partOk, fieldAddrA, indexAddrA, indexA, fieldA, extractA, lenA, nilCheckA, boxA, cellA, cellsA, fillA, okParts, buildSliceA, buildMutA, makeSliceA, partIdx, elemsA, lensA, ifaceA, convA, mmA, pickA, okAll, stAll, opsA, partsA, partsOk, opA, allocA, boxMutA, newCells, okCells, storeObj, appendA, guardV, taA, nM, mapUpA, lookA, sliceA, boundsA, opO, okO, copyA, dstOk, nilA, quietOk, nilSliceOp, panA, resA, argFr, retA.eq_1, retA.eq_2, Nat.reduceAdd, Nat.reduceSub, Nat.reduceMul, Nat.reduceLT, Nat.reduceLeDiff, Nat.reduceEqDiff, Nat.reduceBEq, Int.reduceAdd, Int.reduceSub, Int.reduceMul, Int.reduceNeg, Int.reduceLE, Int.reduceLT, Int.reduceEq, Int.reduceNe, Int.reduceToNat, ↓reduceIte, reduceCtorEq, implies_true, forall_const, eq_self, ne_eq, wtAll, Try.ntmps25, Try.results25, hh_i5]) ?_)))
    simp only [eq_self, ev, e, Int.natCast_zero]
  · have e : likE x s = 2 := by unfold likE; rw [hv]; exact errE_bad hk _
    have ev : likV x s = 0 := by simp only [likV, e]; rfl
    simp only [vsAll]
    refine ⟨2, i5, _, rfl, rfl, by simp only [vsAll, ↓reduceIte, eq_self]; try rfl, ?_⟩
    simp only [vsAll, loadA, loadRow, partA, partOk, resA, retA.eq_2, Nat.reduceLT, Nat.reduceEqDiff, ↓reduceIte, eq_self, wtAll, Try.results25]
    refine dropR_pure ?_ (by (repeat (first | exact HSub_rfl | refine HSub_put_eq (by simp only [vsAll, binA, binLitA, intA, aggA, boolA, nilA2, isConst, unA, loadA, loadRow, partA, partOk, fieldAddrA, indexAddrA, indexA, fieldA, extractA, lenA, nilCheckA, boxA, cellA, cellsA, fillA, okParts, buildSliceA, buildMutA, makeSliceA, partIdx, elemsA, lensA, ifaceA, convA, mmA, pickA, okAll, stAll, opsA, partsA, partsOk, opA, allocA, boxMutA, newCells, okCells, storeObj, appendA, guardV, taA, nM, mapUpA, lookA, sliceA, boundsA, opO, okO, copyA, dstOk, nilA, quietOk, nilSliceOp, panA, resA, argFr, retA.eq_1, retA.eq_2, Nat.reduceAdd, Nat.reduceSub, Nat.reduceMul, Nat.reduceLT, Nat.reduceLeDiff, Nat.reduceEqDiff, Nat.reduceBEq, Int.reduceAdd, Int.reduceSub, Int.reduceMul, Int.reduceNeg, Int.reduceLE, Int.reduceLT, Int.reduceEq, Int.reduceNe, Int.reduceToNat, ↓reduceIte, reduceCtorEq, implies_true, forall_const, eq_self, ne_eq, wtAll, Try.ntmps25, Try.results25, hh_i5]) ?_ | refine HSub_drop2 (by simp only [eq_self, hh_i5]) ?_ | refine HSub_keep_eq (by simp only [vsAll, binA, binLitA, intA, aggA, boolA, nilA2, isConst, unA, loadA, loadRow, partA, partOk, fieldAddrA, indexAddrA, indexA, fieldA, extractA, lenA, nilCheckA, boxA, cellA, cellsA, fillA, okParts, buildSliceA, buildMutA, makeSliceA, partIdx, elemsA, lensA, ifaceA, convA, mmA, pickA, okAll, stAll, opsA, partsA, partsOk, opA, allocA, boxMutA, newCells, okCells, storeObj, appendA, guardV, taA, nM, mapUpA, lookA, sliceA, boundsA, opO, okO, copyA, dstOk, nilA, quietOk, nilSliceOp, panA, resA, argFr, retA.eq_1, retA.eq_2, Nat.reduceAdd, Nat.reduceSub, Nat.reduceMul, Nat.reduceLT, Nat.reduceLeDiff, Nat.reduceEqDiff, Nat.reduceBEq, Int.reduceAdd, Int.reduceSub, Int.reduceMul, Int.reduceNeg, Int.reduceLE, Int.reduceLT, Int.reduceEq, Int.reduceNe, Int.reduceToNat, ↓reduceIte, reduceCtorEq, implies_true, forall_const, eq_self, ne_eq, wtAll, Try.ntmps25, Try.results25, hh_i5]) ?_)))
    simp only [eq_self, ev, e, Int.natCast_zero]
  · simp only [vsAll, okAll, stAll, opsA, opA, dstOk, Nat.reduceLT, ↓reduceIte, eq_self]
    refine told_call hk (full_lt hk).2 (fun hl => ?_) (fun hl => ?_)
    · have e : likE x s = 0 := by unfold likE; rw [hv]; exact errE_told hk hl
      rw [strB_iff] at hv
      obtain ⟨q, rfl⟩ : ∃ q : Nat, s = (q : Int) := ⟨s.toNat, by ((try clear hh_i5); omega)⟩
      have nO := hk.nO
      simp only [vsAll, okAll, stAll, opsA, opA, dstOk, Nat.reduceLT, ↓reduceIte, eq_self]
      refine callK_pure (least_tri x (fullS x) (fullC x) false _ hk.gd (full_lt hk).1 (full_lt hk).2) ?_
      simp only [vsAll, loadA, loadRow, partA, partOk, fieldAddrA, extractA, lenA, cellA, cellsA, opA, allocA, newCells, okCells, storeObj, dstOk, nilSliceOp, Nat.reduceAdd, Nat.reduceLT, Nat.reduceEqDiff, ↓reduceIte, eq_self, wtAll]
      intro i7 hh_i7; (try simp only [ite_none] at hh_i7)
      refine vs_loop (σ := Nat) (fun i => i ≤ x.ow.length) (fun i => [(1, i64 q), (5, .ref i5 0 1 0 0), (6, irP x (fullS x) (fullC x) false), (7, .ref i7 0 2 0 0), (9, i64 (likN x q i : Nat)), (27, i64 x.ow.length), (28, i64 i)])
        (fun _ => (H.set i5 (.box 1 1 fun _ => [i64 0])).set i7 (.box 2 1 fun _ => [i64 (((tlW x (fullS x) (fullC x) false).getD (0, 0)).1 : Nat), i64 (((tlW x (fullS x) (fullC x) false).getD (0, 0)).2 : Nat)])) (fun i => x.ow.length - i) 0 (by ((try clear hh_i5); (try clear hh_i7); omega)) ?_ ?_ fun i hi => ?_
      · simp only [vsAll, argFr, Nat.reduceEqDiff, ↓reduceIte, eq_self, Int.natCast_zero, likN]
      · (repeat (first | exact HSub_rfl | refine HSub_put_eq (by simp only [vsAll, ↓reduceIte, eq_self, hh_i7]) ?_ | refine HSub_drop2 (by simp only [eq_self, hh_i5, hh_i7]) ?_ | refine HSub_keep_eq (by simp only [vsAll, binA, binLitA, intA, aggA, boolA, nilA2, isConst, unA, loadA, loadRow, partA, partOk, fieldAddrA, indexAddrA, indexA, fieldA, extractA, lenA, nilCheckA, boxA, cellA, cellsA, fillA, okParts, buildSliceA, buildMutA, makeSliceA, partIdx, elemsA, lensA, ifaceA, convA, mmA, pickA, okAll, stAll, opsA, partsA, partsOk, opA, allocA, boxMutA, newCells, okCells, storeObj, appendA, guardV, taA, nM, mapUpA, lookA, sliceA, boundsA, opO, okO, copyA, dstOk, nilA, quietOk, nilSliceOp, panA, resA, argFr, retA.eq_1, retA.eq_2, Nat.reduceAdd, Nat.reduceSub, Nat.reduceMul, Nat.reduceLT, Nat.reduceLeDiff, Nat.reduceEqDiff, Nat.reduceBEq, Int.reduceAdd, Int.reduceSub, Int.reduceMul, Int.reduceNeg, Int.reduceLE, Int.reduceLT, Int.reduceEq, Int.reduceNe, Int.reduceToNat, ↓reduceIte, reduceCtorEq, implies_true, forall_const, eq_self, ne_eq, wtAll, Try.ntmps25, Try.results25, hh_i5, hh_i7]) ?_))
      · simp only [vsAll, binA, binLitA, intA, opA, dstOk, Nat.reduceLT, Nat.reduceEqDiff, ↓reduceIte, eq_self]
        refine condD (fun hd => ?_) (fun hd => ?_)
        · have hb := likN_lt x q i
          have hp : 2 ^ i ≤ 2 ^ 5 := Nat.pow_le_pow_right (by decide) (by ((try clear hh_i5); (try clear hh_i7); omega))
          have ep : (1 : Int) * 2 ^ i = ((2 ^ i : Nat) : Int) := by rw [Int.one_mul]; simp
          simp only [vsAll, okAll, stAll, opsA, opA, dstOk, nilSliceOp, Nat.reduceLT, Nat.reduceEqDiff, ↓reduceIte, eq_self]
          refine callK_pure (with1_tri x _ _ _ q i _ hk (by ((try clear hh_i5); (try clear hh_i7); omega)) (by ((try clear hh_i5); (try clear hh_i7); omega))) ?_
          simp only [vsAll, extractA, opA, dstOk, nilSliceOp, Nat.reduceAdd, Nat.reduceLT, Nat.reduceEqDiff, ↓reduceIte, eq_self]
          refine condV (fun hf => ?_) (fun hf => ?_)
          · simp only [vsAll, okAll, stAll, opsA, opA, dstOk, Nat.reduceLT, Nat.reduceEqDiff, ↓reduceIte, eq_self]
            refine callK_pure (least_tri (withI x q i) (fullS x) (fullC x) false _ (withI_gd hk q i) (full_lt hk).1 (full_lt hk).2) ?_
            have hlb : likB x q i = ((tlW (withI x q i) (fullS x) (fullC x) false).isSome && decide (((tlW (withI x q i) (fullS x) (fullC x) false).getD (0, 0)).1 = ((tlW x (fullS x) (fullC x) false).getD (0, 0)).1)) := by simp only [likB, hf, Bool.true_and]
            generalize tlW (withI x q i) (fullS x) (fullC x) false = tv at hlb ⊢
            simp only [vsAll, binA, binLitA, intA, loadA, loadRow, partA, partOk, fieldAddrA, extractA, cellA, cellsA, pickA, opA, allocA, newCells, okCells, storeObj, guardV, dstOk, nilSliceOp, Nat.reduceAdd, Nat.reduceLT, Nat.reduceEqDiff, ↓reduceIte, implies_true, eq_self, wtAll]
            intro i13 hh_i13; (try simp only [ite_none] at hh_i13)
            simp only [vsAll, Nat.reduceLT, ↓reduceIte, eq_self, hh_i13]
            rw [dec_cast2, ← hlb]
            refine condV (fun hc => ?_) (fun hc => ?_)
            · have e2 : likN x q (i + 1) = likN x q i + 2 ^ i := by simp only [likN, hc, if_true]
              simp only [vsAll, binA, binLitA, intA, opA, dstOk, nilSliceOp, Nat.reduceLT, Nat.reduceEqDiff, ↓reduceIte, eq_self, ep]
              have eo : likN x q i ||| 2 ^ i = likN x q (i + 1) := by rw [or_bit _ _ hb, e2]
              refine ⟨⟨by ((try clear hh_i5); (try clear hh_i7); (try clear hh_i13); omega), by ((try clear hh_i5); (try clear hh_i7); (try clear hh_i13); omega), by simp only [InR_i64]; ((try clear hh_i5); (try clear hh_i7); (try clear hh_i13); omega)⟩, ⟨by ((try clear hh_i5); (try clear hh_i7); (try clear hh_i13); omega), by ((try clear hh_i5); (try clear hh_i7); (try clear hh_i13); omega), by simp only [InR_i64]; ((try clear hh_i5); (try clear hh_i7); (try clear hh_i13); omega), by simp only [InR_i64]; ((try clear hh_i5); (try clear hh_i7); (try clear hh_i13); omega)⟩, by simp only [InR_i64]; ((try clear hh_i5); (try clear hh_i7); (try clear hh_i13); omega), loop_next (i + 1) (by ((try clear hh_i5); (try clear hh_i7); (try clear hh_i13); omega)) (by ((try clear hh_i5); (try clear hh_i7); (try clear hh_i13); omega)) ?_ ?_⟩
              · simp only [vsAll, Nat.reduceEqDiff, ↓reduceIte, eq_self, Int.natCast_add, Int.natCast_one, eo]
              · (repeat (first | exact HSub_rfl | refine HSub_put_eq (by simp only [vsAll, ↓reduceIte, eq_self, hh_i7, hh_i13]) ?_ | refine HSub_drop2 (by simp only [eq_self, hh_i5, hh_i7, hh_i13]) ?_ | refine HSub_keep_eq (by simp only [vsAll, binA, binLitA, intA, aggA, boolA, nilA2, isConst, unA, loadA, loadRow, partA, partOk, fieldAddrA, indexAddrA, indexA, fieldA, extractA, lenA, nilCheckA, boxA, cellA, cellsA, fillA, okParts, buildSliceA, buildMutA, makeSliceA, partIdx, elemsA, lensA, ifaceA, convA, mmA, pickA, okAll, stAll, opsA, partsA, partsOk, opA, allocA, boxMutA, newCells, okCells, storeObj, appendA, guardV, taA, nM, mapUpA, lookA, sliceA, boundsA, opO, okO, copyA, dstOk, nilA, quietOk, nilSliceOp, panA, resA, argFr, retA.eq_1, retA.eq_2, Nat.reduceAdd, Nat.reduceSub, Nat.reduceMul, Nat.reduceLT, Nat.reduceLeDiff, Nat.reduceEqDiff, Nat.reduceBEq, Int.reduceAdd, Int.reduceSub, Int.reduceMul, Int.reduceNeg, Int.reduceLE, Int.reduceLT, Int.reduceEq, Int.reduceNe, Int.reduceToNat, ↓reduceIte, reduceCtorEq, implies_true, forall_const, eq_self, ne_eq, wtAll, Try.ntmps25, Try.results25, hh_i5, hh_i7, hh_i13]) ?_))
            · have e2 : likN x q (i + 1) = likN x q i := by simp only [likN, hc, Bool.false_eq_true, if_false, Nat.add_zero]
              simp only [vsAll, binA, binLitA, intA, opA, dstOk, Nat.reduceLT, Nat.reduceEqDiff, ↓reduceIte, eq_self]
              refine ⟨by simp only [InR_i64]; ((try clear hh_i5); (try clear hh_i7); (try clear hh_i13); omega), loop_next (i + 1) (by ((try clear hh_i5); (try clear hh_i7); (try clear hh_i13); omega)) (by ((try clear hh_i5); (try clear hh_i7); (try clear hh_i13); omega)) ?_ ?_⟩
              · simp only [vsAll, Nat.reduceEqDiff, ↓reduceIte, eq_self, Int.natCast_add, Int.natCast_one, e2]
              · (repeat (first | exact HSub_rfl | refine HSub_put_eq (by simp only [vsAll, ↓reduceIte, eq_self, hh_i7, hh_i13]) ?_ | refine HSub_drop2 (by simp only [eq_self, hh_i5, hh_i7, hh_i13]) ?_ | refine HSub_keep_eq (by simp only [vsAll, binA, binLitA, intA, aggA, boolA, nilA2, isConst, unA, loadA, loadRow, partA, partOk, fieldAddrA, indexAddrA, indexA, fieldA, extractA, lenA, nilCheckA, boxA, cellA, cellsA, fillA, okParts, buildSliceA, buildMutA, makeSliceA, partIdx, elemsA, lensA, ifaceA, convA, mmA, pickA, okAll, stAll, opsA, partsA, partsOk, opA, allocA, boxMutA, newCells, okCells, storeObj, appendA, guardV, taA, nM, mapUpA, lookA, sliceA, boundsA, opO, okO, copyA, dstOk, nilA, quietOk, nilSliceOp, panA, resA, argFr, retA.eq_1, retA.eq_2, Nat.reduceAdd, Nat.reduceSub, Nat.reduceMul, Nat.reduceLT, Nat.reduceLeDiff, Nat.reduceEqDiff, Nat.reduceBEq, Int.reduceAdd, Int.reduceSub, Int.reduceMul, Int.reduceNeg, Int.reduceLE, Int.reduceLT, Int.reduceEq, Int.reduceNe, Int.reduceToNat, ↓reduceIte, reduceCtorEq, implies_true, forall_const, eq_self, ne_eq, wtAll, Try.ntmps25, Try.results25, hh_i5, hh_i7, hh_i13]) ?_))
          · have e2 : likN x q (i + 1) = likN x q i := by simp only [likN, likB, hf, Bool.false_and, Bool.false_eq_true, if_false, Nat.add_zero]
            simp only [vsAll, binA, binLitA, intA, opA, dstOk, Nat.reduceLT, Nat.reduceEqDiff, ↓reduceIte, eq_self]
            refine ⟨by simp only [InR_i64]; ((try clear hh_i5); (try clear hh_i7); omega), loop_next (i + 1) (by ((try clear hh_i5); (try clear hh_i7); omega)) (by ((try clear hh_i5); (try clear hh_i7); omega)) ?_ ?_⟩
            · simp only [vsAll, Nat.reduceEqDiff, ↓reduceIte, eq_self, Int.natCast_add, Int.natCast_one, e2]
            · (repeat (first | exact HSub_rfl | refine HSub_put_eq (by simp only [vsAll, binA, binLitA, intA, aggA, boolA, nilA2, isConst, unA, loadA, loadRow, partA, partOk, fieldAddrA, indexAddrA, indexA, fieldA, extractA, lenA, nilCheckA, boxA, cellA, cellsA, fillA, okParts, buildSliceA, buildMutA, makeSliceA, partIdx, elemsA, lensA, ifaceA, convA, mmA, pickA, okAll, stAll, opsA, partsA, partsOk, opA, allocA, boxMutA, newCells, okCells, storeObj, appendA, guardV, taA, nM, mapUpA, lookA, sliceA, boundsA, opO, okO, copyA, dstOk, nilA, quietOk, nilSliceOp, panA, resA, argFr, retA.eq_1, retA.eq_2, Nat.reduceAdd, Nat.reduceSub, Nat.reduceMul, Nat.reduceLT, Nat.reduceLeDiff, Nat.reduceEqDiff, Nat.reduceBEq, Int.reduceAdd, Int.reduceSub, Int.reduceMul, Int.reduceNeg, Int.reduceLE, Int.reduceLT, Int.reduceEq, Int.reduceNe, Int.reduceToNat, ↓reduceIte, reduceCtorEq, implies_true, forall_const, eq_self, ne_eq, wtAll, Try.ntmps25, Try.results25, hh_i5, hh_i7]) ?_ | refine HSub_drop2 (by simp only [vsAll, binA, binLitA, intA, aggA, boolA, nilA2, isConst, unA, loadA, loadRow, partA, partOk, fieldAddrA, indexAddrA, indexA, fieldA, extractA, lenA, nilCheckA, boxA, cellA, cellsA, fillA, okParts, buildSliceA, buildMutA, makeSliceA, partIdx, elemsA, lensA, ifaceA, convA, mmA, pickA, okAll, stAll, opsA, partsA, partsOk, opA, allocA, boxMutA, newCells, okCells, storeObj, appendA, guardV, taA, nM, mapUpA, lookA, sliceA, boundsA, opO, okO, copyA, dstOk, nilA, quietOk, nilSliceOp, panA, resA, argFr, retA.eq_1, retA.eq_2, Nat.reduceAdd, Nat.reduceSub, Nat.reduceMul, Nat.reduceLT, Nat.reduceLeDiff, Nat.reduceEqDiff, Nat.reduceBEq, Int.reduceAdd, Int.reduceSub, Int.reduceMul, Int.reduceNeg, Int.reduceLE, Int.reduceLT, Int.reduceEq, Int.reduceNe, Int.reduceToNat, ↓reduceIte, reduceCtorEq, implies_true, forall_const, eq_self, ne_eq, wtAll, Try.ntmps25, Try.results25, hh_i5, hh_i7]) ?_ | refine HSub_keep_eq (by simp only [vsAll, binA, binLitA, intA, aggA, boolA, nilA2, isConst, unA, loadA, loadRow, partA, partOk, fieldAddrA, indexAddrA, indexA, fieldA, extractA, lenA, nilCheckA, boxA, cellA, cellsA, fillA, okParts, buildSliceA, buildMutA, makeSliceA, partIdx, elemsA, lensA, ifaceA, convA, mmA, pickA, okAll, stAll, opsA, partsA, partsOk, opA, allocA, boxMutA, newCells, okCells, storeObj, appendA, guardV, taA, nM, mapUpA, lookA, sliceA, boundsA, opO, okO, copyA, dstOk, nilA, quietOk, nilSliceOp, panA, resA, argFr, retA.eq_1, retA.eq_2, Nat.reduceAdd, Nat.reduceSub, Nat.reduceMul, Nat.reduceLT, Nat.reduceLeDiff, Nat.reduceEqDiff, Nat.reduceBEq, Int.reduceAdd, Int.reduceSub, Int.reduceMul, Int.reduceNeg, Int.reduceLE, Int.reduceLT, Int.reduceEq, Int.reduceNe, Int.reduceToNat, ↓reduceIte, reduceCtorEq, implies_true, forall_const, eq_self, ne_eq, wtAll, Try.ntmps25, Try.results25, hh_i5, hh_i7]) ?_))
        · have ei : i = x.ow.length := by ((try clear hh_i5); (try clear hh_i7); omega)
          have ev : likV x (q : Int) = likN x q i := by simp only [likV, e, if_true, Int.toNat_natCast, ei]
          simp only [vsAll, cellA, cellsA, opA, newCells, okCells, storeObj, dstOk, nilSliceOp, Nat.reduceLT, Nat.reduceEqDiff, ↓reduceIte, eq_self, wtAll, hh_i7]
          refine Ent.ret ⟨i5, _, rfl, by simp only [vsAll, ↓reduceIte, eq_self]; try rfl, ?_⟩
          simp only [vsAll, loadA, loadRow, partA, partOk, resA, retA.eq_2, Nat.reduceLT, Nat.reduceEqDiff, ↓reduceIte, eq_self, wtAll, Try.results25]
          refine dropR_pure ?_ (by (repeat (first | exact HSub_rfl | refine HSub_put_eq (by simp only [vsAll, binA, binLitA, intA, aggA, boolA, nilA2, isConst, unA, loadA, loadRow, partA, partOk, fieldAddrA, indexAddrA, indexA, fieldA, extractA, lenA, nilCheckA, boxA, cellA, cellsA, fillA, okParts, buildSliceA, buildMutA, makeSliceA, partIdx, elemsA, lensA, ifaceA, convA, mmA, pickA, okAll, stAll, opsA, partsA, partsOk, opA, allocA, boxMutA, newCells, okCells, storeObj, appendA, guardV, taA, nM, mapUpA, lookA, sliceA, boundsA, opO, okO, copyA, dstOk, nilA, quietOk, nilSliceOp, panA, resA, argFr, retA.eq_1, retA.eq_2, Nat.reduceAdd, Nat.reduceSub, Nat.reduceMul, Nat.reduceLT, Nat.reduceLeDiff, Nat.reduceEqDiff, Nat.reduceBEq, Int.reduceAdd, Int.reduceSub, Int.reduceMul, Int.reduceNeg, Int.reduceLE, Int.reduceLT, Int.reduceEq, Int.reduceNe, Int.reduceToNat, ↓reduceIte, reduceCtorEq, implies_true, forall_const, eq_self, ne_eq, wtAll, Try.ntmps25, Try.results25, hh_i5, hh_i7]) ?_ | refine HSub_drop2 (by simp only [eq_self, hh_i5, hh_i7]) ?_ | refine HSub_keep_eq (by simp only [vsAll, binA, binLitA, intA, aggA, boolA, nilA2, isConst, unA, loadA, loadRow, partA, partOk, fieldAddrA, indexAddrA, indexA, fieldA, extractA, lenA, nilCheckA, boxA, cellA, cellsA, fillA, okParts, buildSliceA, buildMutA, makeSliceA, partIdx, elemsA, lensA, ifaceA, convA, mmA, pickA, okAll, stAll, opsA, partsA, partsOk, opA, allocA, boxMutA, newCells, okCells, storeObj, appendA, guardV, taA, nM, mapUpA, lookA, sliceA, boundsA, opO, okO, copyA, dstOk, nilA, quietOk, nilSliceOp, panA, resA, argFr, retA.eq_1, retA.eq_2, Nat.reduceAdd, Nat.reduceSub, Nat.reduceMul, Nat.reduceLT, Nat.reduceLeDiff, Nat.reduceEqDiff, Nat.reduceBEq, Int.reduceAdd, Int.reduceSub, Int.reduceMul, Int.reduceNeg, Int.reduceLE, Int.reduceLT, Int.reduceEq, Int.reduceNe, Int.reduceToNat, ↓reduceIte, reduceCtorEq, implies_true, forall_const, eq_self, ne_eq, wtAll, Try.ntmps25, Try.results25, hh_i5, hh_i7]) ?_)))
          simp only [eq_self, ev, e]
    · have e : likE x s = 10 := by unfold likE; rw [hv]; exact errE_clash hk hl
      have ev : likV x s = 0 := by simp only [likV, e]; rfl
      simp only [vsAll]
      refine ⟨10, i5, _, rfl, rfl, by simp only [vsAll, ↓reduceIte, eq_self]; try rfl, ?_⟩
      simp only [vsAll, loadA, loadRow, partA, partOk, resA, retA.eq_2, Nat.reduceLT, Nat.reduceEqDiff, ↓reduceIte, eq_self, wtAll, Try.results25]
      refine dropR_pure ?_ (by (repeat (first | exact HSub_rfl | refine HSub_put_eq (by simp only [vsAll, binA, binLitA, intA, aggA, boolA, nilA2, isConst, unA, loadA, loadRow, partA, partOk, fieldAddrA, indexAddrA, indexA, fieldA, extractA, lenA, nilCheckA, boxA, cellA, cellsA, fillA, okParts, buildSliceA, buildMutA, makeSliceA, partIdx, elemsA, lensA, ifaceA, convA, mmA, pickA, okAll, stAll, opsA, partsA, partsOk, opA, allocA, boxMutA, newCells, okCells, storeObj, appendA, guardV, taA, nM, mapUpA, lookA, sliceA, boundsA, opO, okO, copyA, dstOk, nilA, quietOk, nilSliceOp, panA, resA, argFr, retA.eq_1, retA.eq_2, Nat.reduceAdd, Nat.reduceSub, Nat.reduceMul, Nat.reduceLT, Nat.reduceLeDiff, Nat.reduceEqDiff, Nat.reduceBEq, Int.reduceAdd, Int.reduceSub, Int.reduceMul, Int.reduceNeg, Int.reduceLE, Int.reduceLT, Int.reduceEq, Int.reduceNe, Int.reduceToNat, ↓reduceIte, reduceCtorEq, implies_true, forall_const, eq_self, ne_eq, wtAll, Try.ntmps25, Try.results25, hh_i5]) ?_ | refine HSub_drop2 (by simp only [eq_self, hh_i5]) ?_ | refine HSub_keep_eq (by simp only [vsAll, binA, binLitA, intA, aggA, boolA, nilA2, isConst, unA, loadA, loadRow, partA, partOk, fieldAddrA, indexAddrA, indexA, fieldA, extractA, lenA, nilCheckA, boxA, cellA, cellsA, fillA, okParts, buildSliceA, buildMutA, makeSliceA, partIdx, elemsA, lensA, ifaceA, convA, mmA, pickA, okAll, stAll, opsA, partsA, partsOk, opA, allocA, boxMutA, newCells, okCells, storeObj, appendA, guardV, taA, nM, mapUpA, lookA, sliceA, boundsA, opO, okO, copyA, dstOk, nilA, quietOk, nilSliceOp, panA, resA, argFr, retA.eq_1, retA.eq_2, Nat.reduceAdd, Nat.reduceSub, Nat.reduceMul, Nat.reduceLT, Nat.reduceLeDiff, Nat.reduceEqDiff, Nat.reduceBEq, Int.reduceAdd, Int.reduceSub, Int.reduceMul, Int.reduceNeg, Int.reduceLE, Int.reduceLT, Int.reduceEq, Int.reduceNe, Int.reduceToNat, ↓reduceIte, reduceCtorEq, implies_true, forall_const, eq_self, ne_eq, wtAll, Try.ntmps25, Try.results25, hh_i5]) ?_)))
      simp only [eq_self, ev, e, Int.natCast_zero]
end Go.Proofs.Ytkonoggmdcdeeaa
end
section
set_option linter.unusedVariables false
set_option linter.unusedSimpArgs false
namespace Go.V
/-- What one cell holds. -/
inductive CK where
  | int (k : IntKind)
  | bool
  | sl (ks : List CK)

/-- The cells of a type. -/
def cellsT (P : Program) : Nat → TypeId → Option (List CK)
  | 0, _ => none
  | d + 1, t => match P.underlying t with
    | some .bool => some [.bool]
    | some (.int k) => some [.int k]
    | some (.slice e) => match cellsT P d e with
      | some ks => if P.cellsOf e = ks.length ∧ 0 < ks.length then some [.sl ks] else none
      | none => none
    | some (.array n e) => match cellsT P d e with
      | some ks => if P.cellsOf e = ks.length ∧ P.cellsOf t = n * ks.length then some ((List.replicate n ks).flatten) else none
      | none => none
    | some (.struct fs) => match fs.toList.foldl (fun acc f => match acc with
        | some ks => match cellsT P d f.type with
          | some l => if f.offset = ks.length ∧ P.cellsOf f.type = l.length then some (ks ++ l) else none
          | none => none
        | none => none) (some []) with
      | some ks => if P.cellsOf t = ks.length then some ks else none
      | none => none
    | _ => none

/-- Such an abstract value. -/
inductive CKA : CK → AV → Prop
  | int {k : IntKind} {z : Int} (h : (Lit.int k z).wf = true) : CKA (.int k) (.lit (.int k z))
  | bool {b : Bool} : CKA .bool (.lit (.bool b))
  | sl {ks : List CK} {n : Nat} {f : Nat → List AV} (hn : n ≤ maxLen) (hl : ∀ i, i < n → (f i).length = ks.length) (h : ∀ i j k, i < n → ks[j]? = some k → CKA k ((f i).getD j .any)) : CKA (.sl ks) (.rsl n ks.length f)

def CellIs (W : World) (k : CK) (v : Value) : Prop := ∃ av, CKA k av ∧ VRel (st0 W) av v
def CellsOk (W : World) (ks : List CK) (cs : List Value) : Prop := cs.length = ks.length ∧ ∀ (i : Nat) (k : CK) (v : Value), ks[i]? = some k → cs[i]? = some v → CellIs W k v

theorem CellsOk.append {W : World} {ks ls : List CK} {cs ds : List Value} (h : CellsOk W ks cs) (h' : CellsOk W ls ds) : CellsOk W (ks ++ ls) (cs ++ ds) := by
  refine ⟨by simp [h.1, h'.1], fun i k v hk hv => ?_⟩
  by_cases hi : i < ks.length
  · rw [List.getElem?_append_left hi] at hk
    rw [List.getElem?_append_left (by rw [h.1]; exact hi)] at hv
    exact h.2 i k v hk hv
  · rw [List.getElem?_append_right (by omega)] at hk
    rw [List.getElem?_append_right (by rw [h.1]; omega), h.1] at hv
    exact h'.2 _ k v hk hv

theorem trod_cells {H : Type} {enc : TypeId × Value → H} {P : Program} {W : World} {held : Bool} {sp : Nat → Bool} :
    ∀ (d fuel : Nat) (t : TypeId) (cs : List Value) (x : DataW H × List MemPlace) (ks : List CK), cellsT P d t = some ks → DataW.trod enc P W 0 sp held fuel t cs = some x → CellsOk W ks cs := by
  intro d
  induction d with
  | zero => intro fuel t cs x ks hg; cases hg
  | succ d ih =>
    intro fuel t cs x ks hg h
    cases fuel with
    | zero => cases h
    | succ fuel =>
      unfold cellsT at hg
      unfold DataW.trod at h
      cases hu : P.underlying t with
      | none => rw [hu] at hg; cases hg
      | some td =>
        rw [hu] at hg h
        cases td <;> simp only at hg <;> try (cases hg; done)
        case bool =>
          cases hg
          split at h <;> simp_all
          rename_i b
          exact ⟨rfl, fun i k v hk hv => by cases i <;> simp at hk hv; subst hk hv; exact ⟨_, .bool, .lit _⟩⟩
        case int k =>
          cases hg
          split at h <;> simp_all
          rename_i n hh
          exact ⟨rfl, fun i k v hk hv => by cases i <;> simp at hk hv; subst hk hv; exact ⟨_, .int h.1.2, .lit _⟩⟩
        case array n e =>
          cases hke : cellsT P d e with
          | none => rw [hke] at hg; cases hg
          | some lk =>
            rw [hke] at hg
            simp only at hg
            by_cases hc : P.cellsOf e = lk.length ∧ P.cellsOf t = n * lk.length
            case neg => rw [if_neg hc] at hg; cases hg
            rw [if_pos hc] at hg
            cases hg
            split at h <;> try (simp_all; done)
            case _ n' e' heq =>
              simp only [Option.some.injEq, TypeDesc.array.injEq] at heq
              obtain ⟨rfl, rfl⟩ := heq
              split at h
              case isFalse hl => cases h
              case isTrue hl =>
                rw [Option.map_eq_some_iff] at h
                obtain ⟨ys, hy, rfl⟩ := h
                have key : ∀ (c : List Value), (∀ i, i < n → ∃ y, DataW.trod enc P W 0 sp held fuel e ((c.drop (i * P.cellsOf e)).take (P.cellsOf e)) = some y) → ∀ m, m ≤ n → CellsOk W (List.replicate m lk).flatten (c.take (m * lk.length)) := by
                  intro c hcy m
                  induction m with
                  | zero => intro _; exact ⟨by simp, fun i k v hk => by simp at hk⟩
                  | succ m ihm =>
                    intro hm
                    have h0 := ihm (by omega)
                    obtain ⟨y, h2⟩ := hcy m (by omega)
                    have h3 := ih fuel e _ y lk hke h2
                    rw [hc.1] at h3
                    have := h0.append h3
                    rw [List.replicate_succ', List.flatten_append, Nat.succ_mul, List.take_add]
                    simpa using this
                have := key _ (fun i hi => by
                  obtain ⟨y, _, h2⟩ := (mapM_get _ _ hy).2 i i (by simp [hi])
                  exact ⟨y, h2⟩) n (Nat.le_refl _)
                rw [List.take_of_length_le (by rw [hl, hc.2]; exact Nat.le_refl _)] at this
                exact this
        case slice e =>
          cases hke : cellsT P d e with
          | none => rw [hke] at hg; cases hg
          | some lk =>
            rw [hke] at hg
            simp only at hg
            by_cases hc : P.cellsOf e = lk.length ∧ 0 < lk.length
            case neg => rw [if_neg hc] at hg; cases hg
            rw [if_pos hc] at hg
            cases hg
            obtain ⟨hsz, hpos⟩ := hc
            split at h <;> try (simp_all; done)
            · rename_i heq
              refine ⟨rfl, fun i k v hk hv => ?_⟩
              cases i <;> simp at hk hv
              subst hk hv
              exact ⟨.rsl 0 lk.length fun _ => [], .sl (Nat.zero_le _) (fun i hi => by omega) (fun i j k hi => by omega), .rsl0⟩
            · rename_i e' a len cap heq
              simp only [Option.some.injEq, TypeDesc.slice.injEq] at heq
              subst heq
              simp only at h
              split at h
              case isFalse hl => cases h
              case isTrue hl =>
                rw [Option.bind_eq_some_iff] at h
                obtain ⟨es, he, -⟩ := h
                let g : Nat → List Value := fun i => match W.cells? 0 (a.add (i * P.cellsOf e)) (P.cellsOf e) with
                  | some c => c
                  | none => []
                have hel : ∀ i, i < len → W.cells? 0 (a.add (i * P.cellsOf e)) (P.cellsOf e) = some (g i) ∧ CellsOk W lk (g i) := by
                  intro i hi
                  obtain ⟨y, _, hy⟩ := (mapM_get _ _ he).2 i i (by simp [hi])
                  rw [Option.bind_eq_some_iff] at hy
                  obtain ⟨c, h1, h2⟩ := hy
                  have : g i = c := by simp only [g, h1]
                  rw [this]
                  exact ⟨h1, ih fuel e c y lk hke h2⟩
                -- the abstract cells
                have hch : ∀ i j, ∃ av, i < len → j < lk.length → ∃ k v, lk[j]? = some k ∧ (g i)[j]? = some v ∧ CKA k av ∧ VRel (st0 W) av v := by
                  intro i j
                  by_cases hi : i < len
                  · by_cases hj : j < lk.length
                    · obtain ⟨l1, l2⟩ := (hel i hi).2
                      obtain ⟨av, c1, c2⟩ := l2 j lk[j] (g i)[j] (List.getElem?_eq_getElem hj) (List.getElem?_eq_getElem (by omega))
                      exact ⟨av, fun _ _ => ⟨_, _, List.getElem?_eq_getElem hj, List.getElem?_eq_getElem (by omega), c1, c2⟩⟩
                    · exact ⟨.any, fun _ x => absurd x hj⟩
                  · exact ⟨.any, fun x => absurd x hi⟩
                have hf := fun i => Classical.axiomOfChoice (hch i)
                obtain ⟨F, hF⟩ := Classical.axiomOfChoice hf
                have hget : ∀ i j, j < lk.length → ((List.range lk.length).map (F i)).getD j .any = F i j := fun i j hj => by
                  rw [List.getD_eq_getElem?_getD, List.getElem?_map, List.getElem?_range hj]; rfl
                refine ⟨rfl, fun i k v hk hv => ?_⟩
                cases i <;> simp at hk hv
                subst hk hv
                refine ⟨.rsl len lk.length fun i => (List.range lk.length).map (F i), .sl (Nat.le_trans hl.2.1 hl.2.2) (fun i hi => by simp) (fun i j k hi hk => ?_), ?_⟩
                · have hj := (List.getElem?_eq_some_iff.1 hk).1
                  rw [hget i j hj]
                  obtain ⟨k', v, h1, h2, h3, h4⟩ := hF i j hi hj
                  rw [hk] at h1; cases h1
                  exact h3
                by_cases h0 : len = 0
                · subst h0; exact .rsl0
                have hcell : ∀ i j, i < len → j < lk.length → ∃ u, (g i)[j]? = some u ∧ W.cell? ((a.add (i * P.cellsOf e)).add j) = some u := by
                  intro i j hi hj
                  have h1 := (hel i hi).1
                  unfold World.cells? at h1
                  rw [if_pos (Nat.zero_le _)] at h1
                  exact (mapM_get _ _ h1).2 j j (by simp [hsz, hj])
                obtain ⟨b, off, spot⟩ := a
                obtain ⟨u0, _, hc0⟩ := hcell 0 0 (by omega) hpos
                rw [show ((⟨b, off, spot⟩ : Addr).add (0 * P.cellsOf e)).add 0 = ⟨b, off, spot⟩ from by simp [Addr.add]] at hc0
                unfold World.cell? at hc0
                split at hc0
                case h_2 => cases hc0
                case h_1 c ct fz hb =>
                  have hspot : spot = none := by
                    cases spot with
                    | none => rfl
                    | some s => simp at hc0
                  subst hspot
                  have hadd : ∀ i j, (((⟨b, off, none⟩ : Addr).add (i * P.cellsOf e)).add j) = ⟨b, off + i * P.cellsOf e + j, none⟩ := fun i j => by rw [addr_add, addr_add]
                  have hall : ∀ i j, i < len → j < lk.length → ∃ u, (g i)[j]? = some u ∧ c[off + i * lk.length + j]? = some u := by
                    intro i j hi hj
                    obtain ⟨u, h1, h2⟩ := hcell i j hi hj
                    rw [hadd] at h2
                    unfold World.cell? at h2
                    simp only at hb
                    rw [show W.heap[(⟨b, off + i * P.cellsOf e + j, none⟩ : Addr).block]? = some (.cells c ct fz) from hb] at h2
                    simp only [Option.isSome_none, Bool.false_eq_true, if_false, hsz] at h2
                    exact ⟨u, h1, h2⟩
                  refine .rsl (c := c) (e := ct) (fz := fz) ?_ hb ?_ (fun i hi => by simp) fun i j hi hj => ?_
                  · exact (Array.getElem?_eq_some_iff.1 hb).1
                  · obtain ⟨u, _, h2⟩ := hall (len - 1) (lk.length - 1) (by omega) (by omega)
                    have := (Array.getElem?_eq_some_iff.1 h2).1
                    have e1 : len * lk.length = (len - 1) * lk.length + lk.length := by
                      obtain ⟨q, rfl⟩ : ∃ q, len = q + 1 := ⟨len - 1, by omega⟩
                      rw [Nat.add_sub_cancel, Nat.succ_mul]
                    omega
                  · obtain ⟨u, h1, h2⟩ := hall i j hi hj
                    obtain ⟨k', v, q1, q2, q3, q4⟩ := hF i j hi hj
                    rw [h1] at q2; cases q2
                    rw [hget i j hj, Array.getD_eq_getD_getElem?, h2]
                    exact q4
        case struct fs =>
          split at h <;> try (simp_all; done)
          case _ fs' heq =>
            simp only [Option.some.injEq, TypeDesc.struct.injEq] at heq
            subst heq
            split at h
            case isFalse hl => cases h
            case isTrue hl =>
              rw [Option.map_eq_some_iff] at h
              obtain ⟨ys, hy, rfl⟩ := h
              have key : ∀ (c : List Value) (l : List Field) (acc ks : List CK), (∀ f ∈ l, ∃ y, DataW.trod enc P W 0 sp held fuel f.type ((c.drop f.offset).take (P.cellsOf f.type)) = some y) → CellsOk W acc (c.take acc.length) →
                  l.foldl (fun acc f => match acc with
                    | some ks => match cellsT P d f.type with
                      | some l => if f.offset = ks.length ∧ P.cellsOf f.type = l.length then some (ks ++ l) else none
                      | none => none
                    | none => none) (some acc) = some ks → CellsOk W ks (c.take ks.length) := by
                intro c l
                induction l with
                | nil => intro acc ks _ ha he; simp at he; subst he; exact ha
                | cons f l ih2 =>
                  intro acc ks hf ha he
                  simp only [List.foldl_cons] at he
                  have hnone : ∀ l : List Field, l.foldl (fun acc f => match acc with
                    | some ks => match cellsT P d f.type with
                      | some l => if f.offset = ks.length ∧ P.cellsOf f.type = l.length then some (ks ++ l) else none
                      | none => none
                    | none => none) none = (none : Option (List CK)) := by
                    intro l; induction l with
                    | nil => rfl
                    | cons a l ih => simpa using ih
                  cases hl2 : cellsT P d f.type with
                  | none => rw [hl2] at he; simp only at he; rw [hnone] at he; cases he
                  | some lk =>
                    rw [hl2] at he
                    simp only at he
                    by_cases hc : f.offset = acc.length ∧ P.cellsOf f.type = lk.length
                    · rw [if_pos hc] at he
                      obtain ⟨y, hy⟩ := hf f (by simp)
                      have := ih fuel f.type _ y lk hl2 hy
                      rw [hc.1, hc.2] at this
                      have hap := ha.append this
                      refine ih2 (acc ++ lk) ks (fun g hg => hf g (by simp [hg])) ?_ he
                      rw [List.length_append, List.take_add]
                      exact hap
                    · rw [if_neg hc, hnone] at he; cases he
              split at hg
              case h_2 => cases hg
              case h_1 ks' he =>
                split at hg
                case isFalse => cases hg
                case isTrue hc =>
                  cases hg
                  have := key _ fs.toList [] ks (fun f hf => by
                    obtain ⟨i, hi⟩ := List.getElem?_of_mem hf
                    obtain ⟨y, _, h2⟩ := (mapM_get _ _ hy).2 i f hi
                    exact ⟨y, h2⟩) ⟨by simp, fun i k v hk => by simp at hk⟩ he
                  rw [List.take_of_length_le (by rw [hl, hc]; exact Nat.le_refl _)] at this
                  exact this

end Go.V
end
section
set_option linter.unusedVariables false
set_option linter.unusedSimpArgs false
namespace Go.V
open Go.ChangeShapes
theorem AV.Le.rslD {n st : Nat} {f g : Nat → List AV} (h : ∀ i, i < n → (g i).length = st ∧ ∀ j, j < st → AV.Le ((f i).getD j .any) ((g i).getD j .any)) : AV.Le (.rsl n st f) (.rsl n st g) := by
  intro S v hv
  cases hv with
  | rsl0 => exact .rsl0
  | rsl hi hb hsz hf hh => exact .rsl hi hb hsz (fun i hi => (h i hi).1) fun i j hi hj => (h i hi).2 j hj _ _ (hh i j hi hj)
theorem AV.Le.aggD {cs ds : List AV} (hl : ds.length = cs.length) (h : ∀ j, j < cs.length → AV.Le (cs.getD j .any) (ds.getD j .any)) : AV.Le (.agg cs) (.agg ds) := by
  intro S v hv
  cases hv with
  | agg hn hh => exact .agg (hn.trans hl.symm) fun k hk => h k (by omega) _ _ (hh k (by omega))

/-- Cells that are told. -/
def Told (ks : List CK) (cs : List AV) : Prop := cs.length = ks.length ∧ ∀ j k, ks[j]? = some k → CKA k (cs.getD j .any)

/-- A struct that is handed in. -/
theorem trod_agg {H : Type} {enc : TypeId × Value → H} {P : Program} {W : World} {held : Bool} {sp : Nat → Bool} {t dd : Nat} {v : Value} {d : DataW H} {ps : List MemPlace} {ks : List CK}
    (hk : cellsT P dd t = some ks) (hn : 2 ≤ ks.length) (h : DataW.Trod enc P W 0 sp held t v d ps) : ∃ cs : List AV, Told ks cs ∧ VRel (st0 W) (.agg cs) v := by
  obtain ⟨fuel, h⟩ := h
  obtain ⟨hl, hz⟩ := trod_cells dd fuel t _ _ ks hk h
  cases v with
  | agg vs =>
    simp only [Value.cells] at hl hz
    have hl2 : vs.size = ks.length := by simpa using hl
    have hch : ∀ j : Nat, ∃ av : AV, ∀ (k : CK) (u : Value), ks[j]? = some k → vs[j]? = some u → CKA k av ∧ VRel (st0 W) av u := fun j => by
      cases hkj : ks[j]? with
      | none => exact ⟨.any, fun k u h => by cases h⟩
      | some k =>
        cases hvj : vs[j]? with
        | none => exact ⟨.any, fun k u _ h => by cases h⟩
        | some u =>
          obtain ⟨av, h1, h2⟩ := hz j k u hkj (by simpa using hvj)
          exact ⟨av, fun k' u' e1 e2 => by cases e1; cases e2; exact ⟨h1, h2⟩⟩
    obtain ⟨F, hF⟩ := Classical.axiomOfChoice hch
    have hget : ∀ j, j < ks.length → ((List.range ks.length).map F).getD j .any = F j := fun j hj => by
      rw [List.getD_eq_getElem?_getD, List.getElem?_map, List.getElem?_range hj]; rfl
    refine ⟨(List.range ks.length).map F, ⟨by simp, fun j k hk => ?_⟩, .agg (by simpa using hl2) fun j hj => ?_⟩
    · have hj := (List.getElem?_eq_some_iff.1 hk).1
      rw [hget j hj]
      exact (hF j k vs[j] hk (by simp [show j < vs.size by omega])).1
    · have hj : j < ks.length := by simpa using hj
      rw [hget j hj, Array.getD_eq_getD_getElem?, Array.getElem?_eq_getElem (by omega)]
      exact (hF j ks[j] vs[j] (List.getElem?_eq_getElem hj) (by simp [show j < vs.size by omega])).2
  | _ => simp [Value.cells] at hl; omega
/-- A slice of what can be told. -/
theorem told_slice {α : Type} {ks : List CK} (en : α → List AV) (d0 : α) (hd : ∀ cs, Told ks cs → ∃ x : α, (en x).length = ks.length ∧ ∀ j, j < ks.length → AV.Le (cs.getD j .any) ((en x).getD j .any)) {av : AV} (h : CKA (.sl ks) av) :
    ∃ l : List α, l.length ≤ maxLen ∧ AV.Le av (.rsl l.length ks.length fun i => en (l.getD i d0)) := by
  cases h with
  | @sl _ n f hn hl hh =>
    have hch : ∀ i, ∃ x : α, i < n → (en x).length = ks.length ∧ ∀ j, j < ks.length → AV.Le ((f i).getD j .any) ((en x).getD j .any) := fun i => by
      by_cases hi : i < n
      · obtain ⟨x, h1⟩ := hd (f i) ⟨hl i hi, fun j k hk => hh i j k hi hk⟩
        exact ⟨x, fun _ => h1⟩
      · exact ⟨d0, fun x => absurd x hi⟩
    obtain ⟨F, hF⟩ := Classical.axiomOfChoice hch
    refine ⟨(List.range n).map F, by simpa using hn, ?_⟩
    rw [List.length_map, List.length_range]
    refine AV.Le.rslD fun i hi => ?_
    have e : ((List.range n).map F).getD i d0 = F i := by
      rw [List.getD_eq_getElem?_getD, List.getElem?_map, List.getElem?_range hi]; rfl
    rw [e]
    exact hF i hi
theorem told_int {cs : List AV} {k : IntKind} (j : Nat) {ks : List CK} (h : Told ks cs) (hk : ks[j]? = some (.int k)) : ∃ z : Int, cs.getD j .any = .lit (.int k z) ∧ (Lit.int k z).wf = true := by
  have := h.2 j _ hk
  generalize cs.getD j .any = x at *
  cases this with
  | int hw => exact ⟨_, rfl, hw⟩
theorem told_bool {cs : List AV} (j : Nat) {ks : List CK} (h : Told ks cs) (hk : ks[j]? = some .bool) : ∃ b : Bool, cs.getD j .any = .lit (.bool b) := by
  have := h.2 j _ hk
  generalize cs.getD j .any = x at *
  cases this with
  | bool => exact ⟨_, rfl⟩

end Go.V
end
section
set_option linter.unusedVariables false
set_option linter.unusedSimpArgs false
set_option maxHeartbeats 4000000
set_option maxRecDepth 100000
namespace Go.Proofs.Ytkonoggmdcdeeaa
open Go.V
def farO (x : Ir) : Nat → Int
  | 0 => max (max (max (x.ow.length : Int) x.mo.length) x.st.length) x.cl.length
  | i + 1 => max (farO x i) (x.ow.getD i []).length
def farS (x : Ir) : Nat → Int
  | 0 => farO x x.ow.length
  | i + 1 => max (farS x i) (x.st.getD i []).length
def farB (x : Ir) : Bool := decide (40 < farS x x.st.length)
theorem far_tri (x : Ir) (H : Hp) (hO : x.ow.length < 2 ^ 63) (hS : x.st.length < 2 ^ 63) : PTri Try.prog (fnA 35) [x.av] H (boo (farB x)) := by
  refine tri_v0 (fun _ => false) Try.func35 (by kernel_rfl) rfl (by simp only [List.length_append, List.length_cons, List.length_nil, Try.ntmps35]; decide) ?_
  simp only [vsAll, loadA, loadRow, partA, partOk, fieldAddrA, lenA, boxA, mmA, okAll, stAll, opsA, opA, dstOk, nilSliceOp, argFr, Nat.reduceAdd, Nat.reduceLT, Nat.reduceEqDiff, ↓reduceIte, eq_self, wtAll, Try.ntmps35]
  refine vs_loop (σ := Nat) (fun i => i ≤ x.ow.length) (fun i => [(1, .rptr 1 5 (fun _ => x.cs) 0 0), (3, i64 (farO x i)), (22, llAV x.ow), (23, i64 x.ow.length), (24, i64 i)]) (fun _ => H) (fun i => x.ow.length - i) 0 (by omega) ?_ (HSub.refl _) fun i hi => ?_
  · simp only [vsAll, Nat.reduceEqDiff, ↓reduceIte, eq_self, Int.natCast_zero, farO]
  · simp only [vsAll, binA, binLitA, intA, opA, dstOk, Nat.reduceLT, Nat.reduceEqDiff, ↓reduceIte, eq_self]
    refine condD (fun hd => ?_) (fun hd => ?_)
    · simp only [vsAll, binA, binLitA, intA, loadA, loadRow, partA, partOk, indexAddrA, lenA, mmA, okAll, stAll, opsA, opA, dstOk, nilSliceOp, Nat.reduceLT, Nat.reduceEqDiff, ↓reduceIte, eq_self, wtAll, llF_at]
      refine ⟨by omega, by omega, by simp only [InR_i64]; omega, loop_next (i + 1) (by omega) (by omega) ?_ (HSub.refl _)⟩
      simp only [vsAll, Nat.reduceEqDiff, ↓reduceIte, eq_self, Int.natCast_add, Int.natCast_one, farO]
    · have ei : i = x.ow.length := by omega
      subst ei
      simp only [vsAll, loadA, loadRow, partA, partOk, fieldAddrA, lenA, opA, dstOk, Nat.reduceLT, Nat.reduceEqDiff, ↓reduceIte, eq_self, wtAll]
      refine vs_loop (σ := Nat) (fun i => i ≤ x.st.length) (fun i => [(3, i64 (farS x i)), (34, stAV x.st), (35, i64 x.st.length), (36, i64 i)]) (fun _ => H) (fun i => x.st.length - i) 0 (by omega) ?_ (HSub.refl _) fun i hi => ?_
      · simp only [vsAll, Nat.reduceEqDiff, ↓reduceIte, eq_self, Int.natCast_zero, farS]
      · simp only [vsAll, binA, binLitA, intA, opA, dstOk, Nat.reduceLT, Nat.reduceEqDiff, ↓reduceIte, eq_self]
        refine condD (fun hd => ?_) (fun hd => ?_)
        · simp only [vsAll, binA, binLitA, intA, loadA, loadRow, partA, partOk, indexAddrA, lenA, mmA, okAll, stAll, opsA, opA, dstOk, nilSliceOp, Nat.reduceLT, Nat.reduceEqDiff, ↓reduceIte, eq_self, wtAll, stF_at]
          refine ⟨by omega, by omega, by simp only [InR_i64]; omega, loop_next (i + 1) (by omega) (by omega) ?_ (HSub.refl _)⟩
          simp only [vsAll, Nat.reduceEqDiff, ↓reduceIte, eq_self, Int.natCast_add, Int.natCast_one, farS]
        · have ei : i = x.st.length := by omega
          subst ei
          simp only [vsAll, binA, binLitA, intA, opA, dstOk, nilSliceOp, resA, retA.eq_1, Nat.reduceLT, Nat.reduceEqDiff, ↓reduceIte, eq_self, Try.results35]
          rfl
theorem farO_le (x : Ir) (i : Nat) : (x.ow.length : Int) ≤ farO x i ∧ (x.mo.length : Int) ≤ farO x i ∧ (x.st.length : Int) ≤ farO x i ∧ (x.cl.length : Int) ≤ farO x i ∧ ∀ j, j < i → ((x.ow.getD j []).length : Int) ≤ farO x i := by
  induction i with
  | zero => exact ⟨by simp only [farO]; omega, by simp only [farO]; omega, by simp only [farO]; omega, by simp only [farO]; omega, fun j hj => absurd hj (by omega)⟩
  | succ i ih =>
    obtain ⟨h1, h2, h3, h4, h5⟩ := ih
    simp only [farO]
    refine ⟨by omega, by omega, by omega, by omega, fun j hj => ?_⟩
    by_cases e : j = i
    · subst e; omega
    · have := h5 j (by omega); omega
theorem farS_le (x : Ir) (i : Nat) : farO x x.ow.length ≤ farS x i ∧ ∀ j, j < i → ((x.st.getD j []).length : Int) ≤ farS x i := by
  induction i with
  | zero => exact ⟨Int.le_refl _, fun j hj => absurd hj (by omega)⟩
  | succ i ih =>
    obtain ⟨h1, h2⟩ := ih
    simp only [farS]
    refine ⟨by omega, fun j hj => ?_⟩
    by_cases e : j = i
    · subst e; omega
    · have := h2 j (by omega); omega
theorem far_near {x : Ir} (h : farB x = false) : Near x := by
  have h0 := of_decide_eq_false h
  obtain ⟨h1, h2⟩ := farS_le x x.st.length
  obtain ⟨q1, q2, q3, q4, q5⟩ := farO_le x x.ow.length
  exact ⟨by omega, by omega, by omega, by omega, fun i hi => by have := q5 i hi; omega, fun i hi => by have := h2 i hi; omega⟩

def hvB (x : Ir) (most : Nat) : Bool := if (farB x || !decide (Ok x)) = true then farB x else decide (most < (max 1 x.ow.length) ^ x.st.length)
theorem mark_tri (a b c : Int) (H : Hp) : PTri Try.prog (fnA 40) [i64 a, i64 b, i64 c] H (.agg [i64 a, i64 b, i64 c]) := by
  refine tri_vs (m := fun _ => false) Try.func40 (by kernel_rfl) rfl (by simp only [List.length_append, List.length_cons, List.length_nil, Try.ntmps40]; decide) ?_
  simp only [vsAll, cellA, cellsA, fillA, okParts, partsA, partsOk, opA, allocA, newCells, okCells, storeObj, dstOk, argFr, Nat.reduceAdd, Nat.reduceLT, Nat.reduceLeDiff, Nat.reduceEqDiff, ↓reduceIte, reduceCtorEq, eq_self, wtAll, Try.ntmps40]
  intro i4 hh_i4; (try simp only [Hp.set_none, ite_none] at hh_i4)
  refine ret0 ?_
  simp only [vsAll, loadA, loadRow, partA, partOk, resA, retA.eq_1, Nat.reduceLT, Nat.reduceEqDiff, ↓reduceIte, eq_self, wtAll, Try.results40]
  exact dropR_pure rfl (by (repeat (first | exact HSub_rfl | refine HSub_put_eq (by simp only [vsAll, binA, binLitA, intA, aggA, boolA, nilA2, isConst, unA, loadA, loadRow, partA, partOk, fieldAddrA, indexAddrA, indexA, fieldA, extractA, lenA, nilCheckA, boxA, cellA, cellsA, fillA, okParts, buildSliceA, buildMutA, makeSliceA, partIdx, elemsA, lensA, ifaceA, convA, mmA, pickA, okAll, stAll, opsA, partsA, partsOk, opA, allocA, boxMutA, newCells, okCells, storeObj, appendA, guardV, taA, nM, mapUpA, lookA, sliceA, boundsA, opO, okO, copyA, dstOk, nilA, quietOk, nilSliceOp, panA, resA, argFr, retA.eq_1, retA.eq_2, Nat.reduceAdd, Nat.reduceSub, Nat.reduceMul, Nat.reduceLT, Nat.reduceLeDiff, Nat.reduceEqDiff, Nat.reduceBEq, Int.reduceAdd, Int.reduceSub, Int.reduceMul, Int.reduceNeg, Int.reduceLE, Int.reduceLT, Int.reduceEq, Int.reduceNe, Int.reduceToNat, ↓reduceIte, reduceCtorEq, implies_true, forall_const, eq_self, ne_eq, wtAll, Try.ntmps40, Try.results40, hh_i4]) ?_ | refine HSub_drop2 (by simp only [eq_self, hh_i4]) ?_ | refine HSub_keep_eq (by simp only [vsAll, binA, binLitA, intA, aggA, boolA, nilA2, isConst, unA, loadA, loadRow, partA, partOk, fieldAddrA, indexAddrA, indexA, fieldA, extractA, lenA, nilCheckA, boxA, cellA, cellsA, fillA, okParts, buildSliceA, buildMutA, makeSliceA, partIdx, elemsA, lensA, ifaceA, convA, mmA, pickA, okAll, stAll, opsA, partsA, partsOk, opA, allocA, boxMutA, newCells, okCells, storeObj, appendA, guardV, taA, nM, mapUpA, lookA, sliceA, boundsA, opO, okO, copyA, dstOk, nilA, quietOk, nilSliceOp, panA, resA, argFr, retA.eq_1, retA.eq_2, Nat.reduceAdd, Nat.reduceSub, Nat.reduceMul, Nat.reduceLT, Nat.reduceLeDiff, Nat.reduceEqDiff, Nat.reduceBEq, Int.reduceAdd, Int.reduceSub, Int.reduceMul, Int.reduceNeg, Int.reduceLE, Int.reduceLT, Int.reduceEq, Int.reduceNe, Int.reduceToNat, ↓reduceIte, reduceCtorEq, implies_true, forall_const, eq_self, ne_eq, wtAll, Try.ntmps40, Try.results40, hh_i4]) ?_)))
theorem lhis_tri (a b : Int) (H : Hp) : PTri Try.prog (fnA 73) [i64 a, i64 b] H (.agg [i64 a, i64 b, boo false]) := by
  refine tri_vs (m := fun _ => false) Try.func73 (by kernel_rfl) rfl (by simp only [List.length_append, List.length_cons, List.length_nil, Try.ntmps73]; decide) ?_
  simp only [vsAll, cellA, cellsA, fillA, okParts, partsA, partsOk, opA, allocA, newCells, okCells, storeObj, dstOk, argFr, Nat.reduceAdd, Nat.reduceLT, Nat.reduceLeDiff, Nat.reduceEqDiff, ↓reduceIte, reduceCtorEq, eq_self, wtAll, Try.ntmps73]
  intro i4 hh_i4; (try simp only [Hp.set_none, ite_none] at hh_i4)
  refine ret0 ?_
  simp only [vsAll, loadA, loadRow, partA, partOk, resA, retA.eq_1, Nat.reduceLT, Nat.reduceEqDiff, ↓reduceIte, eq_self, wtAll, Try.results73]
  exact dropR_pure rfl (by (repeat (first | exact HSub_rfl | refine HSub_put_eq (by simp only [vsAll, binA, binLitA, intA, aggA, boolA, nilA2, isConst, unA, loadA, loadRow, partA, partOk, fieldAddrA, indexAddrA, indexA, fieldA, extractA, lenA, nilCheckA, boxA, cellA, cellsA, fillA, okParts, buildSliceA, buildMutA, makeSliceA, partIdx, elemsA, lensA, ifaceA, convA, mmA, pickA, okAll, stAll, opsA, partsA, partsOk, opA, allocA, boxMutA, newCells, okCells, storeObj, appendA, guardV, taA, nM, mapUpA, lookA, sliceA, boundsA, opO, okO, copyA, dstOk, nilA, quietOk, nilSliceOp, panA, resA, argFr, retA.eq_1, retA.eq_2, Nat.reduceAdd, Nat.reduceSub, Nat.reduceMul, Nat.reduceLT, Nat.reduceLeDiff, Nat.reduceEqDiff, Nat.reduceBEq, Int.reduceAdd, Int.reduceSub, Int.reduceMul, Int.reduceNeg, Int.reduceLE, Int.reduceLT, Int.reduceEq, Int.reduceNe, Int.reduceToNat, ↓reduceIte, reduceCtorEq, implies_true, forall_const, eq_self, ne_eq, wtAll, Try.ntmps73, Try.results73, hh_i4]) ?_ | refine HSub_drop2 (by simp only [eq_self, hh_i4]) ?_ | refine HSub_keep_eq (by simp only [vsAll, binA, binLitA, intA, aggA, boolA, nilA2, isConst, unA, loadA, loadRow, partA, partOk, fieldAddrA, indexAddrA, indexA, fieldA, extractA, lenA, nilCheckA, boxA, cellA, cellsA, fillA, okParts, buildSliceA, buildMutA, makeSliceA, partIdx, elemsA, lensA, ifaceA, convA, mmA, pickA, okAll, stAll, opsA, partsA, partsOk, opA, allocA, boxMutA, newCells, okCells, storeObj, appendA, guardV, taA, nM, mapUpA, lookA, sliceA, boundsA, opO, okO, copyA, dstOk, nilA, quietOk, nilSliceOp, panA, resA, argFr, retA.eq_1, retA.eq_2, Nat.reduceAdd, Nat.reduceSub, Nat.reduceMul, Nat.reduceLT, Nat.reduceLeDiff, Nat.reduceEqDiff, Nat.reduceBEq, Int.reduceAdd, Int.reduceSub, Int.reduceMul, Int.reduceNeg, Int.reduceLE, Int.reduceLT, Int.reduceEq, Int.reduceNe, Int.reduceToNat, ↓reduceIte, reduceCtorEq, implies_true, forall_const, eq_self, ne_eq, wtAll, Try.ntmps73, Try.results73, hh_i4]) ?_)))
theorem lother_tri (a b : Int) (H : Hp) : PTri Try.prog (fnA 74) [i64 a, i64 b] H (.agg [i64 a, i64 b, boo true]) := by
  refine tri_vs (m := fun _ => false) Try.func74 (by kernel_rfl) rfl (by simp only [List.length_append, List.length_cons, List.length_nil, Try.ntmps74]; decide) ?_
  simp only [vsAll, cellA, cellsA, fillA, okParts, partsA, partsOk, opA, allocA, newCells, okCells, storeObj, dstOk, argFr, Nat.reduceAdd, Nat.reduceLT, Nat.reduceLeDiff, Nat.reduceEqDiff, ↓reduceIte, reduceCtorEq, eq_self, wtAll, Try.ntmps74]
  intro i4 hh_i4; (try simp only [Hp.set_none, ite_none] at hh_i4)
  refine ret0 ?_
  simp only [vsAll, loadA, loadRow, partA, partOk, resA, retA.eq_1, Nat.reduceLT, Nat.reduceEqDiff, ↓reduceIte, eq_self, wtAll, Try.results74]
  exact dropR_pure rfl (by (repeat (first | exact HSub_rfl | refine HSub_put_eq (by simp only [vsAll, binA, binLitA, intA, aggA, boolA, nilA2, isConst, unA, loadA, loadRow, partA, partOk, fieldAddrA, indexAddrA, indexA, fieldA, extractA, lenA, nilCheckA, boxA, cellA, cellsA, fillA, okParts, buildSliceA, buildMutA, makeSliceA, partIdx, elemsA, lensA, ifaceA, convA, mmA, pickA, okAll, stAll, opsA, partsA, partsOk, opA, allocA, boxMutA, newCells, okCells, storeObj, appendA, guardV, taA, nM, mapUpA, lookA, sliceA, boundsA, opO, okO, copyA, dstOk, nilA, quietOk, nilSliceOp, panA, resA, argFr, retA.eq_1, retA.eq_2, Nat.reduceAdd, Nat.reduceSub, Nat.reduceMul, Nat.reduceLT, Nat.reduceLeDiff, Nat.reduceEqDiff, Nat.reduceBEq, Int.reduceAdd, Int.reduceSub, Int.reduceMul, Int.reduceNeg, Int.reduceLE, Int.reduceLT, Int.reduceEq, Int.reduceNe, Int.reduceToNat, ↓reduceIte, reduceCtorEq, implies_true, forall_const, eq_self, ne_eq, wtAll, Try.ntmps74, Try.results74, hh_i4]) ?_ | refine HSub_drop2 (by simp only [eq_self, hh_i4]) ?_ | refine HSub_keep_eq (by simp only [vsAll, binA, binLitA, intA, aggA, boolA, nilA2, isConst, unA, loadA, loadRow, partA, partOk, fieldAddrA, indexAddrA, indexA, fieldA, extractA, lenA, nilCheckA, boxA, cellA, cellsA, fillA, okParts, buildSliceA, buildMutA, makeSliceA, partIdx, elemsA, lensA, ifaceA, convA, mmA, pickA, okAll, stAll, opsA, partsA, partsOk, opA, allocA, boxMutA, newCells, okCells, storeObj, appendA, guardV, taA, nM, mapUpA, lookA, sliceA, boundsA, opO, okO, copyA, dstOk, nilA, quietOk, nilSliceOp, panA, resA, argFr, retA.eq_1, retA.eq_2, Nat.reduceAdd, Nat.reduceSub, Nat.reduceMul, Nat.reduceLT, Nat.reduceLeDiff, Nat.reduceEqDiff, Nat.reduceBEq, Int.reduceAdd, Int.reduceSub, Int.reduceMul, Int.reduceNeg, Int.reduceLE, Int.reduceLT, Int.reduceEq, Int.reduceNe, Int.reduceToNat, ↓reduceIte, reduceCtorEq, implies_true, forall_const, eq_self, ne_eq, wtAll, Try.ntmps74, Try.results74, hh_i4]) ?_)))
def smI (m : Int) : Ir := ⟨2, [[3, 5], [3, 7], [6, 5]], [m, 2, m], [[⟨0, 3, 3⟩], [⟨1, 5, 6⟩], []], [⟨0, 0, false⟩, ⟨1, 2, true⟩, ⟨1, 2, false⟩]⟩
theorem ret_le {P : Program} {fv : AV} {args : List AV} {H : Hp} {v v' : AV} (h : PTri P fv args H v) (hle : AV.Le v v') : PTri P fv args H v' := by
  intro S vf vs hH hvf ha
  obtain ⟨nx, h1, h2⟩ := h S vf vs hH hvf ha
  have ho : ∀ e w, Out S (fun r H' => r = .ret v ∧ H' = H) e w → Out S (fun r H' => r = .ret v' ∧ H' = H) e w := by
    rintro e w ⟨S', r, H', hw, hl, hH', hrr, rfl, rfl⟩
    refine ⟨S', .ret v', H', hw, hl, hH', ?_, rfl, rfl⟩
    cases e with
    | returned cv => exact hle S' cv hrr
    | panicked ch => exact hrr.elim
    | outgrown => exact hrr.elim
  refine ⟨nx, h1, ?_⟩
  cases nx <;> simp only [NextOk] at h2 ⊢
  · exact Calls.mono h2 ho
  · exact h2.mono ho
theorem sample_tri (m : Int) (H : Hp) : PTri Try.prog (fnA 42) [i64 m] H (smI m).av := by
  refine ret_le (v := .agg [i64 2, .rsl 3 1 (fun i => [[.rsl 2 1 (fun i => [[i64 3], [i64 5]].getD i [])], [.rsl 2 1 (fun i => [[i64 3], [i64 7]].getD i [])], [.rsl 2 1 (fun i => [[i64 6], [i64 5]].getD i [])]].getD i []),
    .rsl 3 1 (fun i => [[i64 m], [i64 2], [i64 m]].getD i []),
    .rsl 3 1 (fun i => [[.rsl 1 3 (fun i => [[i64 0, i64 3, i64 3]].getD i [])], [.rsl 1 3 (fun i => [[i64 1, i64 5, i64 6]].getD i [])], [.lit (.slice none 0 0)]].getD i []),
    .rsl 3 3 (fun i => [[i64 0, i64 0, boo false], [i64 1, i64 2, boo true], [i64 1, i64 2, boo false]].getD i [])]) ?_ ?_
  · refine tri_vs (m := fun _ => false) Try.func42 (by kernel_rfl) rfl (by simp only [List.length_append, List.length_cons, List.length_nil, Try.ntmps42]; decide) ?_
    simp only [vsAll, cellA, cellsA, okParts, buildSliceA, partIdx, elemsA, lensA, okAll, stAll, opsA, partsA, partsOk, opA, allocA, dstOk, argFr, Nat.reduceAdd, Nat.reduceMul, Nat.reduceLT, Nat.reduceLeDiff, Nat.reduceEqDiff, ↓reduceIte, reduceCtorEq, eq_self, wtAll, Try.ntmps42]
    intro i2 hh_i2; (try simp only [Hp.set_none, ite_none] at hh_i2)
    refine callK_pure (mark_tri 0 3 3 _) ?_
    simp only [vsAll, cellsA, okParts, buildSliceA, partIdx, elemsA, lensA, okAll, stAll, opsA, partsA, partsOk, opA, dstOk, Nat.reduceAdd, Nat.reduceMul, Nat.reduceLT, Nat.reduceLeDiff, ↓reduceIte, eq_self, wtAll]
    refine callK_pure (mark_tri 1 5 6 _) ?_
    simp only [vsAll, cellA, cellsA, okParts, buildSliceA, partIdx, elemsA, lensA, okAll, stAll, opsA, partsA, partsOk, opA, dstOk, Nat.reduceAdd, Nat.reduceMul, Nat.reduceLT, Nat.reduceLeDiff, Nat.reduceEqDiff, ↓reduceIte, eq_self, wtAll]
    refine callK_pure (lhis_tri 0 0 _) ?_
    simp only [vsAll, okAll, stAll, opsA, opA, dstOk, Nat.reduceLT]
    refine callK_pure (lother_tri 1 2 _) ?_
    simp only [vsAll, okAll, stAll, opsA, opA, dstOk, Nat.reduceLT]
    refine callK_pure (lhis_tri 1 2 _) ?_
    simp only [vsAll, cellA, cellsA, fillA, okParts, buildSliceA, partIdx, elemsA, lensA, partsA, partsOk, opA, newCells, okCells, storeObj, dstOk, Nat.reduceAdd, Nat.reduceMul, Nat.reduceLT, Nat.reduceLeDiff, Nat.reduceEqDiff, ↓reduceIte, eq_self, wtAll]
    refine ret0 ?_
    simp only [vsAll, loadA, loadRow, partA, partOk, resA, retA.eq_1, Nat.reduceLT, Nat.reduceEqDiff, ↓reduceIte, eq_self, wtAll, Try.results42]
    exact dropR_pure rfl (by (repeat (first | exact HSub_rfl | refine HSub_put_eq (by simp only [vsAll, binA, binLitA, intA, aggA, boolA, nilA2, isConst, unA, loadA, loadRow, partA, partOk, fieldAddrA, indexAddrA, indexA, fieldA, extractA, lenA, nilCheckA, boxA, cellA, cellsA, fillA, okParts, buildSliceA, buildMutA, makeSliceA, partIdx, elemsA, lensA, ifaceA, convA, mmA, pickA, okAll, stAll, opsA, partsA, partsOk, opA, allocA, boxMutA, newCells, okCells, storeObj, appendA, guardV, taA, nM, mapUpA, lookA, sliceA, boundsA, opO, okO, copyA, dstOk, nilA, quietOk, nilSliceOp, panA, resA, argFr, retA.eq_1, retA.eq_2, Nat.reduceAdd, Nat.reduceSub, Nat.reduceMul, Nat.reduceLT, Nat.reduceLeDiff, Nat.reduceEqDiff, Nat.reduceBEq, Int.reduceAdd, Int.reduceSub, Int.reduceMul, Int.reduceNeg, Int.reduceLE, Int.reduceLT, Int.reduceEq, Int.reduceNe, Int.reduceToNat, ↓reduceIte, reduceCtorEq, implies_true, forall_const, eq_self, ne_eq, wtAll, Try.ntmps42, Try.results42, hh_i2]) ?_ | refine HSub_drop2 (by simp only [eq_self, hh_i2]) ?_ | refine HSub_keep_eq (by simp only [vsAll, binA, binLitA, intA, aggA, boolA, nilA2, isConst, unA, loadA, loadRow, partA, partOk, fieldAddrA, indexAddrA, indexA, fieldA, extractA, lenA, nilCheckA, boxA, cellA, cellsA, fillA, okParts, buildSliceA, buildMutA, makeSliceA, partIdx, elemsA, lensA, ifaceA, convA, mmA, pickA, okAll, stAll, opsA, partsA, partsOk, opA, allocA, boxMutA, newCells, okCells, storeObj, appendA, guardV, taA, nM, mapUpA, lookA, sliceA, boundsA, opO, okO, copyA, dstOk, nilA, quietOk, nilSliceOp, panA, resA, argFr, retA.eq_1, retA.eq_2, Nat.reduceAdd, Nat.reduceSub, Nat.reduceMul, Nat.reduceLT, Nat.reduceLeDiff, Nat.reduceEqDiff, Nat.reduceBEq, Int.reduceAdd, Int.reduceSub, Int.reduceMul, Int.reduceNeg, Int.reduceLE, Int.reduceLT, Int.reduceEq, Int.reduceNe, Int.reduceToNat, ↓reduceIte, reduceCtorEq, implies_true, forall_const, eq_self, ne_eq, wtAll, Try.ntmps42, Try.results42, hh_i2]) ?_)))
  · have two : ∀ a b : Int, AV.Le (.rsl 2 1 (fun i => [[i64 a], [i64 b]].getD i [])) (intsAV [a, b]) := fun a b => AV.Le.rsl fun i hi => by
      match i, hi with
      | 0, _ => rfl
      | 1, _ => rfl
    have one : ∀ a b c : Int, AV.Le (.rsl 1 3 (fun i => [[i64 a, i64 b, i64 c]].getD i [])) (mksAV [⟨a, b, c⟩]) := fun a b c => AV.Le.rsl fun i hi => by
      match i, hi with
      | 0, _ => rfl
    refine AV.Le.aggD rfl fun j hj => ?_
    match j, hj with
    | 0, _ => exact AV.Le.refl _
    | 1, _ =>
      refine AV.Le.rslA (fun i hi => ?_) fun i hi j hj => ?_
      · match i, hi with
        | 0, _ => rfl
        | 1, _ => rfl
        | 2, _ => rfl
      · match i, hi, j, hj with
        | 0, _, 0, _ => exact two 3 5
        | 1, _, 0, _ => exact two 3 7
        | 2, _, 0, _ => exact two 6 5
    | 2, _ =>
      refine AV.Le.rsl fun i hi => ?_
      match i, hi with
      | 0, _ => rfl
      | 1, _ => rfl
      | 2, _ => rfl
    | 3, _ =>
      refine AV.Le.rslA (fun i hi => ?_) fun i hi j hj => ?_
      · match i, hi with
        | 0, _ => rfl
        | 1, _ => rfl
        | 2, _ => rfl
      · match i, hi, j, hj with
        | 0, _, 0, _ => exact one 0 3 3
        | 1, _, 0, _ => exact one 1 5 6
        | 2, _, 0, _ => exact AV.Le.nil 3 _
    | 4, _ =>
      refine AV.Le.rsl fun i hi => ?_
      match i, hi with
      | 0, _ => rfl
      | 1, _ => rfl
      | 2, _ => rfl
end Go.Proofs.Ytkonoggmdcdeeaa
end
section
set_option linter.unusedVariables false
set_option linter.unusedSimpArgs false
set_option maxHeartbeats 4000000
set_option maxRecDepth 100000
namespace Go.Proofs.Ytkonoggmdcdeeaa
open Go.V
theorem sm_ok : Ok (smI 1) ∧ Ok (smI 0) := by decide +kernel
theorem sm1 : ((fitsV (smI 1) 1 : Nat) : Int) = 5 := by decide +kernel
theorem sm2 : fitsE (smI 1) 1 = 0 := by decide +kernel
theorem sm3 : ((countV (smI 1) : Nat) : Int) = 5 := by decide +kernel
theorem sm4 : countE (smI 1) = 0 := by decide +kernel
theorem sm5 : ((canV (smI 1) 2 : Nat) : Int) = 7 := by decide +kernel
theorem sm6 : canE (smI 1) 2 = 0 := by decide +kernel
theorem sm7 : claimV (smI 1) 1 = 1 := by decide +kernel
theorem sm8 : claimE (smI 1) 1 = 0 := by decide +kernel
theorem sm9 : (((falseP (smI 1)).1 : Nat) : Int) = 1 := by decide +kernel
theorem sm10 : (((falseP (smI 1)).2 : Nat) : Int) = 2 := by decide +kernel
theorem sm11 : falseE (smI 1) = 0 := by decide +kernel
theorem sm12 : ((likV (smI 1) 2 : Nat) : Int) = 2 := by decide +kernel
theorem sm13 : likE (smI 1) 2 = 0 := by decide +kernel
theorem sm14 : ((setV (errE (smI 1) true true) (clashR (smI 1)) : Nat) : Int) = 3 := by decide +kernel
theorem sm15 : setE (errE (smI 1) true true) (clashR (smI 1)) = 0 := by decide +kernel
theorem sm16 : ((setV (errE (smI 0) true false) (shortR (smI 0)) : Nat) : Int) = 2 := by decide +kernel
theorem sm17 : setE (errE (smI 0) true false) (shortR (smI 0)) = 0 := by decide +kernel
theorem awake_tri (H : Hp) : PTri Try.prog (fnA 14) [] H (boo true) := by
  have k1 := sm_ok.1.near
  have k0 := sm_ok.2.near
  refine Tri.drop ?_
  refine tri_v0 (fun _ => false) Try.func14 (by kernel_rfl) rfl (by simp only [List.length_append, List.length_nil, Try.ntmps14]; decide) ?_
  simp only [vsAll, okAll, stAll, opsA, opA, dstOk, nilSliceOp, Nat.reduceLT, eq_self, Try.ntmps14]
  refine callK_pure (sample_tri 1 _) ?_
  simp only [vsAll, loadA, loadRow, partA, partOk, cellA, cellsA, okAll, stAll, opsA, opA, allocA, newCells, okCells, storeObj, dstOk, Nat.reduceAdd, Nat.reduceLT, Nat.reduceEqDiff, ↓reduceIte, eq_self, wtAll]
  intro i1 hh_i1; (try simp only [Hp.set_none, ite_none] at hh_i1)
  refine callK_pure (wfits_tri (smI 1) 1 _ k1) ?_
  simp only [vsAll, loadA, loadRow, partA, partOk, extractA, okAll, stAll, opsA, opA, dstOk, nilSliceOp, Nat.reduceAdd, Nat.reduceLT, Nat.reduceEqDiff, ↓reduceIte, eq_self, wtAll, sm1, sm2]
  refine callK_pure (wcount_tri (smI 1) _ k1) ?_
  simp only [vsAll, loadA, loadRow, partA, partOk, extractA, okAll, stAll, opsA, opA, dstOk, nilSliceOp, Nat.reduceAdd, Nat.reduceLT, Nat.reduceEqDiff, ↓reduceIte, eq_self, wtAll, sm3, sm4]
  refine callK_pure (wcan_tri (smI 1) 2 _ k1) ?_
  simp only [vsAll, loadA, loadRow, partA, partOk, extractA, okAll, stAll, opsA, opA, dstOk, nilSliceOp, Nat.reduceAdd, Nat.reduceLT, Nat.reduceEqDiff, ↓reduceIte, eq_self, wtAll, sm5, sm6]
  refine callK_pure (wclaim_tri (smI 1) 1 _ k1) ?_
  simp only [vsAll, loadA, loadRow, partA, partOk, extractA, okAll, stAll, opsA, opA, dstOk, nilSliceOp, Nat.reduceAdd, Nat.reduceLT, Nat.reduceEqDiff, ↓reduceIte, eq_self, wtAll, sm7, sm8]
  refine callK_pure (wfalse_tri (smI 1) _ k1) ?_
  simp only [vsAll, loadA, loadRow, partA, partOk, extractA, okAll, stAll, opsA, opA, dstOk, nilSliceOp, Nat.reduceAdd, Nat.reduceLT, Nat.reduceEqDiff, ↓reduceIte, eq_self, wtAll, sm9, sm10, sm11]
  refine callK_pure (wlikely_tri (smI 1) 2 _ k1) ?_
  simp only [vsAll, loadA, loadRow, partA, partOk, extractA, okAll, stAll, opsA, opA, dstOk, nilSliceOp, Nat.reduceAdd, Nat.reduceLT, Nat.reduceEqDiff, ↓reduceIte, eq_self, wtAll, sm12, sm13]
  refine callK_pure (wclash_tri (smI 1) _ k1) ?_
  simp only [vsAll, extractA, okAll, stAll, opsA, opA, dstOk, nilSliceOp, Nat.reduceAdd, Nat.reduceLT, Nat.reduceEqDiff, ↓reduceIte, eq_self, sm14, sm15]
  refine callK_pure (sample_tri 0 _) ?_
  simp only [vsAll, okAll, stAll, opsA, opA, dstOk, Nat.reduceLT, ↓reduceIte, eq_self]
  refine callK_pure (wshort_tri (smI 0) _ k0) ?_
  simp only [vsAll, binA, binLitA, intA, extractA, pickA, opA, guardV, dstOk, nilSliceOp, resA, retA.eq_1, Nat.reduceAdd, Nat.reduceLT, Nat.reduceEqDiff, ↓reduceIte, implies_true, eq_self, Try.results14, sm16, sm17]
  exact dropR_pure rfl (by (repeat (first | exact HSub_rfl | refine HSub_put_eq (by simp only [vsAll, binA, binLitA, intA, aggA, boolA, nilA2, isConst, unA, loadA, loadRow, partA, partOk, fieldAddrA, indexAddrA, indexA, fieldA, extractA, lenA, nilCheckA, boxA, cellA, cellsA, fillA, okParts, buildSliceA, buildMutA, makeSliceA, partIdx, elemsA, lensA, ifaceA, convA, mmA, pickA, okAll, stAll, opsA, partsA, partsOk, opA, allocA, boxMutA, newCells, okCells, storeObj, appendA, guardV, taA, nM, mapUpA, lookA, sliceA, boundsA, opO, okO, copyA, dstOk, nilA, quietOk, nilSliceOp, panA, resA, argFr, retA.eq_1, retA.eq_2, Nat.reduceAdd, Nat.reduceSub, Nat.reduceMul, Nat.reduceLT, Nat.reduceLeDiff, Nat.reduceEqDiff, Nat.reduceBEq, Int.reduceAdd, Int.reduceSub, Int.reduceMul, Int.reduceNeg, Int.reduceLE, Int.reduceLT, Int.reduceEq, Int.reduceNe, Int.reduceToNat, ↓reduceIte, reduceCtorEq, implies_true, forall_const, eq_self, ne_eq, wtAll, Try.ntmps14, Try.results14, hh_i1]) ?_ | refine HSub_drop2 (by simp only [eq_self, hh_i1]) ?_ | refine HSub_keep_eq (by simp only [vsAll, binA, binLitA, intA, aggA, boolA, nilA2, isConst, unA, loadA, loadRow, partA, partOk, fieldAddrA, indexAddrA, indexA, fieldA, extractA, lenA, nilCheckA, boxA, cellA, cellsA, fillA, okParts, buildSliceA, buildMutA, makeSliceA, partIdx, elemsA, lensA, ifaceA, convA, mmA, pickA, okAll, stAll, opsA, partsA, partsOk, opA, allocA, boxMutA, newCells, okCells, storeObj, appendA, guardV, taA, nM, mapUpA, lookA, sliceA, boundsA, opO, okO, copyA, dstOk, nilA, quietOk, nilSliceOp, panA, resA, argFr, retA.eq_1, retA.eq_2, Nat.reduceAdd, Nat.reduceSub, Nat.reduceMul, Nat.reduceLT, Nat.reduceLeDiff, Nat.reduceEqDiff, Nat.reduceBEq, Int.reduceAdd, Int.reduceSub, Int.reduceMul, Int.reduceNeg, Int.reduceLE, Int.reduceLT, Int.reduceEq, Int.reduceNe, Int.reduceToNat, ↓reduceIte, reduceCtorEq, implies_true, forall_const, eq_self, ne_eq, wtAll, Try.ntmps14, Try.results14, hh_i1]) ?_)))
end Go.Proofs.Ytkonoggmdcdeeaa
end
section
set_option linter.unusedVariables false
set_option linter.unusedSimpArgs false
set_option maxHeartbeats 4000000
set_option maxRecDepth 100000
namespace Go.Proofs.Ytkonoggmdcdeeaa
open Go.V
/-- How many claims are false in a truth. -/
def popW (x : Ir) (t : List Int) : Nat := pop (wrongT x t)
def clrB (x : Ir) (o : List (List Int)) (t : List Int) : Bool := decide (0 < o.length) && decide (popW x t < popW x (o.getD 0 []))
def addB (x : Ir) (o : List (List Int)) (t : List Int) : Bool := decide (o.length = 0) || decide (popW x t = popW x (o.getD 0 []))
def bst1 (x : Ir) (o : List (List Int)) (t : List Int) : List (List Int) := if addB x o t = true then o ++ [t] else o
def bstN (x : Ir) : Nat → List (List Int)
  | 0 => []
  | i + 1 => bst1 x (if clrB x (bstN x i) ((truA x).getD i []) = true then [] else bstN x i) ((truA x).getD i [])
def bestL (x : Ir) : List (List Int) := bstN x (truA x).length
theorem bstN_mem {x : Ir} {i : Nat} (hi : i ≤ (truA x).length) : (bstN x i).length ≤ i ∧ ∀ t ∈ bstN x i, t ∈ truA x := by
  induction i with
  | zero => exact ⟨Nat.le_refl _, fun t h => by simp [bstN] at h⟩
  | succ i ih =>
    obtain ⟨h1, h2⟩ := ih (by omega)
    have hm : (truA x).getD i [] ∈ truA x := mem_getD _ i [] (by omega)
    have key : ∀ o : List (List Int), o.length ≤ i → (∀ t ∈ o, t ∈ truA x) → (bst1 x o ((truA x).getD i [])).length ≤ i + 1 ∧ ∀ t ∈ bst1 x o ((truA x).getD i []), t ∈ truA x := by
      intro o ho1 ho2
      unfold bst1
      split
      · refine ⟨by rw [List.length_append]; simp only [List.length_cons, List.length_nil]; omega, fun t ht => ?_⟩
        rcases List.mem_append.1 ht with ht | ht
        · exact ho2 t ht
        · rw [List.mem_singleton] at ht; subst ht; exact hm
      · exact ⟨by omega, ho2⟩
    simp only [bstN]
    split
    · exact key [] (by simp) (fun t h => by simp at h)
    · exact key _ h1 h2
end Go.Proofs.Ytkonoggmdcdeeaa
end
section
set_option linter.unusedVariables false
set_option linter.unusedSimpArgs false
set_option maxHeartbeats 4000000
set_option maxRecDepth 100000
namespace Go.Proofs.Ytkonoggmdcdeeaa
open Go.V
theorem bst1_pos (x : Ir) (o : List (List Int)) (t : List Int) : 0 < (bst1 x o t).length := by
  unfold bst1
  split
  · rw [List.length_append]; simp
  · rename_i h
    apply Nat.lt_of_not_le
    intro h0
    apply h
    simp only [addB, show o.length = 0 by omega, decide_true, Bool.true_or]
/-- The least set of false claims of the first ones. -/
def mnN (x : Ir) (L : List (List Int)) : Nat → Nat
  | 0 => wrongT x (L.getD 0 [])
  | i + 1 => min (mnN x L i) (wrongT x (L.getD i []))
def rfalP (x : Ir) : Nat × Nat := if falseE x = 0 then (pop (mnN x (bestL x) (bestL x).length), mnN x (bestL x) (bestL x).length) else (0, 0)
def rlikV (x : Ir) (s : Int) : Nat := if likE x s = 0 then who (bestL x) s.toNat else 0
end Go.Proofs.Ytkonoggmdcdeeaa
end
section
set_option linter.unusedVariables false
set_option linter.unusedSimpArgs false
namespace Go.Proofs.Ytkonoggmdcdeeaa
open Go.V
def moreK (x : Ir) (C k : Nat) (s : Nat) (o : Int) (r : Nat × Nat) : Nat × Nat := (r.1 + (wrO x C s o k).1, r.2 + (wrO x C s o k).2)
/-- A claim is false, and of one of these strakes. -/
def flB (x : Ir) (C k s : Nat) (t : List Int) : Bool := decide (s ≤ (x.cl.getD k cl0).s.toNat ∧ (x.cl.getD k cl0).s.toNat < s + t.length) && C.testBit k && !rightO (x.cl.getD k cl0) (t.getD ((x.cl.getD k cl0).s.toNat - s) 0)
theorem valK_succ (x : Ir) (C k : Nat) (hc : 0 ≤ (x.cl.getD k cl0).s) (t : List Int) : ∀ s, valT (0, 0) (moreK x C (k + 1)) s t = if flB x C k s t = true then ((valT (0, 0) (moreK x C k) s t).1 + 1, (valT (0, 0) (moreK x C k) s t).2 + 2 ^ k) else valT (0, 0) (moreK x C k) s t := by
  induction t with
  | nil =>
    intro s
    have : flB x C k s [] = false := by simp only [flB, List.length_nil, Nat.add_zero]; rw [decide_eq_false (by omega)]; rfl
    rw [this]; rfl
  | cons o t ih =>
    intro s
    simp only [valT, ih (s + 1)]
    have hwr : wrO x C s o (k + 1) = if wrB x C s o k = true then ((wrO x C s o k).1 + 1, (wrO x C s o k).2 + 2 ^ k) else wrO x C s o k := rfl
    by_cases e : (x.cl.getD k cl0).s.toNat = s
    · have h1 : flB x C k (s + 1) t = false := by
        simp only [flB]; rw [decide_eq_false (by omega)]; rfl
      have h2 : flB x C k s (o :: t) = wrB x C s o k := by
        simp only [flB, wrB, List.length_cons]
        rw [decide_eq_true (by omega), e, Nat.sub_self, List.getD_cons_zero, decide_eq_true (by omega : (x.cl.getD k cl0).s = (s : Int))]
      rw [h1, h2, if_neg (by decide)]
      simp only [moreK, hwr]
      split <;> simp only [Nat.add_assoc]
    · have h1 : flB x C k s (o :: t) = flB x C k (s + 1) t := by
        simp only [flB, List.length_cons]
        by_cases q : s + 1 ≤ (x.cl.getD k cl0).s.toNat
        · obtain ⟨d, hd⟩ : ∃ d, (x.cl.getD k cl0).s.toNat - s = d + 1 := ⟨(x.cl.getD k cl0).s.toNat - s - 1, by omega⟩
          rw [hd, List.getD_cons_succ, show (x.cl.getD k cl0).s.toNat - (s + 1) = d by omega]
          rw [show decide (s ≤ (x.cl.getD k cl0).s.toNat ∧ (x.cl.getD k cl0).s.toNat < s + (t.length + 1)) = decide (s + 1 ≤ (x.cl.getD k cl0).s.toNat ∧ (x.cl.getD k cl0).s.toNat < s + 1 + t.length) from decide_eq_decide.2 (by omega)]
        · rw [decide_eq_false (by omega), decide_eq_false (by omega)]; rfl
      have h2 : wrB x C s o k = false := by
        simp only [wrB]; rw [decide_eq_false (by omega)]; rfl
      rw [h1]
      simp only [moreK, hwr, h2, Bool.false_eq_true, if_false]
      split <;> simp only [Nat.add_right_comm]
theorem pop_add : ∀ k, k < 8 → ∀ a, a < 256 → a < 2 ^ k → pop (a + 2 ^ k) = pop a + 1 := by decide +kernel
theorem valK_wrong {x : Ir} (k : Ok x) {t : List Int} (ht : t.length = x.st.length) : ∀ n, n ≤ x.cl.length → valT (0, 0) (moreK x (fullC x) n) 0 t = (pop (wrongN x t n), wrongN x t n) := by
  intro n
  induction n with
  | zero =>
    intro _
    have : ∀ (t : List Int) s, valT (0, 0) (moreK x (fullC x) 0) s t = (0, 0) := by
      intro t
      induction t with
      | nil => intro s; rfl
      | cons o t ih => intro s; simp only [valT, ih]; rfl
    have p0 : pop 0 = 0 := popN_zero 64
    rw [this]
    simp only [wrongN, p0]
  | succ n ih =>
    intro hn
    have hc := k.cs n (by omega)
    have nC := k.nC
    have hw := wrongN_lt x t n
    have hp : 2 ^ n ≤ 2 ^ 7 := Nat.pow_le_pow_right (by decide) (by omega)
    rw [valK_succ x (fullC x) n hc.1, ih (by omega)]
    have hf : flB x (fullC x) n 0 t = !rightT x t n := by
      simp only [flB, rightT, Nat.sub_zero]
      rw [decide_eq_true (by omega), full_bit _ _ (by omega)]
      rfl
    rw [hf]
    simp only [wrongN]
    cases rightT x t n with
    | true => simp
    | false =>
      simp only [Bool.not_false, if_true, Bool.false_eq_true, if_false]
      rw [pop_add n (by omega) _ (by omega) hw]
theorem val_wrong {x : Ir} (k : Ok x) {t : List Int} (ht : t.length = x.st.length) : valT (0, 0) (moreL x (fullC x)) 0 t = (popW x t, wrongT x t) := valK_wrong k ht _ (Nat.le_refl _)

theorem foldJ_min (l : List (Nat × Nat)) : ∀ m, foldJ joinL l = some m → m ∈ l ∧ ∀ y ∈ l, lessB y m = false := by
  induction l with
  | nil => intro m h; cases h
  | cons a l ih =>
    intro m h
    simp only [foldJ] at h
    have irr : lessB a a = false := by rw [← Bool.not_eq_true, lessB_iff]; omega
    cases hl : foldJ joinL l with
    | none =>
      rw [hl] at h
      simp only [comb, Option.some.injEq] at h
      subst h
      have := (foldJ_none l).1 hl
      subst this
      exact ⟨by simp, fun y hy => by simp at hy; subst hy; exact irr⟩
    | some b =>
      rw [hl] at h
      simp only [comb, Option.some.injEq] at h
      obtain ⟨h1, h2⟩ := ih b hl
      unfold joinL at h
      by_cases q : lessB b a = true
      · rw [if_pos q] at h
        subst h
        refine ⟨by simp [h1], fun y hy => ?_⟩
        rcases List.mem_cons.1 hy with rfl | hy
        · rw [← Bool.not_eq_true, lessB_iff]
          have := (lessB_iff _ _).1 q
          omega
        · exact h2 y hy
      · rw [if_neg q] at h
        subst h
        refine ⟨by simp, fun y hy => ?_⟩
        rcases List.mem_cons.1 hy with rfl | hy
        · exact irr
        · have h3 := h2 y hy
          rw [← Bool.not_eq_true, lessB_iff] at h3 ⊢
          have q2 : ¬ (b.1 < a.1 ∨ b.1 = a.1 ∧ b.2 < a.2) := fun p => q ((lessB_iff _ _).2 p)
          omega
end Go.Proofs.Ytkonoggmdcdeeaa
end
section
set_option linter.unusedVariables false
set_option linter.unusedSimpArgs false
namespace Go.Proofs.Ytkonoggmdcdeeaa
open Go.V
theorem bst1_mem {x : Ir} {o : List (List Int)} {t y : List Int} : y ∈ bst1 x o t ↔ y ∈ o ∨ (addB x o t = true ∧ y = t) := by
  unfold bst1
  split
  · rename_i h; simp [h]
  · rename_i h; simp [h]
theorem bstN_spec (x : Ir) : ∀ i, i ≤ (truA x).length → (0 < i → 0 < (bstN x i).length) ∧ (∀ t ∈ bstN x i, ∀ t' ∈ (truA x).take i, popW x t ≤ popW x t') ∧ ∀ t ∈ (truA x).take i, (∀ t' ∈ (truA x).take i, popW x t ≤ popW x t') → t ∈ bstN x i := by
  intro i
  induction i with
  | zero => intro _; exact ⟨fun h => absurd h (by omega), fun t h => by simp [bstN] at h, fun t h => by simp at h⟩
  | succ i ih =>
    intro hi
    obtain ⟨h0, h1, h2⟩ := ih (by omega)
    have hm := (bstN_mem (x := x) (i := i) (by omega)).2
    have ht : (truA x).take (i + 1) = (truA x).take i ++ [(truA x).getD i []] := take_snoc _ i [] (by omega)
    have eb : bstN x (i + 1) = bst1 x (if clrB x (bstN x i) ((truA x).getD i []) = true then [] else bstN x i) ((truA x).getD i []) := rfl
    rw [ht]
    generalize (truA x).getD i [] = w at *
    generalize (truA x).take i = L at *
    refine ⟨fun _ => by rw [eb]; exact bst1_pos _ _ _, ?_⟩
    by_cases hz : i = 0
    · subst hz
      have hL : ∀ y, y ∈ bstN x 0 ↔ False := fun y => by simp [bstN]
      have hl0 : L = [] := by
        cases L with
        | nil => rfl
        | cons a L =>
          exfalso
          have := congrArg List.length ht
          simp at this
          omega
      subst hl0
      have e2 : bstN x 1 = [w] := by
        rw [eb]
        have : (if clrB x (bstN x 0) w = true then ([] : List (List Int)) else bstN x 0) = [] := by split <;> rfl
        rw [this]; rfl
      rw [e2]
      refine ⟨fun t h t' h' => ?_, fun t h _ => h⟩
      simp at h h'
      subst h h'
      exact Nat.le_refl _
    · have hpos := h0 (by omega)
      have hd : (bstN x i).getD 0 [] ∈ bstN x i := mem_getD _ 0 [] hpos
      have hmin := h1 _ hd
      have hall : ∀ y ∈ bstN x i, popW x y = popW x ((bstN x i).getD 0 []) ∨ True := fun _ _ => .inr trivial
      by_cases hc : clrB x (bstN x i) w = true
      · rw [if_pos hc] at eb
        simp only [clrB, Bool.and_eq_true, decide_eq_true_eq] at hc
        have e2 : bstN x (i + 1) = [w] := by rw [eb]; rfl
        rw [e2]
        refine ⟨fun t h t' h' => ?_, fun t h hle => ?_⟩
        · rw [List.mem_singleton] at h; subst h
          rcases List.mem_append.1 h' with h' | h'
          · have := hmin t' h'; omega
          · rw [List.mem_singleton] at h'; subst h'; exact Nat.le_refl _
        · rcases List.mem_append.1 h with h | h
          · have q1 := hmin t h
            have q2 := hle w (by simp)
            omega
          · exact h
      · rw [if_neg hc] at eb
        simp only [clrB, Bool.and_eq_true, decide_eq_true_eq] at hc
        have hge : popW x ((bstN x i).getD 0 []) ≤ popW x w := by
          apply Nat.le_of_not_lt
          intro q
          exact hc ⟨hpos, q⟩
        have hadd : addB x (bstN x i) w = true ↔ popW x w = popW x ((bstN x i).getD 0 []) := by
          simp only [addB, Bool.or_eq_true, decide_eq_true_eq]
          constructor
          · rintro (q | q)
            · omega
            · exact q
          · exact .inr
        rw [eb]
        refine ⟨fun t h t' h' => ?_, fun t h hle => ?_⟩
        · have hb : popW x t ≤ popW x ((bstN x i).getD 0 []) ∧ ∀ q ∈ L, popW x t ≤ popW x q := by
            rcases bst1_mem.1 h with h | ⟨q, rfl⟩
            · refine ⟨?_, h1 t h⟩
              by_cases e : (bstN x i).getD 0 [] ∈ L
              · exact h1 t h _ e
              · exfalso
                -- every likely one is among the first
                have : ∀ j, j ≤ (truA x).length → ∀ y ∈ bstN x j, y ∈ (truA x).take j := by
                  intro j
                  induction j with
                  | zero => intro _ y hy; simp [bstN] at hy
                  | succ j ihj =>
                    intro hj y hy
                    rw [take_snoc _ j [] (by omega)]
                    simp only [bstN] at hy
                    rcases bst1_mem.1 hy with hy | ⟨_, rfl⟩
                    · split at hy
                      · simp at hy
                      · exact List.mem_append_left _ (ihj (by omega) y hy)
                    · simp
                have hL : L = (truA x).take i := by
                  have h3 := congrArg (fun l => l.take i) ht
                  simp only [List.take_take, Nat.min_eq_left (Nat.le_succ i)] at h3
                  have hlen : L.length = i := by
                    have := congrArg List.length ht
                    simp at this
                    omega
                  rw [h3, List.take_append_of_le_length (by omega), List.take_of_length_le (by omega)]
                exact e (hL ▸ this i (by omega) _ hd)
            · exact ⟨Nat.le_of_eq (hadd.1 q), fun y hy => by rw [hadd.1 q]; exact hmin y hy⟩
          rcases List.mem_append.1 h' with h' | h'
          · exact hb.2 t' h'
          · rw [List.mem_singleton] at h'; subst h'; omega
        · rcases List.mem_append.1 h with h | h
          · exact bst1_mem.2 (.inl (h2 t h fun t' h' => hle t' (List.mem_append_left _ h')))
          · rw [List.mem_singleton] at h
            subst h
            have hmem : (bstN x i).getD 0 [] ∈ L ++ [t] := by
              have := hm _ hd
              by_cases e : (bstN x i).getD 0 [] ∈ L
              · exact List.mem_append_left _ e
              · exfalso
                have key : ∀ j, j ≤ (truA x).length → ∀ y ∈ bstN x j, y ∈ (truA x).take j := by
                  intro j
                  induction j with
                  | zero => intro _ y hy; simp [bstN] at hy
                  | succ j ihj =>
                    intro hj y hy
                    rw [take_snoc _ j [] (by omega)]
                    simp only [bstN] at hy
                    rcases bst1_mem.1 hy with hy | ⟨_, rfl⟩
                    · split at hy
                      · simp at hy
                      · exact List.mem_append_left _ (ihj (by omega) y hy)
                    · simp
                have hL : L = (truA x).take i := by
                  have h3 := congrArg (fun l => l.take i) ht
                  simp only [List.take_take, Nat.min_eq_left (Nat.le_succ i)] at h3
                  have hlen : L.length = i := by
                    have := congrArg List.length ht
                    simp at this
                    omega
                  rw [h3, List.take_append_of_le_length (by omega), List.take_of_length_le (by omega)]
                exact e (hL ▸ key i (by omega) _ hd)
            exact bst1_mem.2 (.inr ⟨hadd.2 (Nat.le_antisymm (hle _ hmem) hge), rfl⟩)
theorem bestL_iff {x : Ir} {t : List Int} : t ∈ bestL x ↔ t ∈ truA x ∧ ∀ t' ∈ truA x, popW x t ≤ popW x t' := by
  have h := bstN_spec x (truA x).length (Nat.le_refl _)
  rw [List.take_length] at h
  exact ⟨fun h' => ⟨(bstN_mem (x := x) (Nat.le_refl _)).2 t h', h.2.1 t h'⟩, fun h' => h.2.2 t h'.1 h'.2⟩
end Go.Proofs.Ytkonoggmdcdeeaa
end
section
set_option linter.unusedVariables false
set_option linter.unusedSimpArgs false
namespace Go.Proofs.Ytkonoggmdcdeeaa
open Go.V
theorem tlW_truth {x : Ir} (k : Ok x) : tlW x (fullS x) (fullC x) false = foldJ joinL ((truA x).map fun t => (popW x t, wrongT x t)) := by
  have h : truA x = cont x (fullS x) (fullC x) false x.st.length 0 u0 := truS_cont x (fullS x) (fullC x) k.gd
  have e : (truA x).map (valT (0, 0) (moreL x (fullC x)) 0) = (truA x).map fun t => (popW x t, wrongT x t) := List.map_congr_left fun t ht => val_wrong k (truA_mem ht).1
  rw [tlW_eq, ← h, e]
theorem fitB_with {x : Ir} (k : Ok x) {s o o' s' : Nat} (ho : o' < x.ow.length) (hs : s' < x.st.length) : fitB (withI x s o) o' s' = (fitB x o' s' && (decide (s' ≠ s) || decide (o' = o))) := by
  have hfl := k.ow o' ho
  unfold fitB
  rw [withI_ow ho, withI_st hs]
  have hold : (x.st.getD s' []).all (fitM (owW x o o')) = (x.st.getD s' []).all (fitM (x.ow.getD o' [])) := by
    rw [Bool.eq_iff_iff, List.all_eq_true, List.all_eq_true]
    have hm : ∀ m ∈ x.st.getD s' [], fitM (owW x o o') m = fitM (x.ow.getD o' []) m := fun m hm => by
      obtain ⟨i, hi, rfl⟩ := List.getElem_of_mem hm
      have hsf := k.sf s' hs i hi
      have e1 : (x.st.getD s' []).getD i mk0 = (x.st.getD s' [])[i] := by rw [List.getD_eq_getElem?_getD, List.getElem?_eq_getElem hi]; rfl
      rw [e1] at hsf
      unfold fitM
      rw [owW, getD_snoc, if_neg (by omega)]
    exact ⟨fun h m hm' => by rw [← hm m hm']; exact h m hm', fun h m hm' => by rw [hm m hm']; exact h m hm'⟩
  unfold stW
  by_cases e : s' = s
  · rw [if_pos e, List.all_append, hold]
    congr 1
    rw [show decide (s' ≠ s) = false from decide_eq_false (by simp [e]), Bool.false_or]
    simp only [List.all_cons, List.all_nil, Bool.and_true, fitM]
    have eg : (owW x o o').getD x.F.toNat 0 = if o' = o then 1 else 0 := by
      rw [owW, getD_snoc, if_pos (by omega)]
    rw [eg]
    by_cases e2 : o' = o
    · rw [if_pos e2, decide_eq_true e2]; rfl
    · rw [if_neg e2, decide_eq_false e2]; rfl
  · rw [if_neg e, hold, show decide (s' ≠ s) = true from decide_eq_true e, Bool.true_or, Bool.and_true]
theorem filter_flat {α β : Type} (p : β → Bool) (f : α → List β) (l : List α) : (l.flatMap f).filter p = l.flatMap fun a => (f a).filter p := by
  induction l with
  | nil => rfl
  | cons a l ih => simp only [List.flatMap_cons, List.filter_append, ih]
theorem flat_congr {α β : Type} {f g : α → List β} : ∀ {l : List α}, (∀ a ∈ l, f a = g a) → l.flatMap f = l.flatMap g
  | [], _ => rfl
  | a :: l, h => by
    simp only [List.flatMap_cons, h a (by simp), flat_congr (l := l) fun b hb => h b (by simp [hb])]
theorem tru_with {x : Ir} (k : Ok x) {s o : Nat} (hs : s < x.st.length) (ho : o < x.ow.length) (S : Nat) (hS : ∀ j, j < x.st.length → S.testBit j = true) :
    ∀ n b, b.length + n = x.st.length → tru (withI x s o) S n b = (tru x S n b).filter fun t => decide (s < b.length) || decide (t.getD s 0 = (o : Int)) := by
  have lo : (withI x s o).ow.length = x.ow.length := by simp [withI]
  intro n
  induction n with
  | zero =>
    intro b hb
    simp only [tru]
    rw [List.filter_cons_of_pos (by rw [decide_eq_true (by omega)]; rfl)]
    rfl
  | succ n ih =>
    intro b hb
    have hbit := hS b.length (by omega)
    simp only [tru, hbit, if_true, lo]
    rw [filter_flat]
    refine flat_congr fun o' ho' => ?_
    rw [List.mem_range] at ho'
    have hcan : canO (withI x s o) b o' = (canO x b o' && (decide (b.length ≠ s) || decide (o' = o))) := by
      simp only [canO, fitB_with k ho' (show b.length < x.st.length by omega)]
      rw [show (withI x s o).mo = x.mo from rfl, Bool.and_assoc, Bool.and_assoc, Bool.and_comm (decide _ || decide _)]
    rw [hcan]
    have hlen : (b ++ [(o' : Int)]).length = b.length + 1 := by simp
    by_cases hc : canO x b o' = true
    · rw [hc, Bool.true_and, if_pos rfl]
      have hm : ∀ t ∈ tru x S n (b ++ [(o' : Int)]), t.getD b.length 0 = (o' : Int) := fun t ht => by
        rw [(tru_mem ht).2.1 b.length (by omega), getD_snoc, if_pos rfl]
      by_cases e : b.length = s
      · have e1 : decide (b.length ≠ s) = false := decide_eq_false (by simp [e])
        rw [e1, Bool.false_or]
        by_cases e2 : o' = o
        · rw [if_pos (by rw [decide_eq_true e2]), ih _ (by omega)]
          subst e2
          rw [List.filter_eq_self.2 fun t ht => by rw [decide_eq_true (by omega)]; rfl]
          rw [List.filter_eq_self.2 fun t ht => by rw [← e, decide_eq_true (hm t ht)]; simp]
        · rw [if_neg (by rw [decide_eq_false e2]; decide)]
          rw [List.filter_eq_nil_iff.2]
          intro t ht
          have := hm t ht
          rw [e] at this
          rw [decide_eq_false (by omega), decide_eq_false (by omega)]
          decide
      · rw [if_pos (by rw [decide_eq_true e]; rfl), ih _ (by omega)]
        congr 1
        funext t
        rw [hlen]
        by_cases q : s < b.length
        · rw [decide_eq_true q, decide_eq_true (by omega : s < b.length + 1)]
        · rw [decide_eq_false q, decide_eq_false (by omega : ¬ s < b.length + 1)]
    · rw [Bool.not_eq_true] at hc
      rw [hc, Bool.false_and]
      rfl
theorem truA_with {x : Ir} (k : Ok x) {s o : Nat} (hs : s < x.st.length) (ho : o < x.ow.length) : truS (withI x s o) (fullS x) = (truA x).filter fun t => decide (t.getD s 0 = (o : Int)) := by
  have ls : (withI x s o).st.length = x.st.length := by simp [withI]
  have h := tru_with k hs ho (fullS x) (fun j hj => full_bit _ _ hj) x.st.length [] (by simp)
  rw [truS, ls, h]
  congr 1
end Go.Proofs.Ytkonoggmdcdeeaa
end
section
set_option linter.unusedVariables false
set_option linter.unusedSimpArgs false
namespace Go.Proofs.Ytkonoggmdcdeeaa
open Go.V
theorem tru_fit {x : Ir} {S : Nat} : ∀ {n : Nat} {b t : List Int}, t ∈ tru x S n b → ∀ j, b.length ≤ j → j < b.length + n → S.testBit j = true → fitB x (t.getD j 0).toNat j = true := by
  intro n
  induction n with
  | zero => intro b t _ j h1 h2; omega
  | succ n ih =>
    intro b t h j h1 h2 hj
    cases hb : S.testBit b.length with
    | true =>
      rw [tru_yes hb, truP_mem] at h
      obtain ⟨o, ho, hc, h⟩ := h
      by_cases e : j = b.length
      · subst e
        have := (tru_mem h).2.1 b.length (by simp)
        rw [this, getD_snoc, if_pos rfl, Int.toNat_natCast]
        simp only [canO, Bool.and_eq_true] at hc
        exact hc.1
      · exact ih h j (by simp; omega) (by simp; omega) hj
    | false =>
      rw [tru_no hb] at h
      by_cases e : j = b.length
      · subst e; rw [hb] at hj; cases hj
      · exact ih h j (by simp; omega) (by simp; omega) hj
theorem likN_bit (x : Ir) (s n o : Nat) : (likN x s n).testBit o = (decide (o < n) && likB x s o) := by
  induction n with
  | zero => simp [likN]
  | succ n ih =>
    have hlt := likN_lt x s n
    simp only [likN]
    by_cases h : likB x s n = true
    · rw [if_pos h, ← or_bit _ _ hlt, Nat.testBit_or, ih, Nat.testBit_two_pow]
      by_cases e : n = o
      · subst e; simp [h]
      · rw [decide_eq_false e, Bool.or_false]
        congr 1
        exact decide_eq_decide.2 (by omega)
    · rw [if_neg h, Nat.add_zero, ih]
      by_cases e : n = o
      · subst e
        rw [Bool.not_eq_true] at h
        simp [h]
      · congr 1
        exact decide_eq_decide.2 (by omega)
theorem wrO_with (x : Ir) (s o C s' : Nat) (o' : Int) (n : Nat) : wrO (withI x s o) C s' o' n = wrO x C s' o' n := by
  induction n with
  | zero => rfl
  | succ n ih =>
    simp only [wrO, ih]
    rfl
theorem tlW_with {x : Ir} (k : Ok x) {s o : Nat} (hs : s < x.st.length) (ho : o < x.ow.length) : tlW (withI x s o) (fullS x) (fullC x) false = foldJ joinL (((truA x).filter fun t => decide (t.getD s 0 = (o : Int))).map fun t => (popW x t, wrongT x t)) := by
  have h : truS (withI x s o) (fullS x) = cont (withI x s o) (fullS x) (fullC x) false (withI x s o).st.length 0 u0 := truS_cont (withI x s o) (fullS x) (fullC x) (withI_gd k s o)
  have em : moreL (withI x s o) (fullC x) = moreL x (fullC x) := by
    funext s' o' r
    simp only [moreL]
    rw [show (withI x s o).cl = x.cl from rfl, wrO_with]
  rw [tlW_eq, ← h, em, truA_with k hs ho]
  have e : ((truA x).filter fun t => decide (t.getD s 0 = (o : Int))).map (valT (0, 0) (moreL x (fullC x)) 0) = ((truA x).filter fun t => decide (t.getD s 0 = (o : Int))).map fun t => (popW x t, wrongT x t) :=
    List.map_congr_left fun t ht => val_wrong k (truA_mem (List.mem_filter.1 ht).1).1
  rw [e]
theorem foldJ_some {l : List (Nat × Nat)} (h : l ≠ []) : ∃ m, foldJ joinL l = some m := by
  cases hf : foldJ joinL l with
  | none => exact absurd ((foldJ_none l).1 hf) h
  | some m => exact ⟨m, rfl⟩
theorem likB_iff {x : Ir} (k : Ok x) {s o : Nat} (hs : s < x.st.length) (ho : o < x.ow.length) : likB x s o = true ↔ ∃ t ∈ bestL x, t.getD s 0 = (o : Int) := by
  have hp : ∀ t ∈ truA x, ∃ m, foldJ joinL ((truA x).map fun t => (popW x t, wrongT x t)) = some m ∧ (∃ t0 ∈ truA x, popW x t0 = m.1) ∧ ∀ t ∈ truA x, m.1 ≤ popW x t := fun t ht => by
    obtain ⟨m, hm⟩ := foldJ_some (l := (truA x).map fun t => (popW x t, wrongT x t)) (by intro q; rw [List.map_eq_nil_iff] at q; rw [q] at ht; simp at ht)
    obtain ⟨h1, h2⟩ := foldJ_min _ m hm
    obtain ⟨t0, ht0, rfl⟩ := List.mem_map.1 h1
    refine ⟨_, hm, ⟨t0, ht0, rfl⟩, fun t ht => ?_⟩
    have := h2 _ (List.mem_map.2 ⟨t, ht, rfl⟩)
    rw [← Bool.not_eq_true, lessB_iff] at this
    simp only [] at this ⊢
    omega
  unfold likB
  rw [tlW_with k hs ho, tlW_truth k]
  simp only [Bool.and_eq_true, decide_eq_true_eq]
  constructor
  · rintro ⟨hf, hso, he⟩
    cases hw : foldJ joinL (((truA x).filter fun t => decide (t.getD s 0 = (o : Int))).map fun t => (popW x t, wrongT x t)) with
    | none => rw [hw] at hso; cases hso
    | some m =>
      obtain ⟨h1, h2⟩ := foldJ_min _ m hw
      obtain ⟨t1, ht1, rfl⟩ := List.mem_map.1 h1
      obtain ⟨ht1, hq⟩ := List.mem_filter.1 ht1
      obtain ⟨m0, e0, _, hle⟩ := hp t1 ht1
      rw [hw, e0] at he
      simp only [Option.getD_some] at he
      exact ⟨t1, bestL_iff.2 ⟨ht1, fun t' h' => by rw [he]; exact hle t' h'⟩, of_decide_eq_true hq⟩
  · rintro ⟨t, ht, hq⟩
    obtain ⟨ht1, hle⟩ := bestL_iff.1 ht
    have hfit : fitB x o s = true := by
      have := tru_fit ht1 s (Nat.zero_le _) (by simp; exact hs) (full_bit _ _ hs)
      rwa [hq, Int.toNat_natCast] at this
    have hmem : t ∈ (truA x).filter fun t => decide (t.getD s 0 = (o : Int)) := List.mem_filter.2 ⟨ht1, decide_eq_true hq⟩
    obtain ⟨m, hm⟩ := foldJ_some (l := ((truA x).filter fun t => decide (t.getD s 0 = (o : Int))).map fun t => (popW x t, wrongT x t)) (by intro q; rw [List.map_eq_nil_iff] at q; rw [q] at hmem; simp at hmem)
    obtain ⟨m0, e0, ⟨t0, ht0, e1⟩, hle0⟩ := hp t ht1
    obtain ⟨h1, h2⟩ := foldJ_min _ m hm
    obtain ⟨t2, ht2, rfl⟩ := List.mem_map.1 h1
    have h3 := h2 _ (List.mem_map.2 ⟨t, hmem, rfl⟩)
    rw [← Bool.not_eq_true, lessB_iff] at h3
    simp only [] at h3
    have q1 := hle t0 ht0
    have q2 := hle0 t2 (List.mem_filter.1 ht2).1
    rw [hm, e0]
    refine ⟨hfit, rfl, ?_⟩
    simp only [Option.getD_some]
    omega
end Go.Proofs.Ytkonoggmdcdeeaa
end
section
set_option linter.unusedVariables false
set_option linter.unusedSimpArgs false
set_option maxHeartbeats 4000000
set_option maxRecDepth 100000
namespace Go.Proofs.Ytkonoggmdcdeeaa
open Go.V
/-- All claims of a set, of the first ones, are right in a truth. -/
def okR (x : Ir) (set : Nat) (t : List Int) : Nat → Bool
  | 0 => true
  | n + 1 => okR x set t n && (!set.testBit n || rightT x t n)
/-- In no truth all are. -/
def clsB (x : Ir) (L : List (List Int)) (set : Nat) : Bool := L.all fun t => !okR x set t x.cl.length
/-- The smallest set, as the document looks for it: from all, each that is smaller. -/
def bsN (f : Nat → Bool) (b : Nat) : Nat → Nat
  | 0 => b
  | j + 1 => if (decide (pop j < pop (bsN f b j)) && f j) = true then j else bsN f b j
theorem bsN_lt (f : Nat → Bool) (b B : Nat) (hb : b < B) : ∀ j, j ≤ B → bsN f b j < B := by
  intro j
  induction j with
  | zero => intro _; exact hb
  | succ j ih => intro hj; simp only [bsN]; split; (· omega); (· exact ih (by omega))
def rset (f : Nat → Bool) (m : Nat) : Option Nat := if f (2 ^ m - 1) = true then some (bsN f (2 ^ m - 1) (2 ^ m)) else none
end Go.Proofs.Ytkonoggmdcdeeaa
end
section
set_option linter.unusedVariables false
set_option linter.unusedSimpArgs false
set_option maxHeartbeats 4000000
set_option maxRecDepth 100000
namespace Go.Proofs.Ytkonoggmdcdeeaa
open Go.V
/-- There is no truth with the strakes of a set alone. -/
def shD (x : Ir) (set : Nat) : Bool := decide ((truS x set).length = 0)
end Go.Proofs.Ytkonoggmdcdeeaa
end
section
set_option linter.unusedVariables false
set_option linter.unusedSimpArgs false
namespace Go.Proofs.Ytkonoggmdcdeeaa
open Go.V
theorem inn_none (f : Nat → Bool) (z n : Nat) : ∀ j, inn f z n j = none → ∀ i, j ≤ i → i < j + n → f i = true → pop i ≠ z := by
  induction n with
  | zero => intro j _ i h1 h2; omega
  | succ n ih =>
    intro j h i h1 h2 hf he
    simp only [inn] at h
    split at h
    · cases h
    · rename_i hc
      by_cases e : i = j
      · subst e; apply hc; rw [hf, decide_eq_true he]; rfl
      · exact ih (j + 1) h i (by omega) (by omega) hf he
theorem inn_first (f : Nat → Bool) (z n : Nat) : ∀ j r, inn f z n j = some r → ∀ i, j ≤ i → i < j + n → f i = true → pop i = z → r ≤ i := by
  induction n with
  | zero => intro j r h; cases h
  | succ n ih =>
    intro j r h i h1 h2 hf he
    simp only [inn] at h
    split at h
    · cases h; exact h1
    · rename_i hc
      by_cases e : i = j
      · subst e; exfalso; apply hc; rw [hf, decide_eq_true he]; rfl
      · exact ih (j + 1) r h i (by omega) (by omega) hf he
/-- The least set that suits. -/
structure LeastSet (f : Nat → Bool) (m r : Nat) : Prop where
  lt : r < 2 ^ m
  is : f r = true
  le : ∀ i, i < 2 ^ m → f i = true → pop r < pop i ∨ pop r = pop i ∧ r ≤ i
theorem LeastSet.uniq {f : Nat → Bool} {m r r' : Nat} (h : LeastSet f m r) (h' : LeastSet f m r') : r = r' := by
  have h1 := h.le r' h'.lt h'.is
  have h2 := h'.le r h.lt h.is
  omega
theorem outF_some (f : Nat → Bool) (m n : Nat) : ∀ z r, outF f m n z = some r → z ≤ pop r ∧ (∀ i, i < 2 ^ m → f i = true → z ≤ pop i → pop r < pop i ∨ pop r = pop i ∧ r ≤ i) := by
  induction n with
  | zero => intro z r h; cases h
  | succ n ih =>
    intro z r h
    simp only [outF] at h
    split at h
    · rename_i j hj
      cases h
      obtain ⟨_, _, h3, _⟩ := inn_lt _ _ _ _ _ hj
      refine ⟨by omega, fun i hi hf hz => ?_⟩
      by_cases e : pop i = z
      · exact .inr ⟨by omega, inn_first f z _ 0 _ hj i (Nat.zero_le _) (by omega) hf e⟩
      · exact .inl (by omega)
    · rename_i hj
      obtain ⟨h1, h2⟩ := ih (z + 1) r h
      refine ⟨by omega, fun i hi hf hz => ?_⟩
      have := inn_none f z _ 0 hj i (Nat.zero_le _) (by omega) hf
      exact h2 i hi hf (by omega)
theorem outF_none (f : Nat → Bool) (m n : Nat) : ∀ z, outF f m n z = none → ∀ i, i < 2 ^ m → f i = true → z ≤ pop i → z + n ≤ pop i := by
  induction n with
  | zero => intro z _ i _ _ h; exact h
  | succ n ih =>
    intro z h i hi hf hz
    simp only [outF] at h
    split at h
    · cases h
    · rename_i hj
      have := inn_none f z _ 0 hj i (Nat.zero_le _) (by omega) hf
      have := ih (z + 1) h i hi hf (by omega)
      omega
theorem pop_all : ∀ m, m < 9 → ∀ i, i < 256 → i < 2 ^ m → pop i ≤ m ∧ (pop i = m → i = 2 ^ m - 1) := by decide +kernel
theorem pop_full : ∀ m, m < 9 → pop (2 ^ m - 1) = m := by decide +kernel
theorem fewV_some {f : Nat → Bool} {m r : Nat} (h : fewV f m = some r) : LeastSet f m r := by
  obtain ⟨h1, h2⟩ := outF_lt f m (m + 1) 0 r h
  exact ⟨h1, h2, fun i hi hf => (outF_some f m (m + 1) 0 r h).2 i hi hf (Nat.zero_le _)⟩
theorem fewV_none {f : Nat → Bool} {m : Nat} (hm : m ≤ 8) (h : fewV f m = none) : ∀ i, i < 2 ^ m → f i = false := by
  intro i hi
  rw [← Bool.not_eq_true]
  intro hf
  have h1 := outF_none f m (m + 1) 0 h i hi hf (Nat.zero_le _)
  have hp : 2 ^ m ≤ 2 ^ 8 := Nat.pow_le_pow_right (by decide) hm
  have h2 := (pop_all m (by omega) i (by omega) hi).1
  omega
theorem bsN_spec (f : Nat → Bool) (b : Nat) : ∀ j, (bsN f b j = b ∨ (bsN f b j < j ∧ f (bsN f b j) = true)) ∧ pop (bsN f b j) ≤ pop b ∧ ∀ i, i < j → f i = true → pop (bsN f b j) < pop i ∨ pop (bsN f b j) = pop i ∧ (bsN f b j ≤ i ∨ bsN f b j = b) := by
  intro j
  induction j with
  | zero => exact ⟨.inl rfl, Nat.le_refl _, fun i hi => by omega⟩
  | succ j ih =>
    obtain ⟨h1, h2, h3⟩ := ih
    simp only [bsN]
    by_cases hc : (decide (pop j < pop (bsN f b j)) && f j) = true
    · rw [if_pos hc]
      simp only [Bool.and_eq_true, decide_eq_true_eq] at hc
      refine ⟨.inr ⟨by omega, hc.2⟩, by omega, fun i hi hf => ?_⟩
      by_cases e : i = j
      · subst e; exact .inr ⟨rfl, .inl (Nat.le_refl _)⟩
      · have := h3 i (by omega) hf
        exact .inl (by omega)
    · rw [if_neg hc]
      simp only [Bool.and_eq_true, decide_eq_true_eq] at hc
      refine ⟨h1.imp id fun h => ⟨by omega, h.2⟩, h2, fun i hi hf => ?_⟩
      by_cases e : i = j
      · subst e
        have : ¬ pop i < pop (bsN f b i) := fun q => hc ⟨q, hf⟩
        rcases h1 with h | h
        · by_cases q : pop (bsN f b i) = pop i
          · exact .inr ⟨q, .inr h⟩
          · exact .inl (by omega)
        · by_cases q : pop (bsN f b i) = pop i
          · exact .inr ⟨q, .inl (by omega)⟩
          · exact .inl (by omega)
      · exact h3 i (by omega) hf
theorem rset_least {f : Nat → Bool} {m r : Nat} (hm : m ≤ 8) (h : rset f m = some r) : LeastSet f m r := by
  unfold rset at h
  split at h
  · rename_i hf
    cases h
    have hp0 : 0 < 2 ^ m := Nat.pow_pos (by decide)
    have hp : 2 ^ m ≤ 2 ^ 8 := Nat.pow_le_pow_right (by decide) hm
    have hlt := bsN_lt f (2 ^ m - 1) (2 ^ m) (by omega) (2 ^ m) (Nat.le_refl _)
    obtain ⟨h1, h2, h3⟩ := bsN_spec f (2 ^ m - 1) (2 ^ m)
    refine ⟨hlt, ?_, fun i hi hfi => ?_⟩
    · rcases h1 with h | h
      · rw [h]; exact hf
      · exact h.2
    · rcases h3 i hi hfi with q | ⟨q, q2 | q2⟩
      · exact .inl q
      · exact .inr ⟨q, q2⟩
      · refine .inr ⟨q, ?_⟩
        rw [q2] at q
        rw [pop_full m (by omega)] at q
        have := (pop_all m (by omega) i (by omega) hi).2 q.symm
        rw [q2, this]
        exact Nat.le_refl _
  · cases h
/-- The two ways agree, if a set suits whenever a part of it does. -/
theorem few_rset {f : Nat → Bool} {m : Nat} (hm : m ≤ 8) (hmon : ∀ i, i < 2 ^ m → f i = true → f (2 ^ m - 1) = true) : fewV f m = rset f m := by
  cases hr : rset f m with
  | some r =>
    have hl := rset_least hm hr
    cases hw : fewV f m with
    | some w => rw [(fewV_some hw).uniq hl]
    | none => have := fewV_none hm hw r hl.lt; rw [hl.is] at this; cases this
  | none =>
    cases hw : fewV f m with
    | none => rfl
    | some w =>
      have hl := fewV_some hw
      unfold rset at hr
      rw [if_pos (hmon w hl.lt hl.is)] at hr
      cases hr

theorem wrO_zero (x : Ir) (C s : Nat) (o : Int) (n : Nat) : (wrO x C s o n).1 = 0 ↔ ∀ k, k < n → wrB x C s o k = false := by
  induction n with
  | zero => exact ⟨fun _ k hk => by omega, fun _ => rfl⟩
  | succ n ih =>
    simp only [wrO]
    constructor
    · intro h k hk
      by_cases hc : wrB x C s o n = true
      · rw [if_pos hc] at h; simp at h
      · rw [if_neg hc] at h
        by_cases e : k = n
        · subst e; simpa using hc
        · exact ih.1 h k (by omega)
    · intro h
      rw [h n (by omega), if_neg (by decide)]
      exact ih.2 fun k hk => h k (by omega)
theorem flB_cons {x : Ir} {C k s : Nat} {o : Int} {t : List Int} (hc : 0 ≤ (x.cl.getD k cl0).s) : flB x C k s (o :: t) = (wrB x C s o k || flB x C k (s + 1) t) := by
  by_cases e : (x.cl.getD k cl0).s.toNat = s
  · have h1 : flB x C k (s + 1) t = false := by
      simp only [flB]; rw [decide_eq_false (by omega)]; rfl
    rw [h1, Bool.or_false]
    simp only [flB, wrB, List.length_cons]
    rw [decide_eq_true (by omega), e, Nat.sub_self, List.getD_cons_zero, decide_eq_true (by omega : (x.cl.getD k cl0).s = (s : Int))]
  · have h2 : wrB x C s o k = false := by
      simp only [wrB]; rw [decide_eq_false (by omega)]; rfl
    rw [h2, Bool.false_or]
    simp only [flB, List.length_cons]
    by_cases q : s + 1 ≤ (x.cl.getD k cl0).s.toNat
    · obtain ⟨d, hd⟩ : ∃ d, (x.cl.getD k cl0).s.toNat - s = d + 1 := ⟨(x.cl.getD k cl0).s.toNat - s - 1, by omega⟩
      rw [hd, List.getD_cons_succ, show (x.cl.getD k cl0).s.toNat - (s + 1) = d by omega]
      rw [show decide (s ≤ (x.cl.getD k cl0).s.toNat ∧ (x.cl.getD k cl0).s.toNat < s + (t.length + 1)) = decide (s + 1 ≤ (x.cl.getD k cl0).s.toNat ∧ (x.cl.getD k cl0).s.toNat < s + 1 + t.length) from decide_eq_decide.2 (by omega)]
    · rw [decide_eq_false (by omega), decide_eq_false (by omega)]; rfl
/-- No claim of a set is false from this strake on. -/
def noF (x : Ir) (C s : Nat) (t : List Int) : Bool := (List.range x.cl.length).all fun k => !flB x C k s t
theorem noF_cons {x : Ir} (kx : Ok x) (C s : Nat) (o : Int) (t : List Int) : noF x C s (o :: t) = ((!decide (0 < (wrO x C s o x.cl.length).1)) && noF x C (s + 1) t) := by
  rw [Bool.eq_iff_iff]
  simp only [noF, List.all_eq_true, List.mem_range, Bool.and_eq_true, Bool.not_eq_true', decide_eq_false_iff_not]
  constructor
  · intro h
    refine ⟨?_, fun k hk => ?_⟩
    · have : (wrO x C s o x.cl.length).1 = 0 := (wrO_zero x C s o _).2 fun k hk => by
        have := h k hk
        rw [flB_cons (kx.cs k hk).1] at this
        exact (Bool.or_eq_false_iff.1 this).1
      omega
    · have := h k hk
      rw [flB_cons (kx.cs k hk).1] at this
      exact (Bool.or_eq_false_iff.1 this).2
  · rintro ⟨h1, h2⟩ k hk
    rw [flB_cons (kx.cs k hk).1, (wrO_zero x C s o x.cl.length).1 (by omega) k hk, h2 k hk]
    rfl
theorem cont_must {x : Ir} (kx : Ok x) (S C C' : Nat) : ∀ n s u, (∀ j, s ≤ j → j < s + n → S.testBit j = true) → cont x S C true n s u = (cont x S C' false n s u).filter (noF x C s) := by
  intro n
  induction n with
  | zero =>
    intro s u _
    simp only [cont]
    rw [List.filter_cons_of_pos]
    · rfl
    · simp only [noF, List.all_eq_true, List.mem_range, Bool.not_eq_true']
      intro k _
      simp only [flB, List.length_nil, Nat.add_zero]
      rw [decide_eq_false (by omega)]; rfl
  | succ n ih =>
    intro s u hS
    have hb := hS s (Nat.le_refl _) (by omega)
    simp only [cont, nxt, hb, if_true]
    rw [List.flatMap_map, List.flatMap_map, filter_flat]
    have hg : ∀ o, goB x C true s u o = (goB x C' false s u o && !decide (0 < (wrO x C s (o : Int) x.cl.length).1)) := fun o => by
      simp only [goB, Bool.true_and, Bool.false_and, Bool.not_false, Bool.and_true]
    have key : ∀ l : List Nat, (l.filter (goB x C true s u)).flatMap (fun o : Nat => (cont x S C true n (s + 1) (u.set o (u.getD o 0 + 1))).map ((o : Int) :: ·)) =
        (l.filter (goB x C' false s u)).flatMap fun o : Nat => ((cont x S C' false n (s + 1) (u.set o (u.getD o 0 + 1))).map ((o : Int) :: ·)).filter (noF x C s) := by
      intro l
      induction l with
      | nil => rfl
      | cons o l ihl =>
        have e1 : ((cont x S C' false n (s + 1) (u.set o (u.getD o 0 + 1))).map ((o : Int) :: ·)).filter (noF x C s) = if 0 < (wrO x C s (o : Int) x.cl.length).1 then [] else (cont x S C true n (s + 1) (u.set o (u.getD o 0 + 1))).map ((o : Int) :: ·) := by
          rw [List.filter_map]
          have e2 : (noF x C s ∘ ((o : Int) :: ·)) = fun t => (!decide (0 < (wrO x C s (o : Int) x.cl.length).1)) && noF x C (s + 1) t := by
            funext t
            exact noF_cons kx C s o t
          rw [e2]
          by_cases q : 0 < (wrO x C s (o : Int) x.cl.length).1
          · rw [if_pos q, decide_eq_true q]
            simp
          · rw [if_neg q, decide_eq_false q]
            simp only [Bool.not_false, Bool.true_and]
            rw [ih (s + 1) _ fun j h1 h2 => hS j (by omega) (by omega)]
        simp only [List.filter_cons, hg o]
        by_cases h1 : goB x C' false s u o = true
        · rw [h1, Bool.true_and, if_pos rfl, List.flatMap_cons, e1]
          by_cases q : 0 < (wrO x C s (o : Int) x.cl.length).1
          · rw [decide_eq_true q, if_pos q, if_neg (by decide), ihl]; rfl
          · rw [decide_eq_false q, if_neg q, if_pos (by rfl), List.flatMap_cons, ihl]
        · rw [Bool.not_eq_true] at h1
          rw [h1, Bool.false_and, if_neg (by decide), if_neg (by decide), ihl]
    exact key _
theorem okR_iff (x : Ir) (set : Nat) (t : List Int) (n : Nat) : okR x set t n = true ↔ ∀ k, k < n → set.testBit k = true → rightT x t k = true := by
  induction n with
  | zero => exact ⟨fun _ k hk => by omega, fun _ => rfl⟩
  | succ n ih =>
    simp only [okR, Bool.and_eq_true, ih, Bool.or_eq_true, Bool.not_eq_true']
    constructor
    · rintro ⟨h1, h2⟩ k hk hb
      by_cases e : k = n
      · subst e
        rcases h2 with h2 | h2
        · rw [hb] at h2; cases h2
        · exact h2
      · exact h1 k (by omega) hb
    · intro h
      refine ⟨fun k hk => h k (by omega), ?_⟩
      cases hb : set.testBit n with
      | false => exact .inl rfl
      | true => exact .inr (h n (by omega) hb)
theorem noF_okR {x : Ir} (kx : Ok x) {set : Nat} {t : List Int} (ht : t.length = x.st.length) : noF x set 0 t = okR x set t x.cl.length := by
  rw [Bool.eq_iff_iff, okR_iff]
  simp only [noF, List.all_eq_true, List.mem_range, Bool.not_eq_true']
  have hf : ∀ k, k < x.cl.length → flB x set k 0 t = (set.testBit k && !rightT x t k) := fun k hk => by
    have hc := kx.cs k hk
    simp only [flB, rightT, Nat.sub_zero]
    rw [decide_eq_true (by omega), Bool.true_and]
  constructor
  · intro h k hk hb
    have := h k hk
    rw [hf k hk, hb] at this
    simpa using this
  · intro h k hk
    rw [hf k hk]
    cases hb : set.testBit k with
    | false => rfl
    | true => rw [h k hk hb]; rfl
theorem clash_pred {x : Ir} (k : Ok x) (set : Nat) : clP x set = clsB x (truA x) set := by
  have h : truA x = cont x (fullS x) 0 false x.st.length 0 u0 := truS_cont x (fullS x) 0 k.gd
  have e : (tlN x (fullS x) set true).getD 0 = ((truA x).filter (noF x set 0)).length := by
    rw [tlN, tl_eq x (fullS x) set true 1 moreN joinN (fun a b c => Nat.add_assoc a b c) (fun s o a b => rfl), foldN, List.length_map, cont_must k (fullS x) set 0 x.st.length 0 u0 (fun j _ hj => full_bit _ _ (by omega)), ← h]
    intro a ha
    obtain ⟨t, _, rfl⟩ := List.mem_map.1 ha
    exact valN 0 t
  rw [clP, e, Bool.eq_iff_iff, decide_eq_true_eq, List.length_eq_zero_iff, List.filter_eq_nil_iff, clsB, List.all_eq_true]
  constructor
  · intro h t ht
    have := h t ht
    rw [noF_okR k (truA_mem ht).1] at this
    simpa using this
  · intro h t ht
    have := h t ht
    rw [noF_okR k (truA_mem ht).1]
    simpa using this
theorem clash_eq {x : Ir} (k : Ok x) : clashR x = rset (clsB x (truA x)) x.cl.length := by
  have e : clP x = clsB x (truA x) := by funext set; exact clash_pred k set
  rw [clashR, e]
  refine few_rset k.nC fun i hi hf => ?_
  rw [clsB, List.all_eq_true] at hf ⊢
  intro t ht
  have h1 := hf t ht
  rw [Bool.not_eq_true'] at h1 ⊢
  rw [← Bool.not_eq_true, okR_iff] at h1 ⊢
  intro h2
  exact h1 fun k hk _ => h2 k hk (full_bit _ _ hk)
end Go.Proofs.Ytkonoggmdcdeeaa
end
section
set_option linter.unusedVariables false
set_option linter.unusedSimpArgs false
set_option maxHeartbeats 4000000
set_option maxRecDepth 100000
namespace Go.Proofs.Ytkonoggmdcdeeaa
open Go.V
/-- Irons of which a strake is known to be an owner's are not too large. -/
def fxB (x : Ir) (s : Nat) : Bool := decide (x.F + 1 ≤ 4) && decide ((x.st.getD s []).length + 1 ≤ 6)
def rowF (x : Ir) (o : Nat) : Nat → List AV := fun j => [intsAV (owW x o j)]
theorem rowF_step {x : Ir} {o i : Nat} {z : Int} (ez : owW x o i = x.ow.getD i [] ++ [z]) :
    Obj.Le (.row 1 (i + 1) (appF i 1 (rowF x o) fun q => [[AV.rsl ((x.ow.getD i []).length + 1) 1 (extF (x.ow.getD i []) z)]].getD q [])) (.row 1 (i + 1) (rowF x o)) := by
  refine row_leA (fun q hq => ?_) fun q hq c hc => ?_
  · rw [appF_at (by omega)]
    split
    · rfl
    · rw [show q - i = 0 by omega]; rfl
  · have hc0 : c = 0 := by omega
    subst hc0
    rw [appF_at (by omega)]
    split
    · exact AV.Le.refl _
    · have hq2 : q = i := by omega
      subst hq2
      rw [Nat.sub_self]
      simp only [List.getD_cons_zero, rowF, ez, intsAV, List.length_append, List.length_cons, List.length_nil, Nat.zero_add]
      exact AV.Le.rsl fun j hj => cp_app _ _ j hj
theorem rowF_frz {x : Ir} {o i iz q c w : Nat} {F : Nat → List AV} (hq : q < i + 1) (hc : c < 1) :
    Frz iz 1 w F ((appF i 1 (rowF x o) (fun q => [[AV.sl iz 1 w]].getD q []) q).getD c .any) ((appF i 1 (rowF x o) (fun q => [[AV.rsl w 1 F]].getD q []) q).getD c .any) := by
  have hc0 : c = 0 := by omega
  subst hc0
  rw [appF_at (by omega), appF_at (by omega)]
  split
  · exact Frz.rfl
  · rw [show q - i = 0 by omega]; exact Frz.hit
theorem rowF_le (x : Ir) (s o : Nat) : AV.Le (.rsl x.ow.length 1 (rowF x o)) (llAV (withI x s o).ow) := by
  have hl : (withI x s o).ow.length = x.ow.length := by simp [withI]
  simp only [llAV, hl]
  refine AV.Le.rsl fun i hi => ?_
  simp only [rowF, llF, withI, getD_mapR _ _ _ _ hi]
theorem st_leF (x : Ir) (s o : Nat) (hs : s < x.st.length) : AV.Le (.rsl x.st.length 1 fun j => if j = s then [.rsl ((x.st.getD s []).length + 1) 3 (extM (x.st.getD s []) x.F)] else stF x.st j) (stAV (withI x s o).st) := by
  have hl : (withI x s o).st.length = x.st.length := by simp [withI]
  simp only [stAV, hl]
  refine AV.Le.rslA (fun i hi => ?_) fun i hi j hj => ?_
  · split <;> rfl
  · have hj0 : j = 0 := by omega
    subst hj0
    have e : stF (withI x s o).st i = [mksAV (stW x s i)] := by simp only [stF, withI, getD_mapR _ _ _ _ hi]
    rw [e]
    by_cases eq : i = s
    · subst eq
      rw [if_pos rfl]
      simp only [List.getD_cons_zero, stW, if_true, mksAV, List.length_append, List.length_cons, List.length_nil, Nat.zero_add]
      exact AV.Le.rsl fun q hq => extM_at _ _ q hq
    · rw [if_neg eq]
      simp only [stW, eq, if_false]
      exact AV.Le.refl _
theorem stF_frz {x : Ir} {s im q c w : Nat} {F : Nat → List AV} (hs : s < x.st.length) (hq : q < x.st.length) (hc : c < 1) :
    Frz im 3 w F ((updF x.st.length s (stF x.st) [AV.sl im 3 w] q).getD c .any) ((if q = s then [AV.rsl w 3 F] else stF x.st q).getD c .any) := by
  have hc0 : c = 0 := by omega
  subst hc0
  rw [updF_at hs hq]
  split
  · exact Frz.hit
  · exact Frz.rfl
theorem fixed_tri (x : Ir) (s o : Nat) (H : Hp) (k : Ok x) (hs : s < x.st.length) (ho : o < x.ow.length) :
    PTri Try.prog (fnA 34) [x.av, i64 s, i64 o] H (.tuple [(withI x s o).av, boo (fxB x s)]) := by
  have nO := k.nO
  have nS := k.nS
  have hF := k.F
  refine tri_vs (m := mset [17, 20, 36, 38, 41, 43, 49, 55, 60]) Try.func34 (by kernel_rfl) rfl (by simp only [List.length_append, List.length_cons, List.length_nil, Try.ntmps34]; decide) ?_
  simp only [vsAll, binA, binLitA, intA, loadA, loadRow, partA, partOk, fieldAddrA, lenA, boxA, cellA, cellsA, okParts, buildMutA, partIdx, elemsA, lensA, partsA, partsOk, opA, allocA, newCells, okCells, storeObj, appendA, dstOk, nilSliceOp, argFr, Nat.reduceAdd, Nat.reduceMul, Nat.reduceLT, Nat.reduceLeDiff, Nat.reduceEqDiff, Nat.reduceBEq, ↓reduceIte, eq_self, wtAll, Try.ntmps34]
  intro i6 hh_i6; (try simp only [Hp.set_none, ite_none] at hh_i6)
  intro i8 hh_i8; (try simp only [ite_none] at hh_i8)
  refine ⟨by simp only [InR_i64]; ((try clear hh_i6); (try clear hh_i8); omega), ?_⟩
  intro ist hh_ist; (try simp only [ite_none] at hh_ist)
  simp only [vsAll, Nat.reduceLT, ↓reduceIte, eq_self, hh_ist]
  refine ⟨fun i hi => by simp [stF, okCells, cellA], by ((try clear hh_i6); (try clear hh_i8); (try clear hh_ist); omega), by ((try clear hh_i6); (try clear hh_i8); (try clear hh_ist); omega), ?_⟩
  refine vs_entL (Ent.nilBox 1 (fun _ => []) (fun id _ => [i64 (x.F + 1), .sl id 1 0, intsAV x.mo, .sl ist 1 x.st.length, clAV x.cl]) (j := i8) (st' := 5) (n' := 1) (g := fun _ => [i64 (x.F + 1), .lit (.slice none 0 0), intsAV x.mo, .sl ist 1 x.st.length, clAV x.cl]) (by simp only [vsAll, ↓reduceIte, eq_self]) (fun _ _ _ => rfl) (fun id q d hq hd => ?_) fun iow hiow => ?_)
  · match d, hd with
    | 0, _ => exact Nld.rfl
    | 1, _ => exact Nld.hit
    | 2, _ => exact Nld.rfl
    | 3, _ => exact Nld.rfl
    | 4, _ => exact Nld.rfl
  simp only [Hp.set_none] at hiow
  have d1 := hiow.1
  have d2 := hiow.2.1
  skip
  refine vs_loop (σ := Nat) (fun i => i ≤ x.ow.length) (fun i => [(1, i64 s), (2, i64 o), (3, .rptr 1 5 (fun _ => x.cs) 0 0), (6, .ref i6 0 5 0 0), (8, .ref i8 0 5 0 0), (24, llAV x.ow), (25, i64 x.ow.length), (26, i64 i)])
    (fun i => ((((H.set i6 (.box 5 1 fun _ => [i64 0, .lit (.slice none 0 0), .lit (.slice none 0 0), .lit (.slice none 0 0), .lit (.slice none 0 0)])).set ist (.row 1 x.st.length (stF x.st))).set iow (.row 1 i (rowF x o))).set i8 (.box 5 1 fun _ => [i64 (x.F + 1), .sl iow 1 i, intsAV x.mo, .sl ist 1 x.st.length, clAV x.cl]))) (fun i => x.ow.length - i) 0 (by ((try clear hh_i6); (try clear hh_i8); (try clear hh_ist); (try clear d1); (try clear d2); (try clear hiow); omega)) ?_ ?_ fun i hi => ?_
  · simp only [vsAll, argFr, Nat.reduceEqDiff, ↓reduceIte, eq_self, Int.natCast_zero]
  · refine HSub.set (HSub.set (HSub_drop2 (by simp only [vsAll, ↓reduceIte, eq_self, hh_i8, hh_ist]) (HSub_drop2 (by simp only [vsAll, ↓reduceIte, eq_self, hh_i8, hh_ist]) (HSub.set (HSub_drop2 (by simp only [vsAll, ↓reduceIte, eq_self, hh_ist]) (HSub_drop2 (by simp only [vsAll, ↓reduceIte, eq_self, hh_i8]) (HSub_drop2 (by simp only [vsAll, ↓reduceIte, eq_self, hh_i8]) (HSub_drop2 (by simp only [vsAll, ↓reduceIte, eq_self, hh_i8]) HSub_rfl)))) (row_ext fun q hq => ?_)))) (row_ext fun q hq => absurd hq (Nat.not_lt_zero q))) (.refl _)
    rw [appF_at (by ((try clear hh_i6); (try clear hh_i8); (try clear hh_ist); (try clear d1); (try clear d2); (try clear hiow); omega)), if_neg (by ((try clear hh_i6); (try clear hh_i8); (try clear hh_ist); (try clear d1); (try clear d2); (try clear hiow); omega)), Nat.sub_zero]
  · simp only [vsAll, binA, binLitA, intA, opA, dstOk, Nat.reduceLT, Nat.reduceEqDiff, ↓reduceIte, eq_self]
    refine condD (fun hd => ?_) (fun hd => ?_)
    · have hfl := k.ow i (by ((try clear hh_i6); (try clear hh_i8); (try clear hh_ist); (try clear d1); (try clear d2); (try clear hiow); omega))
      simp only [vsAll, binA, binLitA, intA, loadA, loadRow, partA, partOk, indexAddrA, opA, dstOk, nilSliceOp, Nat.reduceLT, Nat.reduceEqDiff, Nat.reduceBEq, ↓reduceIte, eq_self, wtAll, llF_at]
      refine ⟨by ((try clear hh_i6); (try clear hh_i8); (try clear hh_ist); (try clear d1); (try clear d2); (try clear hiow); omega), by ((try clear hh_i6); (try clear hh_i8); (try clear hh_ist); (try clear d1); (try clear d2); (try clear hiow); omega), condV (fun hc => ?_) (fun hc => ?_)⟩
      · have hc : i = o := by have := of_decide_eq_true hc; ((try clear hh_i6); (try clear hh_i8); (try clear hh_ist); (try clear d1); (try clear d2); (try clear hiow); omega)
        have ez : owW x o i = x.ow.getD i [] ++ [1] := by simp only [owW, hc, if_true]
        simp only [vsAll, opA, dstOk, nilSliceOp, Nat.reduceLT, Nat.reduceBEq, eq_self]
        refine vs_draw2 [0, 0, 1, 0, 3, 0, 0, 5, 6, 7, 8, 9] [([0, 1, 3, 5, 6], [1], 2), ([], [1], 4), ([], [1], 7), ([8], [], 9), ([10], [], 11)] [] (by decide +kernel) ?_
        simp only [vsAll, binA, binLitA, intA, loadA, loadRow, partA, partOk, fieldAddrA, cellA, cellsA, okParts, buildSliceA, buildMutA, partIdx, elemsA, lensA, partsA, partsOk, opA, newCells, okCells, storeObj, appendA, dstOk, Nat.reduceAdd, Nat.reduceMul, Nat.reduceLT, Nat.reduceLeDiff, Nat.reduceEqDiff, Nat.reduceBEq, ↓reduceIte, eq_self, wtAll, d1]
        intro iz hh_iz; (try simp only [ite_none] at hh_iz)
        simp only [vsAll, Nat.reduceLT, ↓reduceIte, eq_self, hh_iz]
        refine ⟨fun q hq => by simp [intF, okCells, cellA], by ((try clear hh_i6); (try clear hh_i8); (try clear hh_ist); (try clear d1); (try clear d2); (try clear hiow); (try clear hh_iz); omega), by ((try clear hh_i6); (try clear hh_i8); (try clear hh_ist); (try clear d1); (try clear d2); (try clear hiow); (try clear hh_iz); omega), fun q hq => by simp [okCells, cellA, show q = 0 by ((try clear hh_i6); (try clear hh_i8); (try clear hh_ist); (try clear d1); (try clear d2); (try clear hiow); (try clear hh_iz); omega)], by ((try clear hh_i6); (try clear hh_i8); (try clear hh_ist); (try clear d1); (try clear d2); (try clear hiow); (try clear hh_iz); omega), by ((try clear hh_i6); (try clear hh_i8); (try clear hh_ist); (try clear d1); (try clear d2); (try clear hiow); (try clear hh_iz); omega), fun q hq => by simp [okCells, cellA, show q = 0 by ((try clear hh_i6); (try clear hh_i8); (try clear hh_ist); (try clear d1); (try clear d2); (try clear hiow); (try clear hh_iz); omega)], by ((try clear hh_i6); (try clear hh_i8); (try clear hh_ist); (try clear d1); (try clear d2); (try clear hiow); (try clear hh_iz); omega), by ((try clear hh_i6); (try clear hh_i8); (try clear hh_ist); (try clear d1); (try clear d2); (try clear hiow); (try clear hh_iz); omega), by simp only [InR_i64]; ((try clear hh_i6); (try clear hh_i8); (try clear hh_ist); (try clear d1); (try clear d2); (try clear hiow); (try clear hh_iz); omega), ?_⟩
        rw [Hp.set_set, Hp.set_set]
        refine loop_ent (Ent.freezeRow (s' := _) (id := iz) (st := 1) (n := (x.ow.getD i []).length + 1) (f := extF (x.ow.getD i []) 1) (j := iow) (st' := 1) (n' := i + 1) (g := appF i 1 (rowF x o) (fun q => [[AV.sl iz 1 ((x.ow.getD i []).length + 1)]].getD q []))
          (g' := appF i 1 (rowF x o) (fun q => [[AV.rsl ((x.ow.getD i []).length + 1) 1 (extF (x.ow.getD i []) 1)]].getD q [])) (by simp only [vsAll, ↓reduceIte, eq_self, hh_iz]) (by simp only [vsAll, ↓reduceIte, eq_self, d1]) (by simp only [vsAll, ne_eq, hh_iz]) (fun t => .rfl) (fun q hq => ?_) (fun q c hq hc' => rowF_frz hq hc') ?_)
        · rw [appF_at (by ((try clear hh_i6); (try clear hh_i8); (try clear hh_ist); (try clear d1); (try clear d2); (try clear hiow); (try clear hh_iz); omega))]
          split
          · rfl
          · rw [show q - i = 0 by ((try clear hh_i6); (try clear hh_i8); (try clear hh_ist); (try clear d1); (try clear d2); (try clear hiow); (try clear hh_iz); omega)]; rfl
        · refine loop_next (i + 1) (by ((try clear hh_i6); (try clear hh_i8); (try clear hh_ist); (try clear d1); (try clear d2); (try clear hiow); (try clear hh_iz); omega)) (by ((try clear hh_i6); (try clear hh_i8); (try clear hh_ist); (try clear d1); (try clear d2); (try clear hiow); (try clear hh_iz); omega)) ?_ ?_
          · simp only [vsAll, Nat.reduceEqDiff, ↓reduceIte, eq_self, Int.natCast_add, Int.natCast_one]
          · exact HSub_put (o' := .box 5 1 fun _ => [i64 (x.F + 1), .sl iow 1 (i + 1), intsAV x.mo, .sl ist 1 x.st.length, clAV x.cl]) (by simp only [vsAll, ↓reduceIte, eq_self, d1, hh_iz, Hp.del_get]) (.refl _) (HSub.set (HSub_del (by simp only [vsAll, ↓reduceIte, eq_self, hh_iz]) (HSub_drop2 (by simp only [vsAll, ↓reduceIte, eq_self, hh_i8, hh_ist]) (HSub_drop2 (by simp only [vsAll, ↓reduceIte, eq_self, hiow]) (HSub_drop2 (by simp only [vsAll, ↓reduceIte, eq_self, hh_iz]) (HSub_drop2 (by simp only [vsAll, ↓reduceIte, eq_self, hh_i8, hh_ist]) (HSub_drop2 (by simp only [vsAll, ↓reduceIte, eq_self, hiow]) HSub_rfl)))))) (rowF_step ez))
      · have hc : ¬ i = o := by have := of_decide_eq_false hc; ((try clear hh_i6); (try clear hh_i8); (try clear hh_ist); (try clear d1); (try clear d2); (try clear hiow); omega)
        have ez : owW x o i = x.ow.getD i [] ++ [0] := by simp only [owW, hc, if_false]
        simp only [vsAll]
        refine vs_draw2 [0, 0, 1, 0, 3, 0, 0, 5, 6, 7, 8, 9] [([0, 1, 3, 5, 6], [1], 2), ([], [1], 4), ([], [1], 7), ([8], [], 9), ([10], [], 11)] [] (by decide +kernel) ?_
        simp only [vsAll, binA, binLitA, intA, loadA, loadRow, partA, partOk, fieldAddrA, cellA, cellsA, okParts, buildSliceA, buildMutA, partIdx, elemsA, lensA, partsA, partsOk, opA, newCells, okCells, storeObj, appendA, dstOk, Nat.reduceAdd, Nat.reduceMul, Nat.reduceLT, Nat.reduceLeDiff, Nat.reduceEqDiff, Nat.reduceBEq, ↓reduceIte, eq_self, wtAll, d1]
        intro iz hh_iz; (try simp only [ite_none] at hh_iz)
        simp only [vsAll, Nat.reduceLT, ↓reduceIte, eq_self, hh_iz]
        refine ⟨fun q hq => by simp [intF, okCells, cellA], by ((try clear hh_i6); (try clear hh_i8); (try clear hh_ist); (try clear d1); (try clear d2); (try clear hiow); (try clear hh_iz); omega), by ((try clear hh_i6); (try clear hh_i8); (try clear hh_ist); (try clear d1); (try clear d2); (try clear hiow); (try clear hh_iz); omega), fun q hq => by simp [okCells, cellA, show q = 0 by ((try clear hh_i6); (try clear hh_i8); (try clear hh_ist); (try clear d1); (try clear d2); (try clear hiow); (try clear hh_iz); omega)], by ((try clear hh_i6); (try clear hh_i8); (try clear hh_ist); (try clear d1); (try clear d2); (try clear hiow); (try clear hh_iz); omega), by ((try clear hh_i6); (try clear hh_i8); (try clear hh_ist); (try clear d1); (try clear d2); (try clear hiow); (try clear hh_iz); omega), fun q hq => by simp [okCells, cellA, show q = 0 by ((try clear hh_i6); (try clear hh_i8); (try clear hh_ist); (try clear d1); (try clear d2); (try clear hiow); (try clear hh_iz); omega)], by ((try clear hh_i6); (try clear hh_i8); (try clear hh_ist); (try clear d1); (try clear d2); (try clear hiow); (try clear hh_iz); omega), by ((try clear hh_i6); (try clear hh_i8); (try clear hh_ist); (try clear d1); (try clear d2); (try clear hiow); (try clear hh_iz); omega), by simp only [InR_i64]; ((try clear hh_i6); (try clear hh_i8); (try clear hh_ist); (try clear d1); (try clear d2); (try clear hiow); (try clear hh_iz); omega), ?_⟩
        rw [Hp.set_set, Hp.set_set]
        refine loop_ent (Ent.freezeRow (s' := _) (id := iz) (st := 1) (n := (x.ow.getD i []).length + 1) (f := extF (x.ow.getD i []) 0) (j := iow) (st' := 1) (n' := i + 1) (g := appF i 1 (rowF x o) (fun q => [[AV.sl iz 1 ((x.ow.getD i []).length + 1)]].getD q []))
          (g' := appF i 1 (rowF x o) (fun q => [[AV.rsl ((x.ow.getD i []).length + 1) 1 (extF (x.ow.getD i []) 0)]].getD q [])) (by simp only [vsAll, ↓reduceIte, eq_self, hh_iz]) (by simp only [vsAll, ↓reduceIte, eq_self, d1]) (by simp only [vsAll, ne_eq, hh_iz]) (fun t => .rfl) (fun q hq => ?_) (fun q c hq hc' => rowF_frz hq hc') ?_)
        · rw [appF_at (by ((try clear hh_i6); (try clear hh_i8); (try clear hh_ist); (try clear d1); (try clear d2); (try clear hiow); (try clear hh_iz); omega))]
          split
          · rfl
          · rw [show q - i = 0 by ((try clear hh_i6); (try clear hh_i8); (try clear hh_ist); (try clear d1); (try clear d2); (try clear hiow); (try clear hh_iz); omega)]; rfl
        · refine loop_next (i + 1) (by ((try clear hh_i6); (try clear hh_i8); (try clear hh_ist); (try clear d1); (try clear d2); (try clear hiow); (try clear hh_iz); omega)) (by ((try clear hh_i6); (try clear hh_i8); (try clear hh_ist); (try clear d1); (try clear d2); (try clear hiow); (try clear hh_iz); omega)) ?_ ?_
          · simp only [vsAll, Nat.reduceEqDiff, ↓reduceIte, eq_self, Int.natCast_add, Int.natCast_one]
          · exact HSub_put (o' := .box 5 1 fun _ => [i64 (x.F + 1), .sl iow 1 (i + 1), intsAV x.mo, .sl ist 1 x.st.length, clAV x.cl]) (by simp only [vsAll, ↓reduceIte, eq_self, d1, hh_iz, Hp.del_get]) (.refl _) (HSub.set (HSub_del (by simp only [vsAll, ↓reduceIte, eq_self, hh_iz]) (HSub_drop2 (by simp only [vsAll, ↓reduceIte, eq_self, hh_i8, hh_ist]) (HSub_drop2 (by simp only [vsAll, ↓reduceIte, eq_self, hiow]) (HSub_drop2 (by simp only [vsAll, ↓reduceIte, eq_self, hh_iz]) (HSub_drop2 (by simp only [vsAll, ↓reduceIte, eq_self, hh_i8, hh_ist]) (HSub_drop2 (by simp only [vsAll, ↓reduceIte, eq_self, hiow]) HSub_rfl)))))) (rowF_step ez))
    · have ei : i = x.ow.length := by ((try clear hh_i6); (try clear hh_i8); (try clear hh_ist); (try clear d1); (try clear d2); (try clear hiow); omega)
      subst ei
      have hml := k.st s hs
      simp only [vsAll, ↓reduceIte, eq_self]
      refine vs_draw2 [0, 0, 0, 1, 0, 0, 0, 0, 0, 3, 0, 0, 4, 4, 5, 6, 7] [([0, 1, 2, 4, 5, 6, 7, 8, 10, 11], [1, 5, 8, 11], 3), ([], [1, 11], 9), ([12, 13], [1], 14), ([15], [], 16)] [] (by decide +kernel) ?_
      simp only [vsAll, loadA, loadRow, partA, partOk, fieldAddrA, indexAddrA, okParts, buildMutA, partIdx, elemsA, lensA, partsA, partsOk, opA, appendA, dstOk, Nat.reduceMul, Nat.reduceLT, Nat.reduceLeDiff, Nat.reduceEqDiff, Nat.reduceBEq, ↓reduceIte, eq_self, wtAll, stF_at]
      refine ⟨by ((try clear hh_i6); (try clear hh_i8); (try clear hh_ist); (try clear d1); (try clear d2); (try clear hiow); omega), by ((try clear hh_i6); (try clear hh_i8); (try clear hh_ist); (try clear d1); (try clear d2); (try clear hiow); omega), ?_⟩
      intro im hh_im; (try simp only [ite_none] at hh_im)
      simp only [vsAll, Nat.reduceLT, ↓reduceIte, eq_self, hh_im]
      refine ⟨by ((try clear hh_i6); (try clear hh_i8); (try clear hh_ist); (try clear d1); (try clear d2); (try clear hiow); (try clear hh_im); omega), fun q hq => by simp [mkF, okCells, cellA], by ((try clear hh_i6); (try clear hh_i8); (try clear hh_ist); (try clear d1); (try clear d2); (try clear hiow); (try clear hh_im); omega), by ((try clear hh_i6); (try clear hh_i8); (try clear hh_ist); (try clear d1); (try clear d2); (try clear hiow); (try clear hh_im); omega), ?_⟩
      refine qcall _ ⟨trivial, by simp only [vsAll, okAll, opsA, opA, Nat.reduceEqDiff, ↓reduceIte, eq_self], mark_tri x.F 1 1 _⟩ ?_
      simp only [vsAll, loadA, loadRow, partA, partOk, indexAddrA, cellA, cellsA, okParts, buildSliceA, partIdx, elemsA, lensA, partsA, partsOk, opA, newCells, okCells, storeObj, appendA, dstOk, Nat.reduceAdd, Nat.reduceMul, Nat.reduceLT, Nat.reduceLeDiff, Nat.reduceEqDiff, ↓reduceIte, eq_self, wtAll, hh_ist, hiow, hh_im, stF_at]
      refine ⟨fun q hq => by simp [okCells, cellA, show q = 0 by ((try clear hh_i6); (try clear hh_i8); (try clear hh_ist); (try clear d1); (try clear d2); (try clear hiow); (try clear hh_im); omega)], by ((try clear hh_i6); (try clear hh_i8); (try clear hh_ist); (try clear d1); (try clear d2); (try clear hiow); (try clear hh_im); omega), by ((try clear hh_i6); (try clear hh_i8); (try clear hh_ist); (try clear d1); (try clear d2); (try clear hiow); (try clear hh_im); omega), by ((try clear hh_i6); (try clear hh_i8); (try clear hh_ist); (try clear d1); (try clear d2); (try clear hiow); (try clear hh_im); omega), by ((try clear hh_i6); (try clear hh_i8); (try clear hh_ist); (try clear d1); (try clear d2); (try clear hiow); (try clear hh_im); omega), ?_⟩
      rw [Hp.set_set, Hp.set_set]
      refine vs_entR (Ent.of [(1, i64 s), (3, .rptr 1 5 (fun _ => x.cs) 0 0), (6, .ref i6 0 5 0 0), (8, .ref i8 0 5 0 0)] (H' := (((((H.set i6 (.box 5 1 fun _ => [i64 0, .lit (.slice none 0 0), .lit (.slice none 0 0), .lit (.slice none 0 0), .lit (.slice none 0 0)])).set i8 (.box 5 1 fun _ => [i64 (x.F + 1), .sl iow 1 x.ow.length, intsAV x.mo, .sl ist 1 x.st.length, clAV x.cl])).set iow (.row 1 x.ow.length (rowF x o))).set im (.row 3 ((x.st.getD s []).length + 1) (extM (x.st.getD s []) x.F))).set ist (.row 1 x.st.length (updF x.st.length s (stF x.st) [.sl im 3 ((x.st.getD s []).length + 1)])))) (by simp only [vsAll, Nat.reduceEqDiff, ↓reduceIte, eq_self]) (by (repeat (first | exact HSub_rfl | refine HSub_put_eq (by simp only [vsAll, ↓reduceIte, eq_self, hh_i8, hh_ist, d1, hiow, hh_im]) ?_ | refine HSub_drop2 (by simp only [eq_self, hh_i6, hh_i8, hh_ist, hiow, hh_im]) ?_ | refine HSub_keep_eq (by simp only [vsAll, binA, binLitA, intA, aggA, boolA, nilA2, isConst, unA, loadA, loadRow, partA, partOk, fieldAddrA, indexAddrA, indexA, fieldA, extractA, lenA, nilCheckA, boxA, cellA, cellsA, fillA, okParts, buildSliceA, buildMutA, makeSliceA, partIdx, elemsA, lensA, ifaceA, convA, mmA, pickA, okAll, stAll, opsA, partsA, partsOk, opA, allocA, boxMutA, newCells, okCells, storeObj, appendA, guardV, taA, nM, mapUpA, lookA, sliceA, boundsA, opO, okO, copyA, dstOk, nilA, quietOk, nilSliceOp, panA, resA, argFr, retA.eq_1, retA.eq_2, Nat.reduceAdd, Nat.reduceSub, Nat.reduceMul, Nat.reduceLT, Nat.reduceLeDiff, Nat.reduceEqDiff, Nat.reduceBEq, Int.reduceAdd, Int.reduceSub, Int.reduceMul, Int.reduceNeg, Int.reduceLE, Int.reduceLT, Int.reduceEq, Int.reduceNe, Int.reduceToNat, ↓reduceIte, reduceCtorEq, implies_true, forall_const, eq_self, ne_eq, wtAll, Try.ntmps34, Try.results34, hh_i6, hh_i8, hh_ist, d1, d2, hiow, hh_im]) ?_))) ?_)
      refine vs_entR (Ent.freezeRow (s' := _) (id := im) (st := 3) (n := (x.st.getD s []).length + 1) (f := extM (x.st.getD s []) x.F) (j := ist) (st' := 1) (n' := x.st.length) (g := (updF x.st.length s (stF x.st) [.sl im 3 ((x.st.getD s []).length + 1)])) (g' := (fun j => if j = s then [.rsl ((x.st.getD s []).length + 1) 3 (extM (x.st.getD s []) x.F)] else stF x.st j)) (by simp only [vsAll, ↓reduceIte, eq_self, hh_im]) (by simp only [vsAll, ↓reduceIte, eq_self]) (by simp only [vsAll, ne_eq, hh_im]) (fun t => .rfl) (fun q hq => ?_) (fun q c hq hc => stF_frz hs hq hc) ?_)
      · show (ite _ _ _ : List AV).length = 1
        split <;> rfl
      refine vs_entR (Ent.of [(1, i64 s), (3, .rptr 1 5 (fun _ => x.cs) 0 0), (6, .ref i6 0 5 0 0), (8, .ref i8 0 5 0 0)] (H' := ((((H.set i6 (.box 5 1 fun _ => [i64 0, .lit (.slice none 0 0), .lit (.slice none 0 0), .lit (.slice none 0 0), .lit (.slice none 0 0)])).set i8 (.box 5 1 fun _ => [i64 (x.F + 1), .sl iow 1 x.ow.length, intsAV x.mo, .sl ist 1 x.st.length, clAV x.cl])).set iow (.row 1 x.ow.length (rowF x o))).set ist (.row 1 x.st.length (fun j => if j = s then [.rsl ((x.st.getD s []).length + 1) 3 (extM (x.st.getD s []) x.F)] else stF x.st j)))) (by simp only [vsAll, Nat.reduceEqDiff, ↓reduceIte, eq_self]) ?_ ?_)
      · exact HSub.set (HSub_del (by simp only [vsAll, ↓reduceIte, eq_self, hh_im]) (HSub_drop2 (by simp only [vsAll, ↓reduceIte, eq_self, hh_ist, hiow]) (HSub_drop2 (by simp only [vsAll, ↓reduceIte, eq_self, hh_im]) HSub_rfl))) (.refl _)
      refine vs_entR (Ent.freezeBox (s' := _) (id := iow) (st := 1) (n := x.ow.length) (f := rowF x o) (j := i8) (st' := 5) (n' := 1) (g := fun _ => [i64 (x.F + 1), .sl iow 1 x.ow.length, intsAV x.mo, .sl ist 1 x.st.length, clAV x.cl]) (g' := fun _ => [i64 (x.F + 1), .rsl x.ow.length 1 (rowF x o), intsAV x.mo, .sl ist 1 x.st.length, clAV x.cl]) (by simp only [vsAll, ↓reduceIte, eq_self, hiow]) (by simp only [vsAll, ↓reduceIte, eq_self, hh_ist, d1]) (fun t => .rfl) (fun _ _ => rfl) (fun q c hq hc => ?_) ?_)
      · match c, hc with
        | 0, _ => exact .rfl
        | 1, _ => exact .hit
        | 2, _ => exact .rfl
        | 3, _ => exact .rfl
        | 4, _ => exact .rfl
      refine vs_entR (Ent.of [(1, i64 s), (3, .rptr 1 5 (fun _ => x.cs) 0 0), (6, .ref i6 0 5 0 0), (8, .ref i8 0 5 0 0)] (H' := ((H.set i6 (.box 5 1 fun _ => [i64 0, .lit (.slice none 0 0), .lit (.slice none 0 0), .lit (.slice none 0 0), .lit (.slice none 0 0)])).set i8 (.box 5 1 fun _ => [i64 (x.F + 1), .rsl x.ow.length 1 (rowF x o), intsAV x.mo, .sl ist 1 x.st.length, clAV x.cl])).set ist (.row 1 x.st.length (fun j => if j = s then [.rsl ((x.st.getD s []).length + 1) 3 (extM (x.st.getD s []) x.F)] else stF x.st j))) (by simp only [vsAll, Nat.reduceEqDiff, ↓reduceIte, eq_self]) ?_ ?_)
      · exact HSub_put (o' := .row 1 x.st.length (fun j => if j = s then [.rsl ((x.st.getD s []).length + 1) 3 (extM (x.st.getD s []) x.F)] else stF x.st j)) (by simp only [vsAll, ↓reduceIte, eq_self, hh_ist, hiow, Hp.del_get]) (.refl _) (HSub.set (HSub_del (by simp only [vsAll, ↓reduceIte, eq_self, hiow]) (HSub_drop2 (by simp only [vsAll, ↓reduceIte, eq_self, hh_ist]) (HSub_drop2 (by simp only [vsAll, ↓reduceIte, eq_self, hiow]) (HSub_drop2 (by simp only [vsAll, ↓reduceIte, eq_self, hh_i8]) HSub_rfl)))) (.refl _))
      refine vs_entR (Ent.freezeBox (s' := _) (id := ist) (st := 1) (n := x.st.length) (f := (fun j => if j = s then [.rsl ((x.st.getD s []).length + 1) 3 (extM (x.st.getD s []) x.F)] else stF x.st j)) (j := i8) (st' := 5) (n' := 1) (g := fun _ => [i64 (x.F + 1), .rsl x.ow.length 1 (rowF x o), intsAV x.mo, .sl ist 1 x.st.length, clAV x.cl]) (g' := fun _ => [i64 (x.F + 1), .rsl x.ow.length 1 (rowF x o), intsAV x.mo, .rsl x.st.length 1 (fun j => if j = s then [.rsl ((x.st.getD s []).length + 1) 3 (extM (x.st.getD s []) x.F)] else stF x.st j), clAV x.cl]) (by simp only [vsAll, ↓reduceIte, eq_self]) (by simp only [vsAll, ↓reduceIte, eq_self, hh_ist]) (fun t => .rfl) (fun _ _ => rfl) (fun q c hq hc => ?_) ?_)
      · match c, hc with
        | 0, _ => exact .rfl
        | 1, _ => exact .rfl
        | 2, _ => exact .rfl
        | 3, _ => exact .hit
        | 4, _ => exact .rfl
      refine vs_entR (Ent.of [(1, i64 s), (3, .rptr 1 5 (fun _ => x.cs) 0 0), (6, .ref i6 0 5 0 0), (8, .ref i8 0 5 0 0)] (H' := (H.set i6 (.box 5 1 fun _ => [i64 0, .lit (.slice none 0 0), .lit (.slice none 0 0), .lit (.slice none 0 0), .lit (.slice none 0 0)])).set i8 (.box 5 1 fun _ => (withI x s o).cs)) (by simp only [vsAll, Nat.reduceEqDiff, ↓reduceIte, eq_self]) ?_ ?_)
      · refine HSub.set (HSub_del (by simp only [vsAll, ↓reduceIte, eq_self, hh_ist]) (HSub_drop2 (by simp only [vsAll, ↓reduceIte, eq_self, hh_ist]) (HSub_drop2 (by simp only [vsAll, ↓reduceIte, eq_self, hh_i8]) HSub_rfl))) (box_leA (fun _ _ => rfl) fun q hq c hc => ?_)
        match c, hc with
        | 0, _ => exact AV.Le.refl _
        | 1, _ => exact rowF_le x s o
        | 2, _ => exact AV.Le.refl _
        | 3, _ => exact st_leF x s o hs
        | 4, _ => exact AV.Le.refl _
      have ls : (withI x s o).st.length = x.st.length := by simp [withI]
      have lF : (withI x s o).F = x.F + 1 := rfl
      have lm : ((withI x s o).st.getD s []).length = (x.st.getD s []).length + 1 := by rw [withI_st hs, stW, if_pos rfl, List.length_append]; rfl
      generalize hy : withI x s o = y at ls lF lm ⊢
      refine vs_draw2 [0, 0, 0, 0, 0, 0, 0, 0, 0, 0, 0, 0, 0, 1, 3] [([0, 1, 2, 3, 4, 5, 6, 7, 8, 9, 10, 11, 12], [6, 9], 13), ([], [], 14)] [] (by decide +kernel) ?_
      simp only [vsAll, binA, binLitA, intA, loadA, loadRow, partA, partOk, fieldAddrA, indexAddrA, lenA, cellA, cellsA, pickA, opA, newCells, okCells, storeObj, guardV, dstOk, nilSliceOp, Nat.reduceAdd, Nat.reduceLT, Nat.reduceEqDiff, Nat.reduceBEq, ↓reduceIte, implies_true, eq_self, wtAll, hh_i8, stF_at]
      have eb : (decide (y.F ≤ 4) && decide (((y.st.getD s []).length : Int) ≤ 6)) = fxB x s := by
        rw [lF, lm, fxB, show decide ((((x.st.getD s []).length + 1 : Nat) : Int) ≤ 6) = decide ((x.st.getD s []).length + 1 ≤ 6) from decide_eq_decide.2 (by ((try clear hh_i6); (try clear hh_i8); (try clear hh_ist); (try clear d1); (try clear d2); (try clear hiow); (try clear hh_im); omega))]
      rw [eb]
      refine ⟨fun g => ⟨g, g, by ((try clear hh_i6); (try clear hh_i8); (try clear hh_ist); (try clear d1); (try clear d2); (try clear hiow); (try clear hh_im); omega), by ((try clear hh_i6); (try clear hh_i8); (try clear hh_ist); (try clear d1); (try clear d2); (try clear hiow); (try clear hh_im); omega)⟩, fun g => ⟨g, by ((try clear hh_i6); (try clear hh_i8); (try clear hh_ist); (try clear d1); (try clear d2); (try clear hiow); (try clear hh_im); omega)⟩, fun g => ⟨g, by ((try clear hh_i6); (try clear hh_i8); (try clear hh_ist); (try clear d1); (try clear d2); (try clear hiow); (try clear hh_im); omega)⟩, ?_⟩
      refine ret0 ?_
      simp only [vsAll, loadA, loadRow, partA, partOk, resA, retA.eq_2, Nat.reduceLT, Nat.reduceEqDiff, ↓reduceIte, eq_self, wtAll, Try.results34]
      exact dropR_pure rfl (by (repeat (first | exact HSub_rfl | refine HSub_put_eq (by simp only [vsAll, binA, binLitA, intA, aggA, boolA, nilA2, isConst, unA, loadA, loadRow, partA, partOk, fieldAddrA, indexAddrA, indexA, fieldA, extractA, lenA, nilCheckA, boxA, cellA, cellsA, fillA, okParts, buildSliceA, buildMutA, makeSliceA, partIdx, elemsA, lensA, ifaceA, convA, mmA, pickA, okAll, stAll, opsA, partsA, partsOk, opA, allocA, boxMutA, newCells, okCells, storeObj, appendA, guardV, taA, nM, mapUpA, lookA, sliceA, boundsA, opO, okO, copyA, dstOk, nilA, quietOk, nilSliceOp, panA, resA, argFr, retA.eq_1, retA.eq_2, Nat.reduceAdd, Nat.reduceSub, Nat.reduceMul, Nat.reduceLT, Nat.reduceLeDiff, Nat.reduceEqDiff, Nat.reduceBEq, Int.reduceAdd, Int.reduceSub, Int.reduceMul, Int.reduceNeg, Int.reduceLE, Int.reduceLT, Int.reduceEq, Int.reduceNe, Int.reduceToNat, ↓reduceIte, reduceCtorEq, implies_true, forall_const, eq_self, ne_eq, wtAll, Try.ntmps34, Try.results34, hh_i6, hh_i8, hh_ist, d1, d2, hiow, hh_im]) ?_ | refine HSub_drop2 (by simp only [eq_self, hh_i6, hh_i8]) ?_ | refine HSub_keep_eq (by simp only [vsAll, binA, binLitA, intA, aggA, boolA, nilA2, isConst, unA, loadA, loadRow, partA, partOk, fieldAddrA, indexAddrA, indexA, fieldA, extractA, lenA, nilCheckA, boxA, cellA, cellsA, fillA, okParts, buildSliceA, buildMutA, makeSliceA, partIdx, elemsA, lensA, ifaceA, convA, mmA, pickA, okAll, stAll, opsA, partsA, partsOk, opA, allocA, boxMutA, newCells, okCells, storeObj, appendA, guardV, taA, nM, mapUpA, lookA, sliceA, boundsA, opO, okO, copyA, dstOk, nilA, quietOk, nilSliceOp, panA, resA, argFr, retA.eq_1, retA.eq_2, Nat.reduceAdd, Nat.reduceSub, Nat.reduceMul, Nat.reduceLT, Nat.reduceLeDiff, Nat.reduceEqDiff, Nat.reduceBEq, Int.reduceAdd, Int.reduceSub, Int.reduceMul, Int.reduceNeg, Int.reduceLE, Int.reduceLT, Int.reduceEq, Int.reduceNe, Int.reduceToNat, ↓reduceIte, reduceCtorEq, implies_true, forall_const, eq_self, ne_eq, wtAll, Try.ntmps34, Try.results34, hh_i6, hh_i8, hh_ist, d1, d2, hiow, hh_im]) ?_)))
end Go.Proofs.Ytkonoggmdcdeeaa
end
section
set_option linter.unusedVariables false
set_option linter.unusedSimpArgs false
namespace Go.Proofs.Ytkonoggmdcdeeaa
open Go.V
theorem withI_ok {x : Ir} (k : Ok x) {s : Nat} (hs : s < x.st.length) (o : Nat) (h : fxB x s = true) : Ok (withI x s o) := by
  have g := withI_gd k s o
  simp only [fxB, Bool.and_eq_true, decide_eq_true_eq] at h
  have ls : (withI x s o).st.length = x.st.length := by simp [withI]
  have hF := k.F
  refine ⟨by show 0 ≤ x.F + 1 ∧ x.F + 1 ≤ 4; omega, g.nO, g.nM, g.nS, g.nC, g.ow, g.mo, g.ov, fun i hi => ?_, g.sf, g.sl, g.cs, g.co⟩
  rw [ls] at hi
  rw [withI_st hi, stW]
  split
  · rename_i e
    subst e
    rw [List.length_append]
    exact h.2
  · exact k.st i hi
/-- How many truths there are with one of the first owners. -/
def sumO (x : Ir) (s : Nat) : Nat → Nat
  | 0 => 0
  | o + 1 => sumO x s o + ((truA x).filter fun t => decide (t.getD s 0 = (o : Int))).length
def wantW (own o : Nat) (nt : Bool) : Int :=
  if nt = true then 2 - (if own.testBit o = false then 0 else if own = 2 ^ o then 2 else 1) else if own.testBit o = false then 0 else if own = 2 ^ o then 2 else 1
end Go.Proofs.Ytkonoggmdcdeeaa
end
section
set_option linter.unusedVariables false
set_option linter.unusedSimpArgs false
set_option maxHeartbeats 4000000
set_option maxRecDepth 100000
namespace Go.Proofs.Ytkonoggmdcdeeaa
open Go.V
theorem fine_tri (x : Ir) (H : Hp) (hO : x.ow.length < 2 ^ 63) (hS : x.st.length < 2 ^ 63) : PTri Try.prog (fnA 33) [x.av] H (boo (!farB x && decide (Ok x))) := by
  refine tri_v0 (fun _ => false) Try.func33 (by kernel_rfl) rfl (by simp only [List.length_append, List.length_cons, List.length_nil, Try.ntmps33]; decide) ?_
  simp only [vsAll, loadA, loadRow, partA, partOk, boxA, okAll, stAll, opsA, opA, dstOk, nilSliceOp, argFr, Nat.reduceAdd, Nat.reduceLT, Nat.reduceEqDiff, ↓reduceIte, eq_self, wtAll, Try.ntmps33]
  refine callK_pure (far_tri x _ hO hS) ?_
  simp only [vsAll, unA, loadA, loadRow, partA, partOk, opA, guardV, dstOk, Nat.reduceLT, Nat.reduceEqDiff, ↓reduceIte, implies_true, eq_self, wtAll]
  refine gcall _ (fun g => ⟨by simp only [vsAll, opA], by simp only [vsAll, okAll, opsA, opA, ↓reduceIte, eq_self, g], rirons_tri x _ (far_near (by simpa using g))⟩) ?_
  simp only [vsAll, pickA, opA, dstOk, nilSliceOp, resA, retA.eq_1, Nat.reduceLT, Nat.reduceEqDiff, ↓reduceIte, implies_true, eq_self, Try.results33]
theorem u8_mod {w : Int} (hw : 0 ≤ w ∧ w ≤ 255) (n : Nat) : w.tmod (n : Int) = ((w.toNat % n : Nat) : Int) := by
  obtain ⟨m, rfl⟩ : ∃ m : Nat, w = (m : Int) := ⟨w.toNat, by omega⟩
  rw [Int.toNat_natCast, Int.ofNat_tmod]
end Go.Proofs.Ytkonoggmdcdeeaa
end
section
set_option linter.unusedVariables false
set_option linter.unusedSimpArgs false
set_option maxHeartbeats 4000000
set_option maxRecDepth 100000
namespace Go.Proofs.Ytkonoggmdcdeeaa
open Go.V
/-- The claims of a set, of the first ones. -/
def partL (x : Ir) (set : Nat) : Nat → List Cl
  | 0 => []
  | i + 1 => if set.testBit i = true then partL x set i ++ [x.cl.getD i cl0] else partL x set i
def partI (x : Ir) (set : Nat) : Ir := { x with cl := partL x set x.cl.length }
theorem partL_len (x : Ir) (set i : Nat) : (partL x set i).length ≤ i := by
  induction i with
  | zero => exact Nat.le_refl _
  | succ i ih =>
    simp only [partL]
    split
    · rw [List.length_append]; simp only [List.length_cons, List.length_nil]; omega
    · omega
theorem app_cl (l : List Cl) (c : Cl) (g : Nat → List AV) (hg : g 0 = c.cs) : appF l.length 1 (clF l) g = clF (l ++ [c]) := app_lF Cl.cs cl0 l c g hg
theorem part_tri (x : Ir) (set : Nat) (H : Hp) (k : Ok x) (hs : set < 2 ^ 60) : PTri Try.prog (fnA 37) [x.av, i64 set] H (partI x set).av := by
  have nC := k.nC
  refine tri_vs (m := mset [27]) Try.func37 (by kernel_rfl) rfl (by simp only [List.length_append, List.length_cons, List.length_nil, Try.ntmps37]; decide) ?_
  simp only [vsAll, loadA, loadRow, partA, partOk, fieldAddrA, lenA, boxA, cellA, cellsA, opA, allocA, newCells, okCells, storeObj, dstOk, argFr, Nat.reduceAdd, Nat.reduceLT, Nat.reduceEqDiff, Nat.reduceBEq, ↓reduceIte, eq_self, wtAll, Try.ntmps37]
  intro i4 hh_i4; (try simp only [Hp.set_none, ite_none] at hh_i4)
  intro i5 hh_i5; (try simp only [ite_none] at hh_i5)
  refine vs_entL (Ent.nilBox 3 (fun _ => []) (fun id _ => [i64 x.F, llAV x.ow, intsAV x.mo, stAV x.st, .sl id 3 0]) (j := i5) (st' := 5) (n' := 1) (g := fun _ => [i64 x.F, llAV x.ow, intsAV x.mo, stAV x.st, .lit (.slice none 0 0)]) (by simp only [vsAll, ↓reduceIte, eq_self]) (fun _ _ _ => rfl) (fun id q d hq hd => ?_) fun ic hic => ?_)
  · match d, hd with
    | 0, _ => exact Nld.rfl
    | 1, _ => exact Nld.rfl
    | 2, _ => exact Nld.rfl
    | 3, _ => exact Nld.rfl
    | 4, _ => exact Nld.hit
  simp only [Hp.set_none] at hic
  have d1 := hic.1
  have d2 := hic.2.1
  skip
  refine vs_loop (σ := Nat) (fun i => i ≤ x.cl.length) (fun i => [(1, i64 set), (4, .ref i4 0 5 0 0), (5, .ref i5 0 5 0 0), (11, clAV x.cl), (12, i64 x.cl.length), (13, i64 i)])
    (fun i => (((H.set i4 (.box 5 1 fun _ => [i64 0, .lit (.slice none 0 0), .lit (.slice none 0 0), .lit (.slice none 0 0), .lit (.slice none 0 0)])).set ic (.row 3 (partL x set i).length (clF (partL x set i)))).set i5 (.box 5 1 fun _ => [i64 x.F, llAV x.ow, intsAV x.mo, stAV x.st, .sl ic 3 (partL x set i).length]))) (fun i => x.cl.length - i) 0 (by ((try clear hh_i4); (try clear hh_i5); (try clear d1); (try clear d2); (try clear hic); omega)) ?_ ?_ fun i hi => ?_
  · simp only [vsAll, argFr, Nat.reduceEqDiff, ↓reduceIte, eq_self, Int.natCast_zero]
  · exact HSub.set (HSub.set (HSub_drop2 (by simp only [vsAll, ↓reduceIte, eq_self, hh_i5]) (HSub_drop2 (by simp only [vsAll, ↓reduceIte, eq_self, hh_i5]) (HSub_drop2 (by simp only [vsAll, ↓reduceIte, eq_self, hh_i5]) HSub_rfl))) (row_ext fun q hq => absurd hq (Nat.not_lt_zero q))) (.refl _)
  · have hpl := partL_len x set i
    have hd0 : 0 ≤ (set : Int) / 2 ^ i ∧ (set : Int) / 2 ^ i ≤ set := ⟨Int.ediv_nonneg (by ((try clear hh_i4); (try clear hh_i5); (try clear d1); (try clear d2); (try clear hic); omega)) (Int.le_of_lt (Int.pow_pos (by decide))), Int.ediv_le_self _ (by ((try clear hh_i4); (try clear hh_i5); (try clear d1); (try clear d2); (try clear hic); omega))⟩
    have ep : partL x set (i + 1) = if set.testBit i = true then partL x set i ++ [x.cl.getD i cl0] else partL x set i := rfl
    generalize hLL : partL x set i = L at hpl ep ⊢
    simp only [vsAll, binA, binLitA, intA, opA, dstOk, Nat.reduceLT, Nat.reduceEqDiff, ↓reduceIte, eq_self]
    refine condD (fun hd => ?_) (fun hd => ?_)
    · simp only [vsAll, binA, binLitA, intA, loadA, loadRow, partA, partOk, indexAddrA, cellA, cellsA, opA, allocA, newCells, okCells, storeObj, dstOk, nilSliceOp, Nat.reduceAdd, Nat.reduceLT, Nat.reduceEqDiff, Nat.reduceBEq, Int.reduceLE, Int.reduceToNat, ↓reduceIte, eq_self, wtAll, clF_at]
      refine ⟨by ((try clear hh_i4); (try clear hh_i5); (try clear d1); (try clear d2); (try clear hic); omega), by ((try clear hh_i4); (try clear hh_i5); (try clear d1); (try clear d2); (try clear hic); omega), ?_⟩
      intro i7 hh_i7; (try simp only [ite_none] at hh_i7)
      refine ⟨⟨by ((try clear hh_i4); (try clear hh_i5); (try clear d1); (try clear d2); (try clear hic); (try clear hh_i7); omega), by ((try clear hh_i4); (try clear hh_i5); (try clear d1); (try clear d2); (try clear hic); (try clear hh_i7); omega), rfl⟩, ⟨hd0.1, by simp only [InR_i64]; ((try clear hh_i4); (try clear hh_i5); (try clear d1); (try clear d2); (try clear hic); (try clear hh_i7); omega), by simp only [InR_i64]; ((try clear hh_i4); (try clear hh_i5); (try clear d1); (try clear d2); (try clear hic); (try clear hh_i7); omega)⟩, ?_⟩
      rw [bit_eq]
      refine condV (fun hb => ?_) (fun hb => ?_)
      · rw [if_pos hb] at ep
        simp only [vsAll, binA, binLitA, intA, loadA, loadRow, partA, partOk, fieldAddrA, cellA, cellsA, okParts, buildSliceA, partIdx, elemsA, lensA, partsA, partsOk, opA, newCells, okCells, storeObj, appendA, dstOk, Nat.reduceAdd, Nat.reduceMul, Nat.reduceLT, Nat.reduceLeDiff, Nat.reduceEqDiff, Nat.reduceBEq, ↓reduceIte, eq_self, wtAll, d1, hh_i7]
        rw [app_cl L (x.cl.getD i cl0) _ rfl]
        refine ⟨fun q hq => by simp [okCells, cellA, show q = 0 by ((try clear hh_i4); (try clear hh_i5); (try clear d1); (try clear d2); (try clear hic); (try clear hh_i7); omega)], by ((try clear hh_i4); (try clear hh_i5); (try clear d1); (try clear d2); (try clear hic); (try clear hh_i7); omega), by ((try clear hh_i4); (try clear hh_i5); (try clear d1); (try clear d2); (try clear hic); (try clear hh_i7); omega), by simp only [InR_i64]; ((try clear hh_i4); (try clear hh_i5); (try clear d1); (try clear d2); (try clear hic); (try clear hh_i7); omega), loop_next (i + 1) (by ((try clear hh_i4); (try clear hh_i5); (try clear d1); (try clear d2); (try clear hic); (try clear hh_i7); omega)) (by ((try clear hh_i4); (try clear hh_i5); (try clear d1); (try clear d2); (try clear hic); (try clear hh_i7); omega)) ?_ ?_⟩
        · simp only [vsAll, Nat.reduceEqDiff, ↓reduceIte, eq_self, Int.natCast_add, Int.natCast_one]
        · rw [ep]
          simp only [List.length_append, List.length_cons, List.length_nil, Nat.zero_add]
          exact HSub.set (HSub.set (HSub_drop2 (by simp only [vsAll, ↓reduceIte, eq_self, hh_i7]) (HSub_drop2 (by simp only [vsAll, ↓reduceIte, eq_self, hh_i7]) (HSub_drop2 (by simp only [vsAll, ↓reduceIte, eq_self, hh_i5]) (HSub_drop2 (by simp only [vsAll, ↓reduceIte, eq_self, hic]) HSub_rfl)))) (.refl _)) (.refl _)
      · rw [if_neg (by rw [hb]; decide)] at ep
        simp only [vsAll, binA, binLitA, intA, opA, dstOk, Nat.reduceLT, Nat.reduceEqDiff, ↓reduceIte, eq_self]
        refine ⟨by simp only [InR_i64]; ((try clear hh_i4); (try clear hh_i5); (try clear d1); (try clear d2); (try clear hic); (try clear hh_i7); omega), loop_next (i + 1) (by ((try clear hh_i4); (try clear hh_i5); (try clear d1); (try clear d2); (try clear hic); (try clear hh_i7); omega)) (by ((try clear hh_i4); (try clear hh_i5); (try clear d1); (try clear d2); (try clear hic); (try clear hh_i7); omega)) ?_ ?_⟩
        · simp only [vsAll, Nat.reduceEqDiff, ↓reduceIte, eq_self, Int.natCast_add, Int.natCast_one]
        · rw [ep]
          exact HSub_drop2 (by simp only [vsAll, ↓reduceIte, eq_self, hh_i7]) (HSub_drop2 (by simp only [vsAll, ↓reduceIte, eq_self, hh_i7]) HSub_rfl)
    · have ei : i = x.cl.length := by ((try clear hh_i4); (try clear hh_i5); (try clear d1); (try clear d2); (try clear hic); omega)
      have eL : (partI x set).cl = L := by rw [← hLL, ei]; rfl
      simp only [vsAll, loadA, loadRow, partA, partOk, cellA, cellsA, opA, newCells, okCells, storeObj, dstOk, Nat.reduceAdd, Nat.reduceLT, Nat.reduceEqDiff, ↓reduceIte, eq_self, wtAll, hh_i5, hic]
      refine fn_ent (Ent.of [(4, .ref i4 0 5 0 0)] (H' := (H.set i4 (.box 5 1 fun _ => [i64 x.F, llAV x.ow, intsAV x.mo, stAV x.st, .sl ic 3 L.length])).set ic (.row 3 L.length (clF L))) (by simp only [vsAll, Nat.reduceEqDiff, ↓reduceIte, eq_self]) ?_ ?_)
      · exact HSub_put (o' := .row 3 L.length (clF L)) (by simp only [vsAll, ↓reduceIte, eq_self, d1, hic]) (.refl _) (HSub.set (HSub_drop2 (by simp only [eq_self, hh_i5]) (HSub_drop2 (by simp only [eq_self, hic]) (HSub_drop2 (by simp only [eq_self, hh_i4]) HSub_rfl))) (.refl _))
      refine fn_ent (Ent.freezeBox (s' := _) (id := ic) (st := 3) (n := L.length) (f := clF L) (j := i4) (st' := 5) (n' := 1) (g := fun _ => [i64 x.F, llAV x.ow, intsAV x.mo, stAV x.st, .sl ic 3 L.length]) (g' := fun _ => [i64 x.F, llAV x.ow, intsAV x.mo, stAV x.st, clAV L]) (by simp only [vsAll, ↓reduceIte, eq_self]) (by simp only [vsAll, ↓reduceIte, eq_self, hic]) (fun t => .rfl) (fun _ _ => rfl) (fun q d hq hd => ?_) ?_)
      · match d, hd with
        | 0, _ => exact .rfl
        | 1, _ => exact .rfl
        | 2, _ => exact .rfl
        | 3, _ => exact .rfl
        | 4, _ => exact .hit
      refine ret0 ?_
      simp only [vsAll, loadA, loadRow, partA, partOk, resA, retA.eq_1, Nat.reduceLT, ↓reduceIte, eq_self, wtAll, Try.results37]
      refine dropR_pure ?_ (HSub_drop2 hh_i4 (HSub_del hic.2.2.2.2 (HSub_drop2 hic.2.2.2.2 (HSub_drop2 hh_i4 HSub_rfl))))
      rw [← eL]
      rfl
theorem partL_mem {x : Ir} {set : Nat} {c : Cl} : ∀ {i : Nat}, c ∈ partL x set i ↔ ∃ k, k < i ∧ set.testBit k = true ∧ c = x.cl.getD k cl0 := by
  intro i
  induction i with
  | zero => simp [partL]
  | succ i ih =>
    simp only [partL]
    constructor
    · intro h
      split at h
      · rename_i hb
        rcases List.mem_append.1 h with h | h
        · obtain ⟨k, h1, h2⟩ := ih.1 h; exact ⟨k, by omega, h2⟩
        · rw [List.mem_singleton] at h; exact ⟨i, by omega, hb, h⟩
      · obtain ⟨k, h1, h2⟩ := ih.1 h; exact ⟨k, by omega, h2⟩
    · rintro ⟨k, h1, h2, h3⟩
      by_cases e : k = i
      · subst e
        rw [if_pos h2]
        exact List.mem_append_right _ (by rw [h3]; simp)
      · have := ih.2 ⟨k, by omega, h2, h3⟩
        split
        · exact List.mem_append_left _ this
        · exact this
theorem partI_ok {x : Ir} (k : Ok x) (set : Nat) : Ok (partI x set) := by
  have hl : (partI x set).cl.length ≤ 8 := Nat.le_trans (partL_len x set x.cl.length) k.nC
  have hm : ∀ i, i < (partI x set).cl.length → ∃ q, q < x.cl.length ∧ (partI x set).cl.getD i cl0 = x.cl.getD q cl0 := fun i hi => by
    obtain ⟨q, h1, _, h3⟩ := partL_mem.1 (mem_getD (partI x set).cl i cl0 hi)
    exact ⟨q, h1, h3⟩
  refine ⟨k.F, k.nO, k.nM, k.nS, hl, k.ow, k.mo, k.ov, k.st, k.sf, k.sl, fun i hi => ?_, fun i hi => ?_⟩
  · obtain ⟨q, h1, h2⟩ := hm i hi
    rw [h2]; exact k.cs q h1
  · obtain ⟨q, h1, h2⟩ := hm i hi
    rw [h2]; exact k.co q h1
/-- Not all claims of a set can be right: asked of irons with these alone. -/
def cfB (x : Ir) (set : Nat) : Bool := decide (falseE (partI x set) = 0) && decide (0 < (falseP (partI x set)).1)
end Go.Proofs.Ytkonoggmdcdeeaa
end
section
set_option linter.unusedVariables false
set_option linter.unusedSimpArgs false
namespace Go.Proofs.Ytkonoggmdcdeeaa
open Go.V
theorem tru_part (x : Ir) (set S : Nat) : ∀ n b, tru (partI x set) S n b = tru x S n b := by
  intro n
  induction n with
  | zero => intro b; rfl
  | succ n ih =>
    intro b
    simp only [tru, ih]
    rfl
theorem truA_part (x : Ir) (set : Nat) : truA (partI x set) = truA x := tru_part x set _ _ _
theorem wrongN_zero (x : Ir) (t : List Int) (n : Nat) : wrongN x t n = 0 ↔ ∀ k, k < n → rightT x t k = true := by
  induction n with
  | zero => exact ⟨fun _ k hk => by omega, fun _ => rfl⟩
  | succ n ih =>
    have hp : 0 < 2 ^ n := Nat.pow_pos (by decide)
    simp only [wrongN]
    constructor
    · intro h k hk
      by_cases e : k = n
      · subst e
        cases hr : rightT x t k with
        | true => rfl
        | false => rw [hr] at h; simp at h
      · refine ih.1 ?_ k (by omega)
        split at h <;> omega
    · intro h
      have h1 := ih.2 fun k hk => h k (by omega)
      rw [h n (by omega), h1]
      simp
theorem pop_zero_iff : ∀ w, w < 256 → (pop w = 0 ↔ w = 0) := by decide +kernel
theorem false_zero {x : Ir} (k : Ok x) (h : 0 < (truA x).length) : (falseP x).1 = 0 ↔ ∃ t ∈ truA x, wrongT x t = 0 := by
  have e : falseE x = 0 := errE_told k h
  have hw : ∀ t, wrongT x t < 256 := fun t => by
    have h1 := wrongN_lt x t x.cl.length
    have h2 : 2 ^ x.cl.length ≤ 2 ^ 8 := Nat.pow_le_pow_right (by decide) k.nC
    exact Nat.lt_of_lt_of_le h1 h2
  obtain ⟨m, hm⟩ := foldJ_some (l := (truA x).map fun t => (popW x t, wrongT x t)) (by intro q; rw [List.map_eq_nil_iff] at q; rw [q] at h; simp at h)
  have ev : falseP x = m := by rw [falseP, if_pos e, tlW_truth k, hm]; rfl
  obtain ⟨h1, h2⟩ := foldJ_min _ m hm
  obtain ⟨t0, ht0, rfl⟩ := List.mem_map.1 h1
  rw [ev]
  constructor
  · intro hp
    exact ⟨t0, ht0, (pop_zero_iff _ (hw t0)).1 hp⟩
  · rintro ⟨t, ht, hz⟩
    have h3 := h2 _ (List.mem_map.2 ⟨t, ht, rfl⟩)
    have h4 : popW x t = 0 := (pop_zero_iff _ (hw t)).2 hz
    rw [← Bool.not_eq_true, lessB_iff, h4] at h3
    simp only [] at h3
    omega
theorem wrong_part (x : Ir) (set : Nat) (t : List Int) : wrongT (partI x set) t = 0 ↔ okR x set t x.cl.length = true := by
  rw [wrongT, wrongN_zero, okR_iff]
  have hr : ∀ (y : Ir) k, rightT y t k = rightO (y.cl.getD k cl0) (t.getD (y.cl.getD k cl0).s.toNat 0) := fun _ _ => rfl
  constructor
  · intro h k hk hb
    have hm : x.cl.getD k cl0 ∈ (partI x set).cl := partL_mem.2 ⟨k, hk, hb, rfl⟩
    obtain ⟨i, hi, he⟩ := List.getElem_of_mem hm
    have := h i hi
    rw [hr, List.getD_eq_getElem?_getD, List.getElem?_eq_getElem hi, Option.getD_some, he] at this
    rw [hr]; exact this
  · intro h i hi
    obtain ⟨k, h1, h2, h3⟩ := partL_mem.1 (mem_getD (partI x set).cl i cl0 hi)
    have := h k h1 h2
    rw [hr] at this ⊢
    rw [h3]; exact this
theorem cfB_eq {x : Ir} (k : Ok x) (h : 0 < (truA x).length) (set : Nat) : cfB x set = clsB x (truA x) set := by
  have kp := partI_ok k set
  have hp : 0 < (truA (partI x set)).length := by rw [truA_part]; exact h
  have e : falseE (partI x set) = 0 := errE_told kp hp
  have hz := false_zero kp hp
  rw [truA_part] at hz
  rw [cfB, e, Bool.eq_iff_iff]
  simp only [decide_true, Bool.true_and, decide_eq_true_eq, clsB, List.all_eq_true, Bool.not_eq_true']
  constructor
  · intro hpos t ht
    rw [← Bool.not_eq_true, ← wrong_part]
    intro hw
    have := hz.2 ⟨t, ht, hw⟩
    omega
  · intro hall
    apply Nat.pos_of_ne_zero
    intro hzz
    obtain ⟨t, ht, hw⟩ := hz.1 hzz
    have := hall t ht
    rw [(wrong_part x set t).1 hw] at this
    cases this
theorem false_full {x : Ir} (k : Ok x) (h : 0 < (truA x).length) : decide ((falseP x).1 = 0) = !clsB x (truA x) (2 ^ x.cl.length - 1) := by
  have e : ∀ t, wrongT x t = 0 ↔ okR x (2 ^ x.cl.length - 1) t x.cl.length = true := fun t => by
    rw [wrongT, wrongN_zero, okR_iff]
    exact ⟨fun h k hk _ => h k hk, fun h k hk => h k hk (full_bit _ _ hk)⟩
  rw [Bool.eq_iff_iff, decide_eq_true_eq, false_zero k h]
  simp only [Bool.not_eq_true', clsB, List.all_eq_false, Bool.not_eq_false]
  exact ⟨fun ⟨t, h1, h2⟩ => ⟨t, h1, (e t).1 h2⟩, fun ⟨t, h1, h2⟩ => ⟨t, h1, (e t).2 h2⟩⟩
theorem cls_zero {x : Ir} (h : 0 < (truA x).length) : clsB x (truA x) 0 = false := by
  rw [clsB, List.all_eq_false]
  refine ⟨_, mem_getD (truA x) 0 [] h, ?_⟩
  rw [(okR_iff x 0 _ _).2 fun k _ hb => by rw [Nat.zero_testBit] at hb; cases hb]
  decide
theorem pop_less : ∀ i, i < 8 → ∀ r, r < 256 → r.testBit i = true → r ^^^ (r &&& 2 ^ i) < 256 ∧ pop (r ^^^ (r &&& 2 ^ i)) < pop r := by decide +kernel
theorem clash_cases {x : Ir} (k : Ok x) (h : 0 < (truA x).length) : (clashR x = none ∧ (falseP x).1 = 0) ∨ ∃ r, clashR x = some r ∧ (falseP x).1 ≠ 0 ∧ 1 ≤ r ∧ r < 2 ^ x.cl.length ∧ cfB x r = true ∧ (∀ i, i < x.cl.length → r.testBit i = true → cfB x (r ^^^ (r &&& 2 ^ i)) = false) ∧ ∀ o, o < 2 ^ x.cl.length → cfB x o = true → pop r < pop o ∨ pop r = pop o ∧ r ≤ o := by
  have hf := false_full k h
  have nC := k.nC
  have hp : 2 ^ x.cl.length ≤ 2 ^ 8 := Nat.pow_le_pow_right (by decide) nC
  have he : clP x = clsB x (truA x) := by funext set; exact clash_pred k set
  have hr := clash_eq k
  cases hc : clashR x with
  | none =>
    left
    rw [hc] at hr
    refine ⟨rfl, ?_⟩
    unfold rset at hr
    split at hr
    · cases hr
    · rename_i q
      rw [Bool.not_eq_true] at q
      rw [q] at hf
      exact of_decide_eq_true hf
  | some r =>
    right
    have hs := hc
    rw [clashR, he] at hs
    have L := fewV_some hs
    rw [hc] at hr
    have hff : clsB x (truA x) (2 ^ x.cl.length - 1) = true := by
      unfold rset at hr
      split at hr
      · assumption
      · cases hr
    rw [hff] at hf
    refine ⟨r, rfl, of_decide_eq_false hf, ?_, L.lt, by rw [cfB_eq k h]; exact L.is, fun i hi hb => ?_, fun o ho hco => L.le o ho (by rw [← cfB_eq k h]; exact hco)⟩
    · apply Nat.pos_of_ne_zero
      rintro rfl
      have := L.is
      rw [cls_zero h] at this
      cases this
    · have hl := L.lt
      obtain ⟨q1, q2⟩ := pop_less i (by omega) r (by omega) hb
      rw [cfB_eq k h, ← Bool.not_eq_true]
      intro hco
      have hlt : r ^^^ (r &&& 2 ^ i) < 2 ^ x.cl.length := Nat.xor_lt_two_pow hl (Nat.lt_of_le_of_lt Nat.and_le_left hl)
      have := L.le _ hlt hco
      omega
end Go.Proofs.Ytkonoggmdcdeeaa
end
section
set_option linter.unusedVariables false
set_option linter.unusedSimpArgs false
set_option maxHeartbeats 4000000
set_option maxRecDepth 100000
namespace Go.Proofs.Ytkonoggmdcdeeaa
open Go.V
/-- Without the claims of a set the others can be right. -/
def cnB (x : Ir) (e set : Nat) : Bool := decide (setE (errE (partI x (e ^^^ (e &&& set))) true true) (clashR (partI x (e ^^^ (e &&& set)))) = 4)
theorem canc_tri (x : Ir) (id e set : Nat) (H : Hp) (k : Ok x) (h4 : H id = some (.box 1 1 fun _ => [i64 e])) (hs : set < 2 ^ 60) (he : e < 2 ^ 60) : PTri Try.prog (.func (.func 36) [] [.rptr 1 5 (fun _ => x.cs) 0 0, .ref id 0 1 0 0]) [i64 set] H (boo (cnB x e set)) := by
  have hx : e ^^^ (e &&& set) < 2 ^ 60 := Nat.xor_lt_two_pow he (Nat.lt_of_le_of_lt Nat.and_le_left he)
  refine tri_v0 (fun _ => false) Try.func36 (by kernel_rfl) rfl (by simp only [List.length_append, List.length_cons, List.length_nil, Try.ntmps36]; decide) ?_
  skip
  simp only [vsAll, binA, binLitA, intA, loadA, loadRow, partA, partOk, okAll, stAll, opsA, opA, dstOk, nilSliceOp, argFr, Nat.reduceLT, Nat.reduceEqDiff, ↓reduceIte, reduceCtorEq, eq_self, wtAll, Try.ntmps36, h4]
  refine ⟨⟨by ((try clear h4); omega), by ((try clear h4); omega), by simp only [InR_i64]; ((try clear h4); omega), by simp only [InR_i64]; ((try clear h4); omega)⟩, ?_⟩
  refine callK_pure (part_tri x (e ^^^ (e &&& set)) _ k hx) ?_
  simp only [vsAll, okAll, stAll, opsA, opA, dstOk, Nat.reduceLT, ↓reduceIte, eq_self]
  refine callK_pure (wclash_tri (partI x (e ^^^ (e &&& set))) _ (partI_ok k _).near) ?_
  simp only [vsAll, binA, binLitA, intA, extractA, opA, dstOk, nilSliceOp, resA, retA.eq_1, Nat.reduceAdd, Nat.reduceLT, Nat.reduceEqDiff, ↓reduceIte, eq_self, Try.results36]
  rfl
end Go.Proofs.Ytkonoggmdcdeeaa
end
section
set_option linter.unusedVariables false
set_option linter.unusedSimpArgs false
namespace Go.Proofs.Ytkonoggmdcdeeaa
open Go.V
/-- A set is a part of another. -/
def SubB (w s : Nat) : Prop := ∀ j, w.testBit j = true → s.testBit j = true
theorem SubB.half {w s : Nat} (h : SubB w s) : SubB (w / 2) (s / 2) := fun j hj => by
  rw [Nat.testBit_div_two] at hj ⊢
  exact h _ hj
theorem SubB.odd {w s : Nat} (h : SubB w s) : w % 2 ≤ s % 2 := by
  have := h 0
  rw [Nat.testBit_zero, Nat.testBit_zero, decide_eq_true_eq, decide_eq_true_eq] at this
  omega
theorem SubB.popN : ∀ (f : Nat) {w s : Nat}, SubB w s → popN f w ≤ popN f s
  | 0, _, _, _ => Nat.le_refl _
  | f + 1, w, s, h => Nat.add_le_add h.odd (SubB.popN f h.half)
theorem SubB.pop {w s : Nat} (h : SubB w s) : pop w ≤ pop s := SubB.popN 64 h
theorem SubB.le {w s : Nat} (h : SubB w s) : w ≤ s := by
  have e : w &&& s = w := by
    apply Nat.eq_of_testBit_eq
    intro j
    rw [Nat.testBit_and]
    cases hb : w.testBit j with
    | false => rfl
    | true => rw [h j hb]; rfl
  rw [← e]
  exact Nat.and_le_right
theorem wrongN_bit (x : Ir) (t : List Int) (n j : Nat) : (wrongN x t n).testBit j = (decide (j < n) && !rightT x t j) := by
  induction n with
  | zero => simp [wrongN]
  | succ n ih =>
    have hlt := wrongN_lt x t n
    simp only [wrongN]
    cases h : rightT x t n with
    | true =>
      simp only [if_true, Nat.add_zero]
      rw [ih]
      by_cases e : n = j
      · subst e; simp [h]
      · congr 1
        exact decide_eq_decide.2 (by omega)
    | false =>
      simp only [Bool.false_eq_true, if_false]
      rw [← or_bit _ _ hlt, Nat.testBit_or, ih, Nat.testBit_two_pow]
      by_cases e : n = j
      · subst e; simp [h]
      · rw [decide_eq_false e, Bool.or_false]
        congr 1
        exact decide_eq_decide.2 (by omega)
theorem cnB_iff {x : Ir} (k : Ok x) (h : 0 < (truA x).length) (s : Nat) : cnB x (2 ^ x.cl.length - 1) s = true ↔ ∃ t ∈ truA x, SubB (wrongT x t) s := by
  have kp := partI_ok k ((2 ^ x.cl.length - 1) ^^^ ((2 ^ x.cl.length - 1) &&& s))
  have hw : ∀ t, SubB (wrongT x t) s ↔ wrongT (partI x ((2 ^ x.cl.length - 1) ^^^ ((2 ^ x.cl.length - 1) &&& s))) t = 0 := fun t => by
    rw [wrong_part, okR_iff]
    constructor
    · intro hs j hj hb
      rw [Nat.testBit_xor, Nat.testBit_and, full_bit _ _ hj] at hb
      have h1 := hs j
      rw [wrongT, wrongN_bit, decide_eq_true hj] at h1
      cases hr : rightT x t j with
      | true => rfl
      | false =>
        rw [hr] at h1
        rw [h1 rfl] at hb
        cases hb
    · intro hr j hj
      rw [wrongT, wrongN_bit, Bool.and_eq_true, decide_eq_true_eq] at hj
      cases hb : s.testBit j with
      | true => rfl
      | false =>
        rw [hr j hj.1 (by rw [Nat.testBit_xor, Nat.testBit_and, full_bit _ _ hj.1, hb]; rfl)] at hj
        cases hj.2
  have hp : 0 < (truA (partI x ((2 ^ x.cl.length - 1) ^^^ ((2 ^ x.cl.length - 1) &&& s)))).length := by rw [truA_part]; exact h
  have hz := false_zero kp hp
  rw [truA_part] at hz
  have hc := clash_cases kp hp
  have he := errE_told kp hp
  unfold cnB
  rw [he]
  simp only [hw]
  generalize partI x ((2 ^ x.cl.length - 1) ^^^ ((2 ^ x.cl.length - 1) &&& s)) = y at *
  rw [← hz, decide_eq_true_eq]
  rcases hc with ⟨c1, c2⟩ | ⟨r, c1, c2, _⟩
  · rw [c1]; exact ⟨fun _ => c2, fun _ => rfl⟩
  · rw [c1]; exact ⟨fun q => absurd (show (0 : Int) = 4 from q) (by decide), fun q => absurd q c2⟩
/-- The truth that False tells of. -/
structure FSpec (x : Ir) (t0 : List Int) : Prop where
  mem : t0 ∈ truA x
  val : falseP x = (popW x t0, wrongT x t0)
  le : ∀ t ∈ truA x, popW x t0 < popW x t ∨ popW x t0 = popW x t ∧ wrongT x t0 ≤ wrongT x t
theorem false_spec {x : Ir} (k : Ok x) (h : 0 < (truA x).length) : ∃ t0, FSpec x t0 := by
  have e : falseE x = 0 := errE_told k h
  obtain ⟨m, hm⟩ := foldJ_some (l := (truA x).map fun t => (popW x t, wrongT x t)) (by intro q; rw [List.map_eq_nil_iff] at q; rw [q] at h; simp at h)
  have ev : falseP x = m := by rw [falseP, if_pos e, tlW_truth k, hm]; rfl
  obtain ⟨h1, h2⟩ := foldJ_min _ m hm
  obtain ⟨t0, ht0, rfl⟩ := List.mem_map.1 h1
  refine ⟨t0, ht0, ev, fun t ht => ?_⟩
  have := h2 _ (List.mem_map.2 ⟨t, ht, rfl⟩)
  rw [← Bool.not_eq_true, lessB_iff] at this
  simp only [] at this
  omega
theorem wrongT_lt8 {x : Ir} (k : Ok x) (t : List Int) : wrongT x t < 2 ^ x.cl.length ∧ 2 ^ x.cl.length ≤ 2 ^ 8 := ⟨wrongN_lt x t _, Nat.pow_le_pow_right (by decide) k.nC⟩
/-- What False says of sets. -/
theorem false_sets {x : Ir} (k : Ok x) {t0 : List Int} (f : FSpec x t0) : cnB x (2 ^ x.cl.length - 1) (wrongT x t0) = true ∧
    (∀ o, cnB x (2 ^ x.cl.length - 1) o = true → popW x t0 < pop o ∨ popW x t0 = pop o ∧ wrongT x t0 ≤ o) ∧
    ∀ i, i < x.cl.length → (wrongT x t0).testBit i = true → cnB x (2 ^ x.cl.length - 1) (wrongT x t0 ^^^ (wrongT x t0 &&& 2 ^ i)) = false := by
  have h : 0 < (truA x).length := List.length_pos_of_mem f.mem
  have hl := wrongT_lt8 k t0
  have nC := k.nC
  have key : ∀ o, cnB x (2 ^ x.cl.length - 1) o = true → popW x t0 < pop o ∨ popW x t0 = pop o ∧ wrongT x t0 ≤ o := fun o ho => by
    obtain ⟨t, ht, hs⟩ := (cnB_iff k h o).1 ho
    have h1 := hs.pop
    have h2 := hs.le
    have h3 := f.le t ht
    have e : popW x t = pop (wrongT x t) := rfl
    omega
  refine ⟨(cnB_iff k h _).2 ⟨t0, f.mem, fun j hj => hj⟩, key, fun i hi hb => ?_⟩
  obtain ⟨q1, q2⟩ := pop_less i (by omega) (wrongT x t0) (by omega) hb
  rw [← Bool.not_eq_true]
  intro hc
  have := key _ hc
  have e : popW x t0 = pop (wrongT x t0) := rfl
  omega
theorem wrongN_with (x : Ir) (s o : Nat) (t : List Int) (n : Nat) : wrongN (withI x s o) t n = wrongN x t n := by
  induction n with
  | zero => rfl
  | succ n ih =>
    simp only [wrongN, ih]
    rfl
theorem wrongT_with (x : Ir) (s o : Nat) (t : List Int) : wrongT (withI x s o) t = wrongT x t := wrongN_with x s o t _
theorem likely_with {x : Ir} (k : Ok x) {t0 : List Int} (f : FSpec x t0) {s o : Nat} (hs : s < x.st.length) (ho : o < x.ow.length) (hx : fxB x s = true) :
    (likN x s x.ow.length).testBit o = (decide (falseE (withI x s o) = 0) && decide ((falseP (withI x s o)).1 = (falseP x).1)) ∧ (falseE (withI x s o) = 0 → (falseP x).1 ≤ (falseP (withI x s o)).1) := by
  have ky := withI_ok k hs o hx
  have ls : (withI x s o).st.length = x.st.length := by simp [withI]
  have hA : truA (withI x s o) = (truA x).filter fun t => decide (t.getD s 0 = (o : Int)) := by
    have := truA_with k hs ho
    rw [truA, ls]
    exact this
  have hbit : (likN x s x.ow.length).testBit o = true ↔ ∃ t ∈ bestL x, t.getD s 0 = (o : Int) := by
    rw [likN_bit, decide_eq_true ho, Bool.true_and, likB_iff k hs ho]
  have hbest : ∀ t, t ∈ bestL x ↔ t ∈ truA x ∧ popW x t = popW x t0 := fun t => by
    rw [bestL_iff]
    constructor
    · rintro ⟨h1, h2⟩
      have := h2 t0 f.mem
      have := f.le t h1
      exact ⟨h1, by omega⟩
    · rintro ⟨h1, h2⟩
      exact ⟨h1, fun t' h' => by have := f.le t' h'; omega⟩
  by_cases hz : (truA (withI x s o)).length = 0
  · have e : falseE (withI x s o) = 10 := errE_clash ky hz
    rw [e]
    refine ⟨?_, fun q => absurd q (by decide)⟩
    rw [decide_eq_false (by decide), Bool.false_and, ← Bool.not_eq_true, hbit]
    rintro ⟨t, h1, h2⟩
    have hm : t ∈ truA (withI x s o) := by rw [hA]; exact List.mem_filter.2 ⟨((hbest t).1 h1).1, decide_eq_true h2⟩
    rw [List.length_eq_zero_iff.1 hz] at hm
    simp at hm
  · have e : falseE (withI x s o) = 0 := errE_told ky (by omega)
    obtain ⟨t1, g⟩ := false_spec ky (by omega)
    have hm := g.mem
    rw [hA, List.mem_filter, decide_eq_true_eq] at hm
    have hle := f.le t1 hm.1
    have e1 : popW (withI x s o) t1 = popW x t1 := by rw [popW, wrongT_with]; rfl
    have hv : (falseP (withI x s o)).1 = popW x t1 := by rw [g.val, e1]
    have hv0 : (falseP x).1 = popW x t0 := by rw [f.val]
    rw [e, hv, hv0]
    refine ⟨?_, fun _ => by omega⟩
    rw [Bool.eq_iff_iff, hbit]
    simp only [decide_true, Bool.true_and, decide_eq_true_eq]
    constructor
    · rintro ⟨t, h1, h2⟩
      have hb := (hbest t).1 h1
      have hmt : t ∈ truA (withI x s o) := by rw [hA]; exact List.mem_filter.2 ⟨hb.1, decide_eq_true h2⟩
      have h3 := g.le t hmt
      have e2 : popW (withI x s o) t = popW x t := by rw [popW, wrongT_with]; rfl
      omega
    · intro q
      exact ⟨t1, (hbest t1).2 ⟨hm.1, q⟩, hm.2⟩
theorem lik_pos {x : Ir} (k : Ok x) {t0 : List Int} (f : FSpec x t0) {s : Nat} (hs : s < x.st.length) : 1 ≤ likN x s x.ow.length := by
  have h : 0 < (truA x).length := List.length_pos_of_mem f.mem
  have hb : t0 ∈ bestL x := bestL_iff.2 ⟨f.mem, fun t ht => by have := f.le t ht; omega⟩
  obtain ⟨o, h1, h2⟩ := (truA_mem f.mem).2 s hs
  apply Nat.pos_of_ne_zero
  intro hz
  have : (likN x s x.ow.length).testBit o = true := by
    rw [likN_bit, decide_eq_true h1, Bool.true_and, likB_iff k hs h1]
    exact ⟨t0, hb, h2⟩
  rw [hz, Nat.zero_testBit] at this
  cases this
end Go.Proofs.Ytkonoggmdcdeeaa
end
section
set_option linter.unusedVariables false
set_option linter.unusedSimpArgs false
set_option maxHeartbeats 4000000
set_option maxRecDepth 100000
namespace Go.Proofs.Ytkonoggmdcdeeaa
open Go.V
theorem false_law (x : Ir) (w c : Int) (H : Hp) (hw : 0 ≤ w ∧ w ≤ 255) (hc : 0 ≤ c ∧ c ≤ 255) (hO : x.ow.length < 2 ^ 63) (hS : x.st.length < 2 ^ 63) :
    PTri Try.prog (fnA 8) [x.av, .lit (.int .u8 w), .lit (.int .u8 c)] H (boo true) := by
  refine Tri.drop ?_
  refine tri_v0 (fun _ => false) Try.func8 (by kernel_rfl) rfl (by simp only [List.length_append, List.length_cons, List.length_nil, Try.ntmps8]; decide) ?_
  simp only [vsAll, loadA, loadRow, partA, partOk, boxA, okAll, stAll, opsA, opA, dstOk, nilSliceOp, argFr, Nat.reduceAdd, Nat.reduceLT, Nat.reduceEqDiff, ↓reduceIte, eq_self, wtAll, Try.ntmps8]
  refine callK_pure (far_tri x _ hO hS) ?_
  simp only [vsAll, opA, ↓reduceIte, eq_self]
  refine condV (fun hfar => ?_) (fun hfar => ?_)
  · simp only [vsAll, okAll, stAll, opsA, opA, dstOk, Nat.reduceLT]
    refine callK_pure (awake_tri _) ?_
    simp only [vsAll, opA, dstOk, nilSliceOp, resA, retA.eq_1, Nat.reduceLT, ↓reduceIte, eq_self, Try.results8]
    exact dropR_pure rfl (HSub.refl _)
  have kn0 := far_near hfar
  simp only [vsAll, loadA, loadRow, partA, partOk, okAll, stAll, opsA, opA, dstOk, Nat.reduceLT, Nat.reduceEqDiff, ↓reduceIte, eq_self, wtAll]
  refine callK_pure (wfalse_tri x _ kn0) ?_
  simp only [vsAll, loadA, loadRow, partA, partOk, extractA, okAll, stAll, opsA, opA, dstOk, nilSliceOp, Nat.reduceAdd, Nat.reduceLT, Nat.reduceEqDiff, ↓reduceIte, eq_self, wtAll]
  refine callK_pure (fine_tri x _ hO hS) ?_
  simp only [vsAll, unA, opA, dstOk, Nat.reduceLT, ↓reduceIte, eq_self]
  refine condV (fun hf1 => ?_) (fun hf1 => ?_)
  · have hno : ¬ Ok x := by
      rw [hfar] at hf1
      simpa using hf1
    have hE : falseE x = 1 := errE_no hno _ _
    have hF : falseP x = (0, 0) := by rw [falseP, hE]; rfl
    rw [hE, hF]
    simp only [vsAll, binA, binLitA, intA, pickA, opA, guardV, dstOk, Nat.reduceLT, Nat.reduceEqDiff, ↓reduceIte, implies_true, eq_self, Int.natCast_zero]
    refine gcall (boo true) (fun g => ⟨trivial, by simp only [okAll, opsA], awake_tri _⟩) ?_
    simp only [vsAll, pickA, opA, dstOk, nilSliceOp, resA, retA.eq_1, Nat.reduceLT, Nat.reduceEqDiff, ↓reduceIte, implies_true, eq_self, Try.results8]
    exact dropR_pure rfl (by (repeat (first | exact HSub_rfl | refine HSub_put_eq (by simp only [vsAll, binA, binLitA, intA, aggA, boolA, nilA2, isConst, unA, loadA, loadRow, partA, partOk, fieldAddrA, indexAddrA, indexA, fieldA, extractA, lenA, nilCheckA, boxA, cellA, cellsA, fillA, okParts, buildSliceA, buildMutA, makeSliceA, partIdx, elemsA, lensA, ifaceA, convA, mmA, pickA, okAll, stAll, opsA, partsA, partsOk, opA, allocA, boxMutA, newCells, okCells, storeObj, appendA, guardV, taA, nM, mapUpA, lookA, sliceA, boundsA, opO, okO, copyA, dstOk, nilA, quietOk, nilSliceOp, panA, resA, argFr, retA.eq_1, retA.eq_2, Nat.reduceAdd, Nat.reduceSub, Nat.reduceMul, Nat.reduceLT, Nat.reduceLeDiff, Nat.reduceEqDiff, Nat.reduceBEq, Int.reduceAdd, Int.reduceSub, Int.reduceMul, Int.reduceNeg, Int.reduceLE, Int.reduceLT, Int.reduceEq, Int.reduceNe, Int.reduceToNat, ↓reduceIte, reduceCtorEq, implies_true, forall_const, eq_self, ne_eq, wtAll, Try.ntmps8, Try.results8]) ?_ | refine HSub_drop2 (by simp only [vsAll, binA, binLitA, intA, aggA, boolA, nilA2, isConst, unA, loadA, loadRow, partA, partOk, fieldAddrA, indexAddrA, indexA, fieldA, extractA, lenA, nilCheckA, boxA, cellA, cellsA, fillA, okParts, buildSliceA, buildMutA, makeSliceA, partIdx, elemsA, lensA, ifaceA, convA, mmA, pickA, okAll, stAll, opsA, partsA, partsOk, opA, allocA, boxMutA, newCells, okCells, storeObj, appendA, guardV, taA, nM, mapUpA, lookA, sliceA, boundsA, opO, okO, copyA, dstOk, nilA, quietOk, nilSliceOp, panA, resA, argFr, retA.eq_1, retA.eq_2, Nat.reduceAdd, Nat.reduceSub, Nat.reduceMul, Nat.reduceLT, Nat.reduceLeDiff, Nat.reduceEqDiff, Nat.reduceBEq, Int.reduceAdd, Int.reduceSub, Int.reduceMul, Int.reduceNeg, Int.reduceLE, Int.reduceLT, Int.reduceEq, Int.reduceNe, Int.reduceToNat, ↓reduceIte, reduceCtorEq, implies_true, forall_const, eq_self, ne_eq, wtAll, Try.ntmps8, Try.results8]) ?_ | refine HSub_keep_eq (by simp only [vsAll, binA, binLitA, intA, aggA, boolA, nilA2, isConst, unA, loadA, loadRow, partA, partOk, fieldAddrA, indexAddrA, indexA, fieldA, extractA, lenA, nilCheckA, boxA, cellA, cellsA, fillA, okParts, buildSliceA, buildMutA, makeSliceA, partIdx, elemsA, lensA, ifaceA, convA, mmA, pickA, okAll, stAll, opsA, partsA, partsOk, opA, allocA, boxMutA, newCells, okCells, storeObj, appendA, guardV, taA, nM, mapUpA, lookA, sliceA, boundsA, opO, okO, copyA, dstOk, nilA, quietOk, nilSliceOp, panA, resA, argFr, retA.eq_1, retA.eq_2, Nat.reduceAdd, Nat.reduceSub, Nat.reduceMul, Nat.reduceLT, Nat.reduceLeDiff, Nat.reduceEqDiff, Nat.reduceBEq, Int.reduceAdd, Int.reduceSub, Int.reduceMul, Int.reduceNeg, Int.reduceLE, Int.reduceLT, Int.reduceEq, Int.reduceNe, Int.reduceToNat, ↓reduceIte, reduceCtorEq, implies_true, forall_const, eq_self, ne_eq, wtAll, Try.ntmps8, Try.results8]) ?_)))
  · have hk : Ok x := by
      simp only [Bool.not_eq_false', Bool.and_eq_true, decide_eq_true_eq] at hf1
      exact hf1.2
    have nC := hk.nC
    have kn := hk.near
    have cE : countE x = 0 := errE_ok hk
    have cV : countV x = (truA x).length := by rw [countV, if_pos cE]
    have hl : (truA x).length ≤ 15625 := truS_len hk (2 ^ x.st.length - 1)
    simp only [vsAll, loadA, loadRow, partA, partOk, okAll, stAll, opsA, opA, dstOk, Nat.reduceLT, Nat.reduceEqDiff, ↓reduceIte, eq_self, wtAll]
    refine callK_pure (wcount_tri x _ kn) ?_
    rw [cV, cE]
    have hE : falseE x = if (truA x).length = 0 then 10 else 0 := by
      by_cases h : (truA x).length = 0
      · rw [if_pos h]; exact errE_clash hk h
      · rw [if_neg h]; exact errE_told hk (by omega)
    by_cases h0 : (truA x).length = 0
    · rw [if_pos h0] at hE
      have hF : falseP x = (0, 0) := by rw [falseP, hE]; rfl
      rw [hE, hF, h0]
      simp only [vsAll, binA, binLitA, intA, boolA, extractA, pickA, okAll, stAll, opsA, opA, guardV, dstOk, nilSliceOp, Nat.reduceAdd, Nat.reduceLT, Nat.reduceEqDiff, Int.reduceLT, Int.reduceEq, ↓reduceIte, implies_true, eq_self, wtAll, Int.natCast_zero, beq_self_eq_true]
      refine callK_pure (awake_tri _) ?_
      simp only [vsAll, opA, dstOk, nilSliceOp, resA, retA.eq_1, Nat.reduceLT, ↓reduceIte, eq_self, Try.results8]
      exact dropR_pure rfl (by (repeat (first | exact HSub_rfl | refine HSub_put_eq (by simp only [vsAll, binA, binLitA, intA, aggA, boolA, nilA2, isConst, unA, loadA, loadRow, partA, partOk, fieldAddrA, indexAddrA, indexA, fieldA, extractA, lenA, nilCheckA, boxA, cellA, cellsA, fillA, okParts, buildSliceA, buildMutA, makeSliceA, partIdx, elemsA, lensA, ifaceA, convA, mmA, pickA, okAll, stAll, opsA, partsA, partsOk, opA, allocA, boxMutA, newCells, okCells, storeObj, appendA, guardV, taA, nM, mapUpA, lookA, sliceA, boundsA, opO, okO, copyA, dstOk, nilA, quietOk, nilSliceOp, panA, resA, argFr, retA.eq_1, retA.eq_2, Nat.reduceAdd, Nat.reduceSub, Nat.reduceMul, Nat.reduceLT, Nat.reduceLeDiff, Nat.reduceEqDiff, Nat.reduceBEq, Int.reduceAdd, Int.reduceSub, Int.reduceMul, Int.reduceNeg, Int.reduceLE, Int.reduceLT, Int.reduceEq, Int.reduceNe, Int.reduceToNat, ↓reduceIte, reduceCtorEq, implies_true, forall_const, eq_self, ne_eq, wtAll, Try.ntmps8, Try.results8]) ?_ | refine HSub_drop2 (by simp only [vsAll, binA, binLitA, intA, aggA, boolA, nilA2, isConst, unA, loadA, loadRow, partA, partOk, fieldAddrA, indexAddrA, indexA, fieldA, extractA, lenA, nilCheckA, boxA, cellA, cellsA, fillA, okParts, buildSliceA, buildMutA, makeSliceA, partIdx, elemsA, lensA, ifaceA, convA, mmA, pickA, okAll, stAll, opsA, partsA, partsOk, opA, allocA, boxMutA, newCells, okCells, storeObj, appendA, guardV, taA, nM, mapUpA, lookA, sliceA, boundsA, opO, okO, copyA, dstOk, nilA, quietOk, nilSliceOp, panA, resA, argFr, retA.eq_1, retA.eq_2, Nat.reduceAdd, Nat.reduceSub, Nat.reduceMul, Nat.reduceLT, Nat.reduceLeDiff, Nat.reduceEqDiff, Nat.reduceBEq, Int.reduceAdd, Int.reduceSub, Int.reduceMul, Int.reduceNeg, Int.reduceLE, Int.reduceLT, Int.reduceEq, Int.reduceNe, Int.reduceToNat, ↓reduceIte, reduceCtorEq, implies_true, forall_const, eq_self, ne_eq, wtAll, Try.ntmps8, Try.results8]) ?_ | refine HSub_keep_eq (by simp only [vsAll, binA, binLitA, intA, aggA, boolA, nilA2, isConst, unA, loadA, loadRow, partA, partOk, fieldAddrA, indexAddrA, indexA, fieldA, extractA, lenA, nilCheckA, boxA, cellA, cellsA, fillA, okParts, buildSliceA, buildMutA, makeSliceA, partIdx, elemsA, lensA, ifaceA, convA, mmA, pickA, okAll, stAll, opsA, partsA, partsOk, opA, allocA, boxMutA, newCells, okCells, storeObj, appendA, guardV, taA, nM, mapUpA, lookA, sliceA, boundsA, opO, okO, copyA, dstOk, nilA, quietOk, nilSliceOp, panA, resA, argFr, retA.eq_1, retA.eq_2, Nat.reduceAdd, Nat.reduceSub, Nat.reduceMul, Nat.reduceLT, Nat.reduceLeDiff, Nat.reduceEqDiff, Nat.reduceBEq, Int.reduceAdd, Int.reduceSub, Int.reduceMul, Int.reduceNeg, Int.reduceLE, Int.reduceLT, Int.reduceEq, Int.reduceNe, Int.reduceToNat, ↓reduceIte, reduceCtorEq, implies_true, forall_const, eq_self, ne_eq, wtAll, Try.ntmps8, Try.results8]) ?_)))
    · rw [if_neg h0] at hE
      obtain ⟨t0, f⟩ := false_spec hk (by omega)
      obtain ⟨f1, f2, f3⟩ := false_sets hk f
      have hwl := wrongT_lt8 hk t0
      have lw := fun (s o : Nat) (h1 : s < x.st.length) (h2 : o < x.ow.length) (h3 : fxB x s = true) => likely_with hk f h1 h2 h3
      have lp := fun (s : Nat) (h1 : s < x.st.length) => lik_pos hk f h1
      have hv := f.val
      have epw : popW x t0 = pop (wrongT x t0) := rfl
      have hv1 : (falseP x).1 = pop (wrongT x t0) := by rw [hv]; rfl
      have hv2 : (falseP x).2 = wrongT x t0 := by rw [hv]
      have d1 : decide ((0 : Int) < ((truA x).length : Int)) = true := decide_eq_true (by omega)
      simp only [hv1] at lw
      rw [hE, hv1, hv2]
      rw [epw] at f2
      generalize wrongT x t0 = r at f1 f2 f3 hwl lw ⊢
      simp only [vsAll, binA, binLitA, intA, boolA, loadA, loadRow, partA, partOk, fieldAddrA, extractA, lenA, cellA, cellsA, pickA, okAll, stAll, opsA, opA, allocA, newCells, okCells, storeObj, guardV, dstOk, nilSliceOp, Nat.reduceAdd, Nat.reduceLT, Nat.reduceEqDiff, Int.reduceEq, ↓reduceIte, implies_true, eq_self, wtAll, d1, beq_self_eq_true]
      have ep : ∀ k : Nat, (1 : Int) * 2 ^ k = ((2 ^ k : Nat) : Int) := fun k => by rw [Int.one_mul]; simp
      have hp0 : 0 < 2 ^ x.cl.length := Nat.pow_pos (by decide)
      have hp8 := hwl.2
      have c4 := hwl.1
      have ev : ((2 ^ x.cl.length : Nat) : Int) - 1 = ((2 ^ x.cl.length - 1 : Nat) : Int) := by omega
      have d3 : decide ((r : Int) < 0) = false := decide_eq_false (by omega)
      have d4 : decide (((2 ^ x.cl.length - 1 : Nat) : Int) < (r : Int)) = false := decide_eq_false (by omega)
      rw [ep, ev, d3, d4]
      refine ⟨⟨by omega, by omega, by simp only [InR_i64]; omega⟩, by simp only [InR_i64]; omega, ?_⟩
      intro ic hh_ic; (try simp only [Hp.set_none, ite_none] at hh_ic)
      rw [Hp.set_set]
      have a4 : (H.set ic (.box 1 1 fun _ => [i64 ((2 ^ x.cl.length - 1 : Nat) : Int)])) ic = some (.box 1 1 fun _ => [i64 ((2 ^ x.cl.length - 1 : Nat) : Int)]) := Hp.set_same _ _ _
      refine gcall (i64 (pop r)) (fun g => ⟨by simp only [vsAll, opA, Nat.reduceEqDiff, ↓reduceIte, eq_self], by simp only [vsAll, okAll, opsA, opA, ↓reduceIte, eq_self], size_tri r _ (by ((try clear hh_ic); omega))⟩) ?_
      have d5 : decide (((pop r : Nat) : Int) = ((pop r : Nat) : Int)) = true := decide_eq_true rfl
      simp only [vsAll, binA, binLitA, intA, pickA, opA, guardV, dstOk, Nat.reduceLT, Nat.reduceEqDiff, ↓reduceIte, implies_true, eq_self]
      refine gcall (boo (cnB x (2 ^ x.cl.length - 1) r)) (fun g => ⟨by simp only [vsAll, opA, Nat.reduceEqDiff, ↓reduceIte, eq_self], by simp only [vsAll, okAll, opsA, opA, ↓reduceIte, eq_self], canc_tri x ic _ r _ hk a4 (by ((try clear hh_ic); omega)) (by ((try clear hh_ic); omega))⟩) ?_
      obtain ⟨q, rfl⟩ : ∃ q : Nat, w = (q : Int) := ⟨w.toNat, by ((try clear hh_ic); omega)⟩
      simp only [vsAll, binA, binLitA, intA, unA, loadA, loadRow, partA, partOk, convA, pickA, okAll, stAll, opsA, opA, guardV, dstOk, nilSliceOp, argFr, Nat.reduceLT, Nat.reduceEqDiff, ↓reduceIte, implies_true, eq_self, wtAll, f1]
      have hq : q &&& 2 ^ x.cl.length - 1 < 2 ^ x.cl.length := by
        have := @Nat.and_le_right q (2 ^ x.cl.length - 1)
        ((try clear hh_ic); omega)
      generalize q &&& 2 ^ x.cl.length - 1 = o at hq ⊢
      refine ⟨by simp only [InR_i64]; ((try clear hh_ic); omega), ⟨by ((try clear hh_ic); omega), by ((try clear hh_ic); omega), by simp only [InR_i64]; ((try clear hh_ic); omega), by simp only [InR_i64]; ((try clear hh_ic); omega)⟩, ?_⟩
      refine callK_pure (canc_tri x ic _ o _ hk a4 (by ((try clear hh_ic); omega)) (by ((try clear hh_ic); omega))) ?_
      have hco := f2 o
      generalize cnB x (2 ^ x.cl.length - 1) o = co at hco ⊢
      simp only [vsAll, opA, guardV, dstOk, Nat.reduceLT, Nat.reduceEqDiff, ↓reduceIte, implies_true, eq_self]
      refine gcall (i64 (pop o)) (fun g => ⟨by simp only [vsAll, opA, Nat.reduceEqDiff, ↓reduceIte, eq_self, g], by simp only [vsAll, okAll, opsA, opA, ↓reduceIte, eq_self, g], size_tri o _ (by ((try clear hh_ic); omega))⟩) ?_
      simp only [vsAll, binA, binLitA, intA, opA, guardV, dstOk, Nat.reduceLT, Nat.reduceEqDiff, ↓reduceIte, implies_true, eq_self]
      refine gcall (i64 (pop o)) (fun g => ⟨by simp only [vsAll, opA, Nat.reduceEqDiff, ↓reduceIte, eq_self, g], by simp only [vsAll, okAll, opsA, opA, ↓reduceIte, eq_self, g], size_tri o _ (by ((try clear hh_ic); omega))⟩) ?_
      simp only [vsAll, binA, binLitA, intA, pickA, opA, guardV, dstOk, Nat.reduceLT, Nat.reduceEqDiff, ↓reduceIte, implies_true, eq_self]
      refine ⟨fun g => ⟨g, fun g2 => by rw [g, g2]; rfl⟩, fun g => ⟨g, fun g2 => by rw [g, g2]; rfl⟩, condV (fun hb => ?_) (fun hb => ?_)⟩
      · exfalso
        cases co with
        | false => cases hb
        | true =>
          have := hco rfl
          simp at hb
          ((try clear hh_ic); omega)
      · simp only [vsAll, loadA, loadRow, partA, partOk, fieldAddrA, lenA, opA, dstOk, Nat.reduceLT, Nat.reduceEqDiff, ↓reduceIte, eq_self, wtAll]
        refine vs_loop (σ := Nat) (fun i => i ≤ x.cl.length) (fun i => [(2, .lit (.int .u8 c)), (3, .rptr 1 5 (fun _ => x.cs) 0 0), (7, i64 (pop r)), (8, i64 r), (13, .func (.func 36) [] [.rptr 1 5 (fun _ => x.cs) 0 0, .ref ic 0 1 0 0]), (138, i64 x.cl.length), (139, i64 i)]) (fun _ => (H.set ic (.box 1 1 fun _ => [i64 ((2 ^ x.cl.length - 1 : Nat) : Int)]))) (fun i => x.cl.length - i) 0 (by ((try clear hh_ic); omega)) ?_ (HSub.refl _) fun i hi => ?_
        · simp only [vsAll, argFr, Nat.reduceEqDiff, ↓reduceIte, eq_self, Int.natCast_zero]
        · simp only [vsAll, binA, binLitA, intA, opA, dstOk, Nat.reduceLT, Nat.reduceEqDiff, ↓reduceIte, eq_self]
          refine condD (fun hd => ?_) (fun hd => ?_)
          · have hi2 : i < x.cl.length := by ((try clear hh_ic); omega)
            have hpi : 2 ^ i ≤ 2 ^ 8 := Nat.pow_le_pow_right (by decide) (by ((try clear hh_ic); omega))
            have hc6 := f3 i hi2
            have hlx : r ^^^ (r &&& 2 ^ i) < 2 ^ x.cl.length := Nat.xor_lt_two_pow c4 (Nat.lt_of_le_of_lt Nat.and_le_left c4)
            have hd0 : 0 ≤ (r : Int) / 2 ^ i ∧ (r : Int) / 2 ^ i ≤ r := ⟨Int.ediv_nonneg (by ((try clear hh_ic); omega)) (Int.le_of_lt (Int.pow_pos (by decide))), Int.ediv_le_self _ (by ((try clear hh_ic); omega))⟩
            simp only [vsAll, binA, binLitA, intA, opA, guardV, dstOk, nilSliceOp, Nat.reduceLT, Nat.reduceEqDiff, Int.reduceLE, Int.reduceToNat, ↓reduceIte, implies_true, eq_self]
            rw [bit_eq, ep]
            generalize 2 ^ i = P at *
            refine ⟨⟨by ((try clear hh_ic); omega), by ((try clear hh_ic); omega), rfl⟩, ⟨hd0.1, by simp only [InR_i64]; ((try clear hh_ic); omega), by simp only [InR_i64]; ((try clear hh_ic); omega)⟩, fun g => ⟨g, by ((try clear hh_ic); omega), by ((try clear hh_ic); omega), by simp only [InR_i64]; ((try clear hh_ic); omega)⟩, fun g => ⟨g, g, by ((try clear hh_ic); omega), by ((try clear hh_ic); omega), by simp only [InR_i64]; ((try clear hh_ic); omega), by simp only [InR_i64]; ((try clear hh_ic); omega)⟩, ?_⟩
            refine gcall (boo (cnB x (2 ^ x.cl.length - 1) (r ^^^ (r &&& P)))) (fun g => ⟨by simp only [vsAll, opA, Nat.reduceEqDiff, ↓reduceIte, eq_self, g], by simp only [vsAll, okAll, opsA, opA, ↓reduceIte, eq_self, g], canc_tri x ic _ (r ^^^ (r &&& P)) _ hk a4 (by ((try clear hh_ic); omega)) (by ((try clear hh_ic); omega))⟩) ?_
            simp only [vsAll, pickA, opA, dstOk, Nat.reduceLT, Nat.reduceEqDiff, ↓reduceIte, implies_true, eq_self]
            refine condV (fun hb => ?_) (fun hb => ?_)
            · exfalso
              rw [Bool.and_eq_true] at hb
              rw [hc6 hb.1] at hb
              cases hb.2
            · simp only [vsAll, binA, binLitA, intA, opA, dstOk, Nat.reduceLT, Nat.reduceEqDiff, ↓reduceIte, eq_self]
              refine ⟨by simp only [InR_i64]; ((try clear hh_ic); omega), loop_next (i + 1) (by ((try clear hh_ic); omega)) (by ((try clear hh_ic); omega)) ?_ (HSub.refl _)⟩
              simp only [vsAll, Nat.reduceEqDiff, ↓reduceIte, eq_self, Int.natCast_add, Int.natCast_one]
          · simp only [vsAll, binA, binLitA, intA, loadA, loadRow, partA, partOk, fieldAddrA, lenA, opA, dstOk, Nat.reduceLT, Nat.reduceEqDiff, ↓reduceIte, eq_self, wtAll]
            refine condV (fun hs0 => ?_) (fun hs0 => ?_)
            · simp only [vsAll, okAll, stAll, opsA, opA, dstOk, Nat.reduceLT]
              refine callK_pure (awake_tri _) ?_
              simp only [vsAll, opA, dstOk, nilSliceOp, resA, retA.eq_1, Nat.reduceLT, ↓reduceIte, eq_self, Try.results8]
              exact dropR_pure rfl (by (repeat (first | exact HSub_rfl | refine HSub_put_eq (by simp only [vsAll, binA, binLitA, intA, aggA, boolA, nilA2, isConst, unA, loadA, loadRow, partA, partOk, fieldAddrA, indexAddrA, indexA, fieldA, extractA, lenA, nilCheckA, boxA, cellA, cellsA, fillA, okParts, buildSliceA, buildMutA, makeSliceA, partIdx, elemsA, lensA, ifaceA, convA, mmA, pickA, okAll, stAll, opsA, partsA, partsOk, opA, allocA, boxMutA, newCells, okCells, storeObj, appendA, guardV, taA, nM, mapUpA, lookA, sliceA, boundsA, opO, okO, copyA, dstOk, nilA, quietOk, nilSliceOp, panA, resA, argFr, retA.eq_1, retA.eq_2, Nat.reduceAdd, Nat.reduceSub, Nat.reduceMul, Nat.reduceLT, Nat.reduceLeDiff, Nat.reduceEqDiff, Nat.reduceBEq, Int.reduceAdd, Int.reduceSub, Int.reduceMul, Int.reduceNeg, Int.reduceLE, Int.reduceLT, Int.reduceEq, Int.reduceNe, Int.reduceToNat, ↓reduceIte, reduceCtorEq, implies_true, forall_const, eq_self, ne_eq, wtAll, Try.ntmps8, Try.results8, hh_ic]) ?_ | refine HSub_drop2 (by simp only [eq_self, hh_ic]) ?_ | refine HSub_keep_eq (by simp only [vsAll, binA, binLitA, intA, aggA, boolA, nilA2, isConst, unA, loadA, loadRow, partA, partOk, fieldAddrA, indexAddrA, indexA, fieldA, extractA, lenA, nilCheckA, boxA, cellA, cellsA, fillA, okParts, buildSliceA, buildMutA, makeSliceA, partIdx, elemsA, lensA, ifaceA, convA, mmA, pickA, okAll, stAll, opsA, partsA, partsOk, opA, allocA, boxMutA, newCells, okCells, storeObj, appendA, guardV, taA, nM, mapUpA, lookA, sliceA, boundsA, opO, okO, copyA, dstOk, nilA, quietOk, nilSliceOp, panA, resA, argFr, retA.eq_1, retA.eq_2, Nat.reduceAdd, Nat.reduceSub, Nat.reduceMul, Nat.reduceLT, Nat.reduceLeDiff, Nat.reduceEqDiff, Nat.reduceBEq, Int.reduceAdd, Int.reduceSub, Int.reduceMul, Int.reduceNeg, Int.reduceLE, Int.reduceLT, Int.reduceEq, Int.reduceNe, Int.reduceToNat, ↓reduceIte, reduceCtorEq, implies_true, forall_const, eq_self, ne_eq, wtAll, Try.ntmps8, Try.results8, hh_ic]) ?_)))
            · have hs1 := of_decide_eq_false hs0
              have nS := hk.nS
              have nO := hk.nO
              have hmod := u8_mod hc x.st.length
              have hs : c.toNat % x.st.length < x.st.length := Nat.mod_lt _ (by ((try clear hh_ic); omega))
              generalize c.toNat % x.st.length = s at hmod hs
              have hvs : strB x (s : Int) = true := (strB_iff x s).2 ⟨by ((try clear hh_ic); omega), by ((try clear hh_ic); omega)⟩
              have lE : likE x s = 0 := by unfold likE; rw [hvs]; exact errE_told hk (by ((try clear hh_ic); omega))
              have lV : likV x s = likN x s x.ow.length := by rw [likV, if_pos lE, Int.toNat_natCast]
              have hlt := likN_lt x s x.ow.length
              have lpos := lp s hs
              have lw2 := fun o h2 h3 => lw s o hs h2 h3
              have hp5 : 2 ^ x.ow.length ≤ 2 ^ 5 := Nat.pow_le_pow_right (by decide) nO
              simp only [vsAll, binA, binLitA, intA, loadA, loadRow, partA, partOk, fieldAddrA, lenA, convA, okAll, stAll, opsA, opA, dstOk, nilSliceOp, Nat.reduceLT, Nat.reduceEqDiff, ↓reduceIte, eq_self, ne_eq, wtAll, hmod]
              refine ⟨by simp only [InR_i64]; ((try clear hh_ic); omega), by ((try clear hh_ic); omega), ?_⟩
              refine callK_pure (wlikely_tri x s _ kn) ?_
              rw [lE, lV]
              have q1 : ((likN x s x.ow.length : Nat) : Int) / 2 ^ x.ow.length = 0 := by
                have ep : ((2 ^ x.ow.length : Nat) : Int) = 2 ^ x.ow.length := by simp
                rw [← ep]
                exact Int.ediv_eq_zero_of_lt (by ((try clear hh_ic); omega)) (by ((try clear hh_ic); omega))
              generalize likN x s x.ow.length = lk at *
              have d6 : decide ((lk : Int) < 1) = false := decide_eq_false (by ((try clear hh_ic); omega))
              simp only [vsAll, binA, binLitA, intA, loadA, loadRow, partA, partOk, fieldAddrA, extractA, lenA, pickA, opA, guardV, dstOk, nilSliceOp, Nat.reduceAdd, Nat.reduceLT, Nat.reduceEqDiff, ↓reduceIte, implies_true, forall_const, eq_self, wtAll, d6, q1]
              refine ⟨⟨by ((try clear hh_ic); omega), by ((try clear hh_ic); omega), rfl⟩, ?_⟩
              refine vs_loop (σ := Nat) (fun i => i ≤ x.ow.length) (fun i => [(3, .rptr 1 5 (fun _ => x.cs) 0 0), (7, i64 (pop r)), (17, i64 s), (18, i64 lk), (189, i64 x.ow.length), (190, i64 i)]) (fun _ => (H.set ic (.box 1 1 fun _ => [i64 ((2 ^ x.cl.length - 1 : Nat) : Int)]))) (fun i => x.ow.length - i) 0 (by ((try clear hh_ic); omega)) ?_ (HSub.refl _) fun i hi => ?_
              · simp only [vsAll, Nat.reduceEqDiff, ↓reduceIte, eq_self, Int.natCast_zero]
              · simp only [vsAll, binA, binLitA, intA, opA, dstOk, Nat.reduceLT, Nat.reduceEqDiff, ↓reduceIte, eq_self]
                refine condD (fun hd => ?_) (fun hd => ?_)
                · have hi2 : i < x.ow.length := by ((try clear hh_ic); omega)
                  have lw3 := lw2 i hi2
                  simp only [vsAll, loadA, loadRow, partA, partOk, okAll, stAll, opsA, opA, dstOk, nilSliceOp, Nat.reduceLT, Nat.reduceEqDiff, ↓reduceIte, eq_self, wtAll]
                  refine callK_pure (fixed_tri x s i _ hk hs hi2) ?_
                  simp only [vsAll, unA, extractA, cellA, cellsA, opA, allocA, newCells, okCells, storeObj, dstOk, nilSliceOp, Nat.reduceAdd, Nat.reduceLT, Nat.reduceEqDiff, ↓reduceIte, eq_self, wtAll]
                  intro iy hh_iy; (try simp only [ite_none] at hh_iy)
                  refine condV (fun hx => ?_) (fun hx => ?_)
                  · simp only [vsAll, okAll, stAll, opsA, opA, dstOk, Nat.reduceLT]
                    refine callK_pure (awake_tri _) ?_
                    simp only [vsAll, opA, dstOk, nilSliceOp, resA, retA.eq_1, Nat.reduceLT, ↓reduceIte, eq_self, Try.results8]
                    exact dropR_pure rfl (by (repeat (first | exact HSub_rfl | refine HSub_put_eq (by simp only [vsAll, binA, binLitA, intA, aggA, boolA, nilA2, isConst, unA, loadA, loadRow, partA, partOk, fieldAddrA, indexAddrA, indexA, fieldA, extractA, lenA, nilCheckA, boxA, cellA, cellsA, fillA, okParts, buildSliceA, buildMutA, makeSliceA, partIdx, elemsA, lensA, ifaceA, convA, mmA, pickA, okAll, stAll, opsA, partsA, partsOk, opA, allocA, boxMutA, newCells, okCells, storeObj, appendA, guardV, taA, nM, mapUpA, lookA, sliceA, boundsA, opO, okO, copyA, dstOk, nilA, quietOk, nilSliceOp, panA, resA, argFr, retA.eq_1, retA.eq_2, Nat.reduceAdd, Nat.reduceSub, Nat.reduceMul, Nat.reduceLT, Nat.reduceLeDiff, Nat.reduceEqDiff, Nat.reduceBEq, Int.reduceAdd, Int.reduceSub, Int.reduceMul, Int.reduceNeg, Int.reduceLE, Int.reduceLT, Int.reduceEq, Int.reduceNe, Int.reduceToNat, ↓reduceIte, reduceCtorEq, implies_true, forall_const, eq_self, ne_eq, wtAll, Try.ntmps8, Try.results8, hh_ic, hh_iy]) ?_ | refine HSub_drop2 (by simp only [eq_self, hh_ic, hh_iy]) ?_ | refine HSub_keep_eq (by simp only [vsAll, binA, binLitA, intA, aggA, boolA, nilA2, isConst, unA, loadA, loadRow, partA, partOk, fieldAddrA, indexAddrA, indexA, fieldA, extractA, lenA, nilCheckA, boxA, cellA, cellsA, fillA, okParts, buildSliceA, buildMutA, makeSliceA, partIdx, elemsA, lensA, ifaceA, convA, mmA, pickA, okAll, stAll, opsA, partsA, partsOk, opA, allocA, boxMutA, newCells, okCells, storeObj, appendA, guardV, taA, nM, mapUpA, lookA, sliceA, boundsA, opO, okO, copyA, dstOk, nilA, quietOk, nilSliceOp, panA, resA, argFr, retA.eq_1, retA.eq_2, Nat.reduceAdd, Nat.reduceSub, Nat.reduceMul, Nat.reduceLT, Nat.reduceLeDiff, Nat.reduceEqDiff, Nat.reduceBEq, Int.reduceAdd, Int.reduceSub, Int.reduceMul, Int.reduceNeg, Int.reduceLE, Int.reduceLT, Int.reduceEq, Int.reduceNe, Int.reduceToNat, ↓reduceIte, reduceCtorEq, implies_true, forall_const, eq_self, ne_eq, wtAll, Try.ntmps8, Try.results8, hh_ic, hh_iy]) ?_)))
                  · rw [Bool.not_eq_false'] at hx
                    obtain ⟨l1, l2⟩ := lw3 hx
                    have yk := (withI_ok hk hs i hx).near
                    simp only [vsAll, loadA, loadRow, partA, partOk, okAll, stAll, opsA, opA, dstOk, Nat.reduceLT, Nat.reduceEqDiff, ↓reduceIte, eq_self, wtAll]
                    refine callK_pure (wfalse_tri (withI x s i) _ yk) ?_
                    generalize (falseP (withI x s i)).1 = fp at l1 l2 ⊢
                    generalize (falseP (withI x s i)).2 = fq at l1 l2 ⊢
                    generalize falseE (withI x s i) = E at l1 l2 ⊢
                    have hd0 : 0 ≤ (lk : Int) / 2 ^ i ∧ (lk : Int) / 2 ^ i ≤ lk := ⟨Int.ediv_nonneg (by ((try clear hh_ic); (try clear hh_iy); omega)) (Int.le_of_lt (Int.pow_pos (by decide))), Int.ediv_le_self _ (by ((try clear hh_ic); (try clear hh_iy); omega))⟩
                    simp only [vsAll, binA, binLitA, intA, boolA, extractA, pickA, opA, guardV, dstOk, nilSliceOp, Nat.reduceAdd, Nat.reduceLT, Nat.reduceEqDiff, Int.reduceLE, Int.reduceToNat, ↓reduceIte, implies_true, eq_self, wtAll]
                    have e1 : decide ((fp : Int) = ((pop r : Nat) : Int)) = decide (fp = pop r) := decide_eq_decide.2 (by ((try clear hh_ic); (try clear hh_iy); omega))
                    rw [bit_eq, e1, ← l1, beq_self_eq_true]
                    refine ⟨⟨by ((try clear hh_ic); (try clear hh_iy); omega), by ((try clear hh_ic); (try clear hh_iy); omega), rfl⟩, ⟨hd0.1, by simp only [InR_i64]; ((try clear hh_ic); (try clear hh_iy); omega), by simp only [InR_i64]; ((try clear hh_ic); (try clear hh_iy); omega)⟩, fun g => ⟨g, fun g2 => by rw [g2]; rfl⟩, condV (fun hz => ?_) (fun hz => ?_)⟩
                    · exfalso
                      simp at hz
                      have := l2 hz.1
                      ((try clear hh_ic); (try clear hh_iy); omega)
                    · simp only [vsAll, binA, binLitA, intA, opA, dstOk, Nat.reduceLT, Nat.reduceEqDiff, ↓reduceIte, eq_self]
                      refine ⟨by simp only [InR_i64]; ((try clear hh_ic); (try clear hh_iy); omega), loop_next (i + 1) (by ((try clear hh_ic); (try clear hh_iy); omega)) (by ((try clear hh_ic); (try clear hh_iy); omega)) ?_ (by (repeat (first | exact HSub_rfl | refine HSub_put_eq (by simp only [vsAll, ↓reduceIte, eq_self, hh_iy]) ?_ | refine HSub_drop2 (by simp only [eq_self, hh_ic, hh_iy]) ?_ | refine HSub_keep_eq (by simp only [vsAll, binA, binLitA, intA, aggA, boolA, nilA2, isConst, unA, loadA, loadRow, partA, partOk, fieldAddrA, indexAddrA, indexA, fieldA, extractA, lenA, nilCheckA, boxA, cellA, cellsA, fillA, okParts, buildSliceA, buildMutA, makeSliceA, partIdx, elemsA, lensA, ifaceA, convA, mmA, pickA, okAll, stAll, opsA, partsA, partsOk, opA, allocA, boxMutA, newCells, okCells, storeObj, appendA, guardV, taA, nM, mapUpA, lookA, sliceA, boundsA, opO, okO, copyA, dstOk, nilA, quietOk, nilSliceOp, panA, resA, argFr, retA.eq_1, retA.eq_2, Nat.reduceAdd, Nat.reduceSub, Nat.reduceMul, Nat.reduceLT, Nat.reduceLeDiff, Nat.reduceEqDiff, Nat.reduceBEq, Int.reduceAdd, Int.reduceSub, Int.reduceMul, Int.reduceNeg, Int.reduceLE, Int.reduceLT, Int.reduceEq, Int.reduceNe, Int.reduceToNat, ↓reduceIte, reduceCtorEq, implies_true, forall_const, eq_self, ne_eq, wtAll, Try.ntmps8, Try.results8, hh_ic, hh_iy]) ?_)))⟩
                      simp only [vsAll, Nat.reduceEqDiff, ↓reduceIte, eq_self, Int.natCast_add, Int.natCast_one]
                · simp only [vsAll, okAll, stAll, opsA, opA, dstOk, Nat.reduceLT, ↓reduceIte, eq_self]
                  refine callK_pure (awake_tri _) ?_
                  simp only [vsAll, opA, dstOk, nilSliceOp, resA, retA.eq_1, Nat.reduceLT, ↓reduceIte, eq_self, Try.results8]
                  exact dropR_pure rfl (by (repeat (first | exact HSub_rfl | refine HSub_put_eq (by simp only [vsAll, binA, binLitA, intA, aggA, boolA, nilA2, isConst, unA, loadA, loadRow, partA, partOk, fieldAddrA, indexAddrA, indexA, fieldA, extractA, lenA, nilCheckA, boxA, cellA, cellsA, fillA, okParts, buildSliceA, buildMutA, makeSliceA, partIdx, elemsA, lensA, ifaceA, convA, mmA, pickA, okAll, stAll, opsA, partsA, partsOk, opA, allocA, boxMutA, newCells, okCells, storeObj, appendA, guardV, taA, nM, mapUpA, lookA, sliceA, boundsA, opO, okO, copyA, dstOk, nilA, quietOk, nilSliceOp, panA, resA, argFr, retA.eq_1, retA.eq_2, Nat.reduceAdd, Nat.reduceSub, Nat.reduceMul, Nat.reduceLT, Nat.reduceLeDiff, Nat.reduceEqDiff, Nat.reduceBEq, Int.reduceAdd, Int.reduceSub, Int.reduceMul, Int.reduceNeg, Int.reduceLE, Int.reduceLT, Int.reduceEq, Int.reduceNe, Int.reduceToNat, ↓reduceIte, reduceCtorEq, implies_true, forall_const, eq_self, ne_eq, wtAll, Try.ntmps8, Try.results8, hh_ic]) ?_ | refine HSub_drop2 (by simp only [eq_self, hh_ic]) ?_ | refine HSub_keep_eq (by simp only [vsAll, binA, binLitA, intA, aggA, boolA, nilA2, isConst, unA, loadA, loadRow, partA, partOk, fieldAddrA, indexAddrA, indexA, fieldA, extractA, lenA, nilCheckA, boxA, cellA, cellsA, fillA, okParts, buildSliceA, buildMutA, makeSliceA, partIdx, elemsA, lensA, ifaceA, convA, mmA, pickA, okAll, stAll, opsA, partsA, partsOk, opA, allocA, boxMutA, newCells, okCells, storeObj, appendA, guardV, taA, nM, mapUpA, lookA, sliceA, boundsA, opO, okO, copyA, dstOk, nilA, quietOk, nilSliceOp, panA, resA, argFr, retA.eq_1, retA.eq_2, Nat.reduceAdd, Nat.reduceSub, Nat.reduceMul, Nat.reduceLT, Nat.reduceLeDiff, Nat.reduceEqDiff, Nat.reduceBEq, Int.reduceAdd, Int.reduceSub, Int.reduceMul, Int.reduceNeg, Int.reduceLE, Int.reduceLT, Int.reduceEq, Int.reduceNe, Int.reduceToNat, ↓reduceIte, reduceCtorEq, implies_true, forall_const, eq_self, ne_eq, wtAll, Try.ntmps8, Try.results8, hh_ic]) ?_)))
end Go.Proofs.Ytkonoggmdcdeeaa
end
section
set_option linter.unusedVariables false
set_option linter.unusedSimpArgs false
set_option maxRecDepth 100000
namespace Go.Proofs.Ytkonoggmdcdeeaa
open Go.V Go.ChangeShapes Go.WideShapes Go.ChangeAt Go.RowKit
theorem irons_cells : cellsT Try.prog 9 27 = some [.int .i64, .sl [.sl [.int .i64]], .sl [.int .i64], .sl [.sl [.int .i64, .int .i64, .int .i64]], .sl [.int .i64, .int .i64, .bool]] := by kernel_rfl
theorem ints_of {av : AV} (h : CKA (.sl [.int .i64]) av) : ∃ l : List Int, l.length ≤ maxLen ∧ AV.Le av (intsAV l) := by
  obtain ⟨l, h1, h2⟩ := told_slice (α := Int) (fun z => [i64 z]) 0 (fun cs hcs => by
    obtain ⟨z, hz, _⟩ := told_int 0 hcs rfl
    exact ⟨z, rfl, fun j hj => by
      match j, hj with
      | 0, _ => rw [hz]; exact AV.Le.refl _⟩) h
  exact ⟨l, h1, h2⟩
theorem marks_of {av : AV} (h : CKA (.sl [.int .i64, .int .i64, .int .i64]) av) : ∃ l : List Mk, l.length ≤ maxLen ∧ AV.Le av (mksAV l) := by
  obtain ⟨l, h1, h2⟩ := told_slice (α := Mk) Mk.cs mk0 (fun cs hcs => by
    obtain ⟨a, ha, _⟩ := told_int 0 hcs rfl
    obtain ⟨b, hb, _⟩ := told_int 1 hcs rfl
    obtain ⟨c, hc, _⟩ := told_int 2 hcs rfl
    exact ⟨⟨a, b, c⟩, rfl, fun j hj => by
      match j, hj with
      | 0, _ => rw [ha]; exact AV.Le.refl _
      | 1, _ => rw [hb]; exact AV.Le.refl _
      | 2, _ => rw [hc]; exact AV.Le.refl _⟩) h
  exact ⟨l, h1, h2⟩
theorem claims_of {av : AV} (h : CKA (.sl [.int .i64, .int .i64, .bool]) av) : ∃ l : List Cl, l.length ≤ maxLen ∧ AV.Le av (clAV l) := by
  obtain ⟨l, h1, h2⟩ := told_slice (α := Cl) Cl.cs cl0 (fun cs hcs => by
    obtain ⟨a, ha, _⟩ := told_int 0 hcs rfl
    obtain ⟨b, hb, _⟩ := told_int 1 hcs rfl
    obtain ⟨c, hc⟩ := told_bool 2 hcs rfl
    exact ⟨⟨a, b, c⟩, rfl, fun j hj => by
      match j, hj with
      | 0, _ => rw [ha]; exact AV.Le.refl _
      | 1, _ => rw [hb]; exact AV.Le.refl _
      | 2, _ => rw [hc]; exact AV.Le.refl _⟩) h
  exact ⟨l, h1, h2⟩
theorem lists_of {av : AV} (h : CKA (.sl [.sl [.int .i64]]) av) : ∃ l : List (List Int), l.length ≤ maxLen ∧ AV.Le av (llAV l) := by
  obtain ⟨l, h1, h2⟩ := told_slice (α := List Int) (fun l => [intsAV l]) [] (fun cs hcs => by
    obtain ⟨l, _, hl⟩ := ints_of (hcs.2 0 _ rfl)
    exact ⟨l, rfl, fun j hj => by
      match j, hj with
      | 0, _ => exact hl⟩) h
  exact ⟨l, h1, h2⟩
theorem strakes_of {av : AV} (h : CKA (.sl [.sl [.int .i64, .int .i64, .int .i64]]) av) : ∃ l : List (List Mk), l.length ≤ maxLen ∧ AV.Le av (stAV l) := by
  obtain ⟨l, h1, h2⟩ := told_slice (α := List Mk) (fun l => [mksAV l]) [] (fun cs hcs => by
    obtain ⟨l, _, hl⟩ := marks_of (hcs.2 0 _ rfl)
    exact ⟨l, rfl, fun j hj => by
      match j, hj with
      | 0, _ => exact hl⟩) h
  exact ⟨l, h1, h2⟩
theorem iron_rel {H : Type} {enc : TypeId × Value → H} {W : World} {sp : Nat → Bool} {held : Bool} {v : Value} {d : DataW H} {ps : List MemPlace}
    (h : DataW.Trod enc Try.prog W 0 sp held 27 v d ps) : ∃ x : Ir, (x.ow.length < 2 ^ 63 ∧ x.st.length < 2 ^ 63) ∧ VRel (st0 W) x.av v := by
  obtain ⟨cs, hcs, hv⟩ := trod_agg irons_cells (by decide) h
  obtain ⟨F, h0, _⟩ := told_int 0 hcs rfl
  obtain ⟨ow, l1, h1⟩ := lists_of (hcs.2 1 _ rfl)
  obtain ⟨mo, l2, h2⟩ := ints_of (hcs.2 2 _ rfl)
  obtain ⟨st, l3, h3⟩ := strakes_of (hcs.2 3 _ rfl)
  obtain ⟨cl, l4, h4⟩ := claims_of (hcs.2 4 _ rfl)
  have hm : maxLen < 2 ^ 63 := by decide
  refine ⟨⟨F, ow, mo, st, cl⟩, ⟨by show ow.length < _; omega, by show st.length < _; omega⟩, AV.Le.aggD (cs := cs) hcs.1.symm (fun j hj => ?_) _ _ hv⟩
  have hj5 : j < 5 := by have := hcs.1; simp at this; omega
  match j, hj5 with
  | 0, _ => rw [h0]; exact AV.Le.refl _
  | 1, _ => exact h1
  | 2, _ => exact h2
  | 3, _ => exact h3
  | 4, _ => exact h4

theorem Try.own : ownKnob Try.prog.godebug = none := by kernel_rfl
theorem u4 : Try.prog.underlying 4 = some .bool := by kernel_rfl
end Go.Proofs.Ytkonoggmdcdeeaa
end
section
set_option linter.unusedVariables false
set_option linter.unusedSimpArgs false
set_option maxRecDepth 100000
namespace Go.Proofs.Ytkonoggmdcdeeaa
open Go.V Go.ChangeShapes Go.WideShapes Go.ChangeAt Go.RowKit
theorem ironFalse_u5 : Try.prog.underlying 5 = some (.int .u8) := by kernel_rfl
theorem ironFalse_b8 {n : Int} (h : (Lit.int .u8 n).wf = true) : 0 ≤ n ∧ n ≤ 255 := by
  simp [Lit.wf, IntKind.min, IntKind.max, IntKind.signed, IntKind.bits] at h
  omega

theorem ironFalse_lifted (os : Os) (started : os.Started) (H : Type) (enc : TypeId × Value → H) :
    ReturnsInHanded {} Try.checked os 8 .any (Rows.ironFalseSpec.pre6 enc Try.prog Try.f8 Rows.ironFalseRow.domain false) (Rows.ironFalseSpec.post enc Try.prog Try.f8 false true false false) := by
  refine returnsInHanded_of_change (C := Try.checked) Try.own started (by kernel_rfl) Try.func8
    (ChangeSpec.witness6 (enc := enc) (C := Try.checked) false ⟨#[], #[.agg #[.int .i64 0, .slice none 0 0, .slice none 0 0, .slice none 0 0, .slice none 0 0], .int .u8 0, .int .u8 0], []⟩ 8 (by kernel_rfl) (by kernel_rfl) (by kernel_rfl) (by kernel_rfl)) ?_
  intro W base args ds gs before hval hW hcnd _
  have hW' := hW
  obtain ⟨p, q, hA, hV, rfl, hfz, hnd⟩ := hW
  obtain ⟨rfl, rfl⟩ := trodVars_none hV
  rw [show Try.f8.params.toList = [27, 5, 5] from by kernel_rfl] at hA
  obtain ⟨v0, v1, v2, d0, d1, d2, p0, p1, p2, rfl, rfl, rfl, h0, h1, h2⟩ := trodAll_three hA
  have hval : ∀ (j : Nat) t v, Try.f8.params[j]? = some t → (#[v0, v1, v2] : Array Value)[j]? = some v → Value.okWide Try.prog W .any base t v := hval
  rw [show Try.f8.params = #[27, 5, 5] from by kernel_rfl] at hval
  obtain ⟨x1, rfl, rfl, rfl, w1⟩ := open_int ironFalse_u5 (hval 1 5 v1 rfl rfl) h1
  obtain ⟨x2, rfl, rfl, rfl, w2⟩ := open_int ironFalse_u5 (hval 2 5 v2 rfl rfl) h2
  obtain ⟨h, hbd, hr⟩ := iron_rel h0
  refine (law_calls Try.func8 (by kernel_rfl) rfl (Tri.mono (false_law h x1 x2 H0 (ironFalse_b8 w1) (ironFalse_b8 w2) hbd.1 hbd.2) ?_) ⟨rfl, fun k hk => match k, hk with | 0, _ => hr | 1, _ => .lit _ | 2, _ => .lit _⟩).mono fun e W' he => ?_
  · rintro r H' ⟨rfl, _⟩; rfl
  · obtain ⟨rfl, hh, ho, hp⟩ := he
    exact ⟨_, rfl, law_post (d := 6) rfl (tb := 4) (by kernel_rfl) u4 (by decide +kernel) hW' rfl hh ho hp⟩

theorem ironFalse_holds : Rows.IronFalseSaid :=
  OpenClaim.holds_of_wide (p := Try.pinned) (s := Rows.ironFalseSpec) (c := Rows.ironFalseRow) 8 Try.f8 rfl rfl rfl rfl rfl rfl rfl ⟨rfl, rfl, rfl, rfl, rfl⟩ rfl rfl rfl rfl rfl (by kernel_rfl) Try.func8 (by kernel_rfl)
    (of_decide_eq_true (by kernel_rfl)) (by unfold Func.isWrapper; first | (rw [if_pos (by decide +kernel)]; kernel_rfl) | (rw [if_neg (by decide +kernel)]; exact ⟨rfl, rfl⟩))
    (fun os started H enc _ => ironFalse_lifted os started H enc)

end Go.Proofs.Ytkonoggmdcdeeaa
end
