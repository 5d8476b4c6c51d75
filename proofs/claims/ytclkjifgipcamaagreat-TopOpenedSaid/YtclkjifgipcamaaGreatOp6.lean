/- WHAT IS PROVED: the given statement of this claim. Conditions: none beyond the given row. -/
import Derived.Test.YtclkjifgipcamaaGreatRows
import Derived.ChangeVars
import Derived.Test.YtclkjifgipcamaaGreatOp5
section
set_option linter.unusedVariables false
set_option linter.unusedSimpArgs false
set_option maxHeartbeats 8000000
set_option maxRecDepth 100000
namespace Go.Proofs.YtclkjifgipcamaaGreat
open Go.V
inductive FzL (id st n : Nat) (f : Nat → List AV) : List (Nat × AV) → List (Nat × AV) → Prop
 | nil : FzL id st n f [] []
 | same {t : Nat} {v : AV} {l l' : List (Nat × AV)} : FzL id st n f l l' → FzL id st n f ((t, v) :: l) ((t, v) :: l')
 | hit {t : Nat} {l l' : List (Nat × AV)} : FzL id st n f l l' → FzL id st n f ((t, .sl id st n) :: l) ((t, .rsl n st f) :: l')
theorem FzL.frz {id st n : Nat} {f : Nat → List AV} {l l' : List (Nat × AV)} (h : FzL id st n f l l') : ∀ t, Fr.of l' t = Fr.of l t ∨ (Fr.of l t = .sl id st n ∧ Fr.of l' t = .rsl n st f) := by
 intro t
 induction h with
 | nil => exact .inl rfl
 | same _ ih =>
   simp only [Fr.of]
   split
   ·exact .inl rfl
   ·exact ih
 | hit _ ih =>
   simp only [Fr.of]
   split
   ·exact .inr ⟨rfl, rfl⟩
   ·exact ih
theorem HSub_eqn {A B : Hp} (h : ∀ q, B q = none ∨ A q = B q) : Go.V.HSub A B := fun q o hq => by
 rcases h q with e | e
 ·rw [e] at hq; cases hq
 ·exact ⟨o, by rw [e]; exact hq, .refl _⟩
theorem FzL.refl {id st n : Nat} {f : Nat → List AV} : ∀ l : List (Nat × AV), FzL id st n f l l
 | [] => .nil
 | (t, v) :: l => .same (FzL.refl l)
abbrev idL (n : Nat) : List Int := (List.range n).map fun i : Nat => (i : Int)
theorem idL_len (n : Nat) : (idL n).length = n := by simp
theorem idL_succ (n : Nat) : idL (n + 1) = idL n ++ [(n : Int)] := by
 show (List.range (n + 1)).map _ = (List.range n).map _ ++ _
 rw [List.range_succ, List.map_append]; rfl
theorem idL_at {n i : Nat} (hi : i < n) : (idL n).getD i 0 = (i : Int) := by simp [List.getD_eq_getElem?_getD, hi]
def swq (g : Nat → Int) (i k : Nat) : Nat → Int := fun q => if q = k then g i else if q = i then g k else g q
theorem srtI_swq {n : Nat} {g : Nat → Int} (h : SrtI n g) {i k : Nat} (hi : i < n) (hk : k < n) : SrtI n (swq g i k) := by
 have key : ∀ q, q < n → ∃ z, z < n ∧ swq g i k q = g z ∧ (q = k → z = i) ∧ (q ≠ k → q = i → z = k) ∧ (q ≠ k → q ≠ i → z = q) := fun q hq => by
  unfold swq
  by_cases e1 : q = k
  ·exact ⟨i, hi, by rw [if_pos e1], fun _ => rfl, fun h => absurd e1 h, fun h => absurd e1 h⟩
  ·by_cases e2 : q = i
   ·exact ⟨k, hk, by rw [if_neg e1, if_pos e2], fun h => absurd h e1, fun _ _ => rfl, fun _ h => absurd e2 h⟩
   ·exact ⟨q, hq, by rw [if_neg e1, if_neg e2], fun h => absurd h e1, fun _ h => absurd h e2, fun _ _ => rfl⟩
 refine ⟨fun p q hp hq e => ?_, fun p hp => ?_⟩
 ·obtain ⟨a, ha, ea, a1, a2, a3⟩ := key p hp
  obtain ⟨b, hb, eb, b1, b2, b3⟩ := key q hq
  have e3 := h.inj a b ha hb (by rw [← ea, ← eb]; exact e)
  by_cases p1 : p = k
  ·by_cases q1 : q = k
   ·omega
   ·by_cases q2 : q = i
    ·have := a1 p1; have := b2 q1 q2; omega
    ·have := a1 p1; have := b3 q1 q2; omega
  ·by_cases p2 : p = i
   ·by_cases q1 : q = k
    ·have := a2 p1 p2; have := b1 q1; omega
    ·by_cases q2 : q = i
     ·omega
     ·have := a2 p1 p2; have := b3 q1 q2; omega
   ·by_cases q1 : q = k
    ·have := a3 p1 p2; have := b1 q1; omega
    ·by_cases q2 : q = i
     ·have := a3 p1 p2; have := b2 q1 q2; omega
     ·have := a3 p1 p2; have := b3 q1 q2; omega
 ·obtain ⟨a, ha, ea, -⟩ := key p hp
  rw [ea]; exact h.r a ha
theorem upd3 (n : Nat) (g : Nat → Int) {i k : Nat} (hi : i < n) (hk : k < n) : ∀ q, q < n → updF n k (updF n i (blF g) [i64 (g k)]) [i64 (g i)] q = blF (swq g i k) q := fun q hq => by
 rw [updF_at hk hq]
 show _ = [i64 (if q = k then g i else if q = i then g k else g q)]
 by_cases e1 : q = k
 ·rw [if_pos e1, if_pos e1]
 ·rw [if_neg e1, if_neg e1, updF_at hi hq]
  by_cases e2 : q = i
  ·rw [if_pos e2, if_pos e2]
  ·rw [if_neg e2, if_neg e2]; rfl
theorem lst_le (g : Nat → Int) (n : Nat) : AV.Le (.rsl n 1 (blF g)) (intsAV (lst g n)) := AV.Le.rsl' (lst_len g n).symm fun q hq => by rw [intF_at, lst_at g hq]; rfl
theorem lst_srt {n : Nat} {g : Nat → Int} (h : SrtI n g) : SrtL (lst g n) n := ⟨lst_len g n, ⟨fun p q hp hq e => h.inj p q hp hq (by simpa only [lst_at g hp, lst_at g hq] using e), fun p hp => by simpa only [lst_at g hp] using h.r p hp⟩⟩
theorem up_row {l : List Int} {n s : Nat} (hn : n = l.length) (hs : s < n) : ∀ q, q < n → updF n s (appF 0 n (fun _ => []) (prF (twL l))) [i64 (l.getD s 0 + 1), i64 (l.getD s 0 + 1)] q = prF (twL (upI l s)) q := fun q hq => by
 have hq1 : q < l.length := by omega
 have hs1 : s < l.length := by omega
 rw [updF_at hs hq, prF_at (twL (upI l s)), twL_at (by rw [upI_len]; exact hq1), upI_at l hs1]
 by_cases e : q = s
 ·rw [if_pos e, if_pos e]
 ·rw [if_neg e, if_neg e, app0 n _ _ q hq, prF_at, twL_at hq1]
/-- Blows are drawn. -/
structure DrA (H : Hp) (n : Nat) (l : List Int) (i3 i11 a : Nat) : Prop where
 n : l.length = n
 b : ∀ i, i < l.length → 0 ≤ l.getD i 0 ∧ l.getD i 0 ≤ 11
 a : a ≤ 10
 z : H i3 = none ∧ H i11 = none
 d : ¬ i3 = i11
open Classical in
theorem opened_law (d : Dr) (N : Nat) (b : Nat → Int) (wh : Int) (H : Hp) (kb : OkB N b) (hw : 0 ≤ wh ∧ wh ≤ 255) : PTri Tryz.prog (fnA 3) [d.av, .rsl N 1 (byF b), .lit (.int .u8 wh)] H (boo true) := by
 refine Tri.drop ?_
 refine tri_wm Tryz.func3 (by kernel_rfl) rfl (by simp only [List.length_append, List.length_cons, List.length_nil, Tryz.ntmps3]; decide) ?_
 refine wps_cutG8 (m := mset [9, 10, 11]) (σ := List Int × Nat × Nat × Nat) (fun y => OkD d ∧ DrA H d.lim.length y.1 y.2.1 y.2.2.1 y.2.2.2)
  (fun y => [(2, .lit (.int .u8 wh)), (7, dwAV y.2.1 N b), (8, i64 (d.lim.length : Nat)), (9, dptr (xD d y.1)), (10, intsAV y.1), (11, .sl y.2.2.1 1 d.lim.length)])
  (fun y => (H.set y.2.1 (.box 1 1 fun _ => [i64 (y.2.2.2 : Nat)])).set y.2.2.1 (.row 1 d.lim.length (intF (idL d.lim.length)))) (fun _ => []) ?_ fun y hy => ?_
 ·simp only [vsAll, binA, binLitA, intA, loadA, loadRow, partA, partOk, fieldAddrA, lenA, boxA, boxZ, mmA, okAll, stAll, opsA, opA, guardV, dstOk, nilSliceOp, argFr, Nat.reduceAdd, Nat.reduceLT, Nat.reduceEqDiff, Nat.reduceBEq, ↓reduceIte, implies_true, eq_self, wtAll, Tryz.ntmps3]
  refine gcall (boo (decide (OkD d))) (fun g => ⟨by simp only [vsAll, opA], by simp only [vsAll, okAll, opsA, opA, ↓reduceIte, eq_self]; simpa using g, ?_⟩) ?_
  ·simp only [Bool.not_eq_true', decide_eq_false_iff_not] at g
   exact drive_call d _ (by omega) (by omega) (by omega)
  simp only [vsAll, unA, pickA, opA, guardV, dstOk, Nat.reduceLT, Nat.reduceEqDiff, ↓reduceIte, implies_true, eq_self]
  refine condV (fun hc => ?_) (fun hc => ?_)
  ·simp only [vsAll, okAll, stAll, opsA, opA, dstOk, Nat.reduceLT]
   refine callK_pure (alive13_tri _) ?_
   simp only [vsAll, opA, dstOk, nilSliceOp, resA, retA.eq_1, Nat.reduceLT, Nat.reduceBEq, ↓reduceIte, eq_self, Tryz.results3, CutG_ret]
   exact dropR_pure rfl HSub_rfl
  ·simp only [Bool.or_eq_false_iff, Bool.not_eq_false', decide_eq_true_eq] at hc
   have k : OkD d := hc.2
   have n1 := k.n1
   have n6 := k.n6
   simp only [vsAll, okAll, stAll, opsA, opA, dstOk, argFr, Nat.reduceLT, Nat.reduceEqDiff, ↓reduceIte, eq_self]
   refine callK (dws_tri N b _) ?_
   rintro r H' ⟨i3, z3, rfl, rfl⟩
   simp only [vsAll, loadA, loadRow, partA, partOk, fieldAddrA, lenA, cellA, cellsA, opA, allocA, newCells, okCells, storeObj, dstOk, nilA, nilSliceOp, Nat.reduceAdd, Nat.reduceLT, Nat.reduceEqDiff, Nat.reduceBEq, ↓reduceIte, eq_self, wtAll]
   intro i9 hh_i9; (try simp only [ite_none] at hh_i9); intro i10 hh_i10; (try simp only [ite_none] at hh_i10); intro i11 hh_i11; (try simp only [ite_none] at hh_i11)
   have g : (¬ i9 = i3 ∧ H i9 = none) ∧ (¬ i10 = i9 ∧ ¬ i10 = i3 ∧ H i10 = none) ∧ ¬ i11 = i10 ∧ ¬ i11 = i9 ∧ ¬ i11 = i3 ∧ H i11 = none := by simp_all
   obtain ⟨⟨c93, z9⟩, ⟨ca9, ca3, za⟩, cba, cb9, cb3, zb⟩ := g
   have c93' : ¬ i3 = i9 := fun e => c93 e.symm
   have ca9' : ¬ i9 = i10 := fun e => ca9 e.symm
   have ca3' : ¬ i3 = i10 := fun e => ca3 e.symm
   have cba' : ¬ i10 = i11 := fun e => cba e.symm
   have cb9' : ¬ i9 = i11 := fun e => cb9 e.symm
   have cb3' : ¬ i3 = i11 := fun e => cb3 e.symm
   skip
   refine vs_entL (Ent.nilBox 2 (prF []) (fun id _ => [intsAV d.lim, prAV d.be, .sl id 2 0]) (j := i9) (st' := 3) (n' := 1) (g := fun _ => [intsAV d.lim, prAV d.be, .lit (.slice none 0 0)]) (by simp only [vsAll, ↓reduceIte, eq_self, hh_i10, hh_i11]) (fun _ _ _ => rfl) (fun id q d hq hd => ?_) fun ir hir => ?_)
   ·match d, hd with
    | 0, _ => exact .rfl
    | 1, _ => exact .rfl
    | 2, _ => exact .hit
   simp only [Hp.set_none] at hir
   obtain ⟨⟨rb, rb'⟩, ⟨ra, ra'⟩, ⟨r9, r9'⟩, _, _, ⟨r3, r3'⟩, zr⟩ := hir
   skip
   refine vs_loop (σ := List Int × Nat) (fun y => (∀ i, i < y.1.length → 0 ≤ y.1.getD i 0 ∧ y.1.getD i 0 ≤ 11) ∧ y.1.length ≤ d.lim.length ∧ y.2 ≤ y.1.length)
    (fun y => [(2, .lit (.int .u8 wh)), (7, dwAV i3 N b), (8, i64 (d.lim.length : Nat)), (9, .ref i9 0 3 0 0), (10, .sl i10 1 y.1.length), (11, .sl i11 1 y.1.length), (70, i64 (d.lim.length : Nat)), (71, i64 y.1.length)])
    (fun y => ((((H.set i3 (.box 1 1 fun _ => [i64 (y.2 : Nat)])).set i10 (.row 1 y.1.length (intF y.1))).set i11 (.row 1 y.1.length (intF (idL y.1.length)))).set ir (.row 2 y.1.length (prF (twL y.1)))).set i9 (.box 3 1 fun _ => [intsAV d.lim, prAV d.be, .sl ir 2 y.1.length])) (fun y => d.lim.length - y.1.length) ([], 0) ⟨fun i hi => absurd hi (Nat.not_lt_zero i), Nat.zero_le _, Nat.zero_le _⟩ ?_ ?_ fun y hy => ?_
   ·simp only [vsAll, argFr, Nat.reduceEqDiff, ↓reduceIte, eq_self, Int.natCast_zero]
   ·simp only [List.length_nil, Int.natCast_zero]
    refine Go.V.HSub.trans (Go.V.HSub.set (Go.V.HSub.set (Go.V.HSub.set (Go.V.HSub.set (.refl _) (row_ext (g := intF []) fun q hq => absurd hq (Nat.not_lt_zero q))) (row_ext (g := intF (idL 0)) fun q hq => absurd hq (Nat.not_lt_zero q))) (.refl _)) (.refl _)) ?_
    have e0 : prF (twL []) = prF [] := rfl
    rw [e0]
    (refine HSub_eqn fun jj => ?_; refine (Classical.em (jj = i9)).elim (fun E0 => by rw [E0]; first | (left; simp only [vsAll, ↓reduceIte, reduceCtorEq, eq_self]; done) | (right; simp only [vsAll, ↓reduceIte, eq_self]; done)) (fun E0 => ?_); refine (Classical.em (jj = ir)).elim (fun E1 => by rw [E1]; first | (left; simp only [vsAll, ↓reduceIte, reduceCtorEq, eq_self, r9]; done) | (right; simp only [vsAll, ↓reduceIte, eq_self, r9]; done)) (fun E1 => ?_); refine (Classical.em (jj = i11)).elim (fun E2 => by rw [E2]; first | (left; simp only [vsAll, ↓reduceIte, reduceCtorEq, eq_self, hh_i11, rb']; done) | (right; simp only [vsAll, ↓reduceIte, eq_self, hh_i11, rb']; done)) (fun E2 => ?_); refine (Classical.em (jj = i10)).elim (fun E3 => by rw [E3]; first | (left; simp only [vsAll, ↓reduceIte, reduceCtorEq, eq_self, hh_i10, hh_i11, ra']; done) | (right; simp only [vsAll, ↓reduceIte, eq_self, hh_i10, hh_i11, ra']; done)) (fun E3 => ?_); refine (Classical.em (jj = i3)).elim (fun E4 => by rw [E4]; first | (left; simp only [vsAll, ↓reduceIte, reduceCtorEq, eq_self, hh_i9, hh_i10, hh_i11, r3']; done) | (right; simp only [vsAll, ↓reduceIte, eq_self, hh_i9, hh_i10, hh_i11, r3']; done)) (fun E4 => ?_); right; simp only [vsAll, ↓reduceIte, eq_self, E0, E1, E2, E3, E4])
   ·obtain ⟨l, a⟩ := y
    obtain ⟨hb, hle, hal⟩ := hy
    simp only [] at hb hle hal
    simp only [vsAll, binA, binLitA, intA, opA, dstOk, Nat.reduceLT, Nat.reduceEqDiff, ↓reduceIte, eq_self]
    refine condD (fun hd => ?_) (fun hd => ?_)
    ·have hil : l.length < d.lim.length := by ((try clear hh_i9 hh_i10 hh_i11 c93 z9 ca9 ca3 za cba cb9 cb3 zb c93' ca9' ca3' cba' cb9' cb3' z3 rb rb' ra ra' r9 r9' r3 r3' zr); omega)
     simp only [vsAll, okAll, stAll, opsA, opA, dstOk, nilSliceOp, Nat.reduceLT, Nat.reduceEqDiff, Nat.reduceBEq, ↓reduceIte, eq_self]
     refine callK (dw_tri kb i3 a 12 _ (by ((try clear hh_i9 hh_i10 hh_i11 c93 z9 ca9 ca3 za cba cb9 cb3 zb c93' ca9' ca3' cba' cb9' cb3' z3 rb rb' ra ra' r9 r9' r3 r3' zr); omega)) (by ((try clear hh_i9 hh_i10 hh_i11 c93 z9 ca9 ca3 za cba cb9 cb3 zb c93' ca9' ca3' cba' cb9' cb3' z3 rb rb' ra ra' r9 r9' r3 r3' zr); omega)) (by simp only [vsAll, ↓reduceIte, eq_self, hh_i9, hh_i10, hh_i11, r3'])) ?_
     rintro r H' ⟨v, hv, rfl, rfl⟩
     simp only [vsAll, opA, dstOk, nilSliceOp, Nat.reduceLT, Nat.reduceBEq, ↓reduceIte, eq_self]
     refine vs_draw2 [0, 0, 0, 1, 0, 0, 0, 3, 0, 0, 0, 0, 4, 4, 5, 7, 9, 10, 11] [([0, 1, 2, 4, 5, 6, 8, 9, 10, 11], [9], 3), ([], [9], 7), ([12, 13], [], 14), ([], [], 15), ([], [], 16), ([17], [], 18)] [] (by decide +kernel) ?_
     simp only [vsAll, loadA, loadRow, partA, partOk, fieldAddrA, cellA, cellsA, okParts, buildSliceA, partIdx, elemsA, lensA, partsA, partsOk, opA, appendA, dstOk, Nat.reduceMul, Nat.reduceLT, Nat.reduceLeDiff, Nat.reduceEqDiff, ↓reduceIte, eq_self, wtAll, hh_i9, hh_i10, hh_i11, rb', ra']
     have okc : ∀ (z : Int), (∀ q : Nat, q < 1 → okCells ([[i64 z]].getD q [])) := fun z q hq => by (have : q = 0 := by ((try clear hh_i9 hh_i10 hh_i11 c93 z9 ca9 ca3 za cba cb9 cb3 zb c93' ca9' ca3' cba' cb9' cb3' z3 rb rb' ra ra' r9 r9' r3 r3' zr); omega)); subst this; exact ⟨rfl, trivial⟩
     refine ⟨okc v, by ((try clear hh_i9 hh_i10 hh_i11 c93 z9 ca9 ca3 za cba cb9 cb3 zb c93' ca9' ca3' cba' cb9' cb3' z3 rb rb' ra ra' r9 r9' r3 r3' zr); omega), by ((try clear hh_i9 hh_i10 hh_i11 c93 z9 ca9 ca3 za cba cb9 cb3 zb c93' ca9' ca3' cba' cb9' cb3' z3 rb rb' ra ra' r9 r9' r3 r3' zr); omega), okc (l.length : Nat), by ((try clear hh_i9 hh_i10 hh_i11 c93 z9 ca9 ca3 za cba cb9 cb3 zb c93' ca9' ca3' cba' cb9' cb3' z3 rb rb' ra ra' r9 r9' r3 r3' zr); omega), by ((try clear hh_i9 hh_i10 hh_i11 c93 z9 ca9 ca3 za cba cb9 cb3 zb c93' ca9' ca3' cba' cb9' cb3' z3 rb rb' ra ra' r9 r9' r3 r3' zr); omega), qcall _ ⟨by simp only [vsAll, opA], by simp only [vsAll, okAll, opsA, opA, Nat.reduceEqDiff, ↓reduceIte, eq_self], span_tri _ _ _⟩ ?_⟩
     simp only [vsAll, binA, binLitA, intA, fieldAddrA, cellA, cellsA, okParts, buildSliceA, partIdx, elemsA, lensA, partsA, partsOk, opA, newCells, okCells, storeObj, appendA, dstOk, nilSliceOp, Nat.reduceAdd, Nat.reduceMul, Nat.reduceLT, Nat.reduceLeDiff, Nat.reduceEqDiff, Nat.reduceBEq, ↓reduceIte, eq_self, wtAll, hh_i9, hh_i10, hh_i11, rb, ra, r9, r9', r3]
     have e1 := app_ints l v (fun i => [[i64 v]].getD i []) rfl
     have e2 := app_ints (idL l.length) (l.length : Nat) (fun i => [[i64 (l.length : Nat)]].getD i []) rfl
     have e3 : appF (twL l).length 1 (prF (twL l)) (fun i => [[i64 v, i64 v]].getD i []) = prF (twL l ++ [(v, v)]) := app_lF (fun p : Int × Int => [i64 p.1, i64 p.2]) (0, 0) _ _ _ rfl
     rw [idL_len, ← idL_succ] at e2
     rw [twL_len] at e3
     have e4 : twL (l ++ [v]) = twL l ++ [(v, v)] := by simp
     have el1 : (l ++ [v]).length = l.length + 1 := by simp
     refine ⟨fun q hq => by (have : q = 0 := by ((try clear hh_i9 hh_i10 hh_i11 c93 z9 ca9 ca3 za cba cb9 cb3 zb c93' ca9' ca3' cba' cb9' cb3' z3 rb rb' ra ra' r9 r9' r3 r3' zr); omega)); subst this; exact ⟨rfl, rfl, trivial⟩, by ((try clear hh_i9 hh_i10 hh_i11 c93 z9 ca9 ca3 za cba cb9 cb3 zb c93' ca9' ca3' cba' cb9' cb3' z3 rb rb' ra ra' r9 r9' r3 r3' zr); omega), by ((try clear hh_i9 hh_i10 hh_i11 c93 z9 ca9 ca3 za cba cb9 cb3 zb c93' ca9' ca3' cba' cb9' cb3' z3 rb rb' ra ra' r9 r9' r3 r3' zr); omega), by simp only [InR_i64]; ((try clear hh_i9 hh_i10 hh_i11 c93 z9 ca9 ca3 za cba cb9 cb3 zb c93' ca9' ca3' cba' cb9' cb3' z3 rb rb' ra ra' r9 r9' r3 r3' zr); omega), loop_next (l ++ [v], a + 1) ⟨fun i hi => ?_, by show (l ++ [v]).length ≤ _; ((try clear hh_i9 hh_i10 hh_i11 c93 z9 ca9 ca3 za cba cb9 cb3 zb c93' ca9' ca3' cba' cb9' cb3' z3 rb rb' ra ra' r9 r9' r3 r3' zr); omega), by show a + 1 ≤ (l ++ [v]).length; ((try clear hh_i9 hh_i10 hh_i11 c93 z9 ca9 ca3 za cba cb9 cb3 zb c93' ca9' ca3' cba' cb9' cb3' z3 rb rb' ra ra' r9 r9' r3 r3' zr); omega)⟩ (by show _ - (l ++ [v]).length < _ - l.length; ((try clear hh_i9 hh_i10 hh_i11 c93 z9 ca9 ca3 za cba cb9 cb3 zb c93' ca9' ca3' cba' cb9' cb3' z3 rb rb' ra ra' r9 r9' r3 r3' zr); omega)) ?_ ?_⟩
     ·show 0 ≤ (l ++ [v]).getD i 0 ∧ (l ++ [v]).getD i 0 ≤ 11
      have hi' : i < (l ++ [v]).length := hi
      rw [el1] at hi'
      clear hi
      rw [getD_snoc]
      split
      ·((try clear hh_i9 hh_i10 hh_i11 c93 z9 ca9 ca3 za cba cb9 cb3 zb c93' ca9' ca3' cba' cb9' cb3' z3 rb rb' ra ra' r9 r9' r3 r3' zr); omega)
      ·exact hb i (by ((try clear hh_i9 hh_i10 hh_i11 c93 z9 ca9 ca3 za cba cb9 cb3 zb c93' ca9' ca3' cba' cb9' cb3' z3 rb rb' ra ra' r9 r9' r3 r3' zr); omega))
     ·simp only [vsAll, Nat.reduceEqDiff, ↓reduceIte, eq_self, el1, Int.natCast_add, Int.natCast_one]
     ·simp only [el1, e4, ← e1, ← e2, ← e3]
      (refine HSub_eqn fun jj => ?_; refine (Classical.em (jj = i9)).elim (fun E0 => by rw [E0]; first | (left; simp only [vsAll, ↓reduceIte, reduceCtorEq, eq_self]; done) | (right; simp only [vsAll, ↓reduceIte, eq_self]; done)) (fun E0 => ?_); refine (Classical.em (jj = ir)).elim (fun E1 => by rw [E1]; first | (left; simp only [vsAll, ↓reduceIte, reduceCtorEq, eq_self, r9]; done) | (right; simp only [vsAll, ↓reduceIte, eq_self, r9]; done)) (fun E1 => ?_); refine (Classical.em (jj = i11)).elim (fun E2 => by rw [E2]; first | (left; simp only [vsAll, ↓reduceIte, reduceCtorEq, eq_self, hh_i11, rb']; done) | (right; simp only [vsAll, ↓reduceIte, eq_self, hh_i11, rb']; done)) (fun E2 => ?_); refine (Classical.em (jj = i10)).elim (fun E3 => by rw [E3]; first | (left; simp only [vsAll, ↓reduceIte, reduceCtorEq, eq_self, hh_i10, hh_i11, ra']; done) | (right; simp only [vsAll, ↓reduceIte, eq_self, hh_i10, hh_i11, ra']; done)) (fun E3 => ?_); refine (Classical.em (jj = i3)).elim (fun E4 => by rw [E4]; first | (left; simp only [vsAll, ↓reduceIte, reduceCtorEq, eq_self, hh_i9, hh_i10, hh_i11, r3']; done) | (right; simp only [vsAll, ↓reduceIte, eq_self, hh_i9, hh_i10, hh_i11, r3']; done)) (fun E4 => ?_); right; simp only [vsAll, ↓reduceIte, eq_self, E0, E1, E2, E3, E4])
    ·have el : l.length = d.lim.length := by ((try clear hh_i9 hh_i10 hh_i11 c93 z9 ca9 ca3 za cba cb9 cb3 zb c93' ca9' ca3' cba' cb9' cb3' z3 rb rb' ra ra' r9 r9' r3 r3' zr); omega)
     simp only [vsAll, ↓reduceIte, eq_self]
     refine cutG_ent (Ent.of [(2, .lit (.int .u8 wh)), (7, dwAV i3 N b), (8, i64 (d.lim.length : Nat)), (9, .ref i9 0 3 0 0), (10, .sl i10 1 l.length), (11, .sl i11 1 l.length)] (by simp only [vsAll, Nat.reduceEqDiff, ↓reduceIte, eq_self]) HSub_rfl ?_)
     refine cutG_ent (Ent.freezeBox (s' := Fr.of [(2, .lit (.int .u8 wh)), (7, dwAV i3 N b), (8, i64 (d.lim.length : Nat)), (9, .ref i9 0 3 0 0), (10, .sl i10 1 l.length), (11, .sl i11 1 l.length)]) (id := ir) (st := 2) (n := l.length) (f := prF (twL l)) (j := i9) (st' := 3) (n' := 1) (g := fun _ => [intsAV d.lim, prAV d.be, .sl ir 2 l.length]) (g' := fun _ => (xD d l).cs) (by simp only [vsAll, ↓reduceIte, eq_self, r9]) (Hp.set_same _ _ _) (fun t => .rfl) (fun _ _ => rfl) (fun q d' hq hd => ?_) ?_)
     ·match d', hd with
      | 0, _ => exact .rfl
      | 1, _ => exact .rfl
      | 2, _ =>
        show Frz ir 2 l.length (prF (twL l)) (.sl ir 2 l.length) (.rsl (twL l).length 2 (prF (twL l)))
        rw [twL_len]; exact .hit
     refine cutG_ent (Ent.freezeB (id := i9) (st := 3) (n := 1) (f := fun _ => (xD d l).cs) (s' := Fr.of [(2, .lit (.int .u8 wh)), (7, dwAV i3 N b), (8, i64 (d.lim.length : Nat)), (9, dptr (xD d l)), (10, .sl i10 1 l.length), (11, .sl i11 1 l.length)]) (Hp.set_same _ _ _) (FzB.frz (.same (.same (.same (.hit (FzB.refl _)))))) ?_)
     refine cutG_ent (Ent.freeze (id := i10) (st := 1) (n := l.length) (f := intF l) (s' := Fr.of [(2, .lit (.int .u8 wh)), (7, dwAV i3 N b), (8, i64 (d.lim.length : Nat)), (9, dptr (xD d l)), (10, intsAV l), (11, .sl i11 1 l.length)]) (by simp [Hp.set, Hp.del, ca9, cba', ra']) (FzL.frz (.same (.same (.same (.same (.hit (FzL.refl _))))))) ?_)
     refine cutG_of (l, i3, i11, a) ⟨k, el, hb, by show a ≤ 10; ((try clear hh_i9 hh_i10 hh_i11 c93 z9 ca9 ca3 za cba cb9 cb3 zb c93' ca9' ca3' cba' cb9' cb3' z3 rb rb' ra ra' r9 r9' r3 r3' zr); omega), ⟨z3, zb⟩, cb3'⟩ (by simp only [← el]; simp only [vsAll, Nat.reduceEqDiff, ↓reduceIte, eq_self]) rfl (HSub_eqn fun jj => ?_)
     simp only [← el]
     by_cases e9 : jj = i9
     ·left; subst e9; simp [Hp.set, cb9', c93, z9]
     by_cases eA : jj = i10
     ·left; subst eA; simp [Hp.set, cba', ca3, za]
     by_cases eR : jj = ir
     ·left; subst eR; simp [Hp.set, rb, r3, zr]
     right; simp [Hp.set, Hp.del, e9, eA, eR]
 ·obtain ⟨l, i3, i11, a⟩ := y
  obtain ⟨k, hl, hb, ha, ⟨z3, zb⟩, c3b⟩ := hy
  simp only [] at hl hb ha z3 zb c3b
  have c3b' : ¬ i11 = i3 := fun e => c3b e.symm
  have n1 := k.n1
  have n6 := k.n6
  have kx := xD_ok k hl fun i hi => by have := hb i hi; omega
  have hb52 : ∀ i, i < l.length → 0 ≤ l.getD i 0 ∧ l.getD i 0 ≤ 52 := fun i hi => by have := hb i hi; omega
  have hlx : l.length = (xD d l).lim.length := hl
  refine wps_cutG (m := mset []) (σ := List Int) (fun o => SrtL o d.lim.length)
   (fun o => [(2, .lit (.int .u8 wh)), (8, i64 (d.lim.length : Nat)), (9, dptr (xD d l)), (10, intsAV l), (11, intsAV o)])
   (fun _ => H) (fun _ => []) ?_ fun o ho => ?_
  ·skip
   simp only [vsAll, lenA, opA, dstOk, Nat.reduceLT, Nat.reduceEqDiff, ↓reduceIte, eq_self, wtAll, Tryz.ntmps3]
   refine vs_loop (σ := Nat × (Nat → Int) × Nat) (fun y => y.1 ≤ d.lim.length ∧ SrtI d.lim.length y.2.1 ∧ y.2.2 ≤ 10 + y.1)
    (fun y => [(2, .lit (.int .u8 wh)), (7, dwAV i3 N b), (8, i64 (d.lim.length : Nat)), (9, dptr (xD d l)), (10, intsAV l), (11, .sl i11 1 d.lim.length), (94, i64 (d.lim.length : Nat)), (95, i64 y.1)])
    (fun y => (H.set i3 (.box 1 1 fun _ => [i64 (y.2.2 : Nat)])).set i11 (.row 1 d.lim.length (blF y.2.1))) (fun y => d.lim.length - y.1) (0, fun q => (q : Int), a) ⟨Nat.zero_le _, ⟨fun p q hp hq e => by (have e : (p : Int) = (q : Int) := e); ((try clear z3 zb c3b c3b'); omega), fun p hp => ⟨Int.natCast_nonneg _, by show (p : Int) < (d.lim.length : Nat); ((try clear z3 zb c3b c3b'); omega)⟩⟩, ha⟩ ?_ ?_ fun y hy => ?_
   ·simp only [vsAll, Nat.reduceEqDiff, ↓reduceIte, eq_self, Int.natCast_zero]
   ·exact Go.V.HSub.set (.refl _) (row_ext fun q hq => by rw [intF_at, idL_at hq]; rfl)
   ·obtain ⟨i, g, a⟩ := y
    obtain ⟨hi, hg, hal⟩ := hy
    simp only [] at hi hg hal
    simp only [vsAll, binA, binLitA, intA, opA, dstOk, Nat.reduceLT, Nat.reduceEqDiff, ↓reduceIte, eq_self]
    refine condD (fun hd => ?_) (fun hd => ?_)
    ·have hil : i < d.lim.length := by ((try clear z3 zb c3b c3b'); omega)
     simp only [vsAll, binA, binLitA, intA, okAll, stAll, opsA, opA, dstOk, nilSliceOp, Nat.reduceLT, Nat.reduceEqDiff, ↓reduceIte, eq_self]
     refine ⟨by simp only [InR_i64]; ((try clear z3 zb c3b c3b'); omega), ?_⟩
     refine callK (dw_tri kb i3 a ((d.lim.length : Int) - i) _ (by ((try clear z3 zb c3b c3b'); omega)) (by ((try clear z3 zb c3b c3b'); omega)) (by simp only [vsAll, ↓reduceIte, eq_self, c3b])) ?_
     rintro r H' ⟨v, hv, rfl, rfl⟩
     obtain ⟨w, rfl⟩ : ∃ w : Nat, v = (w : Int) := ⟨v.toNat, by ((try clear z3 zb c3b c3b'); omega)⟩
     have hk : i + w < d.lim.length := by ((try clear z3 zb c3b c3b'); omega)
     have ek : (i : Int) + (w : Int) = ((i + w : Nat) : Int) := by ((try clear z3 zb c3b c3b'); omega)
     simp only [vsAll, binA, binLitA, intA, opA, dstOk, nilSliceOp, Nat.reduceLT, Nat.reduceEqDiff, ↓reduceIte, eq_self, ek]
     refine ⟨by simp only [InR_i64]; ((try clear z3 zb c3b c3b'); omega), ?_⟩
     refine vs_draw2 [0, 0, 0, 0, 0, 0, 0, 0, 0, 0, 0, 0, 0, 1, 2, 3] [([0, 1, 2, 3, 4, 5, 6, 7, 8, 9, 10, 11, 12], [], 13), ([14], [], 15)] [] (by decide +kernel) ?_
     have hdr : List.drop 1 (updF d.lim.length i (blF g) [AV.lit (Value.int IntKind.i64 (g (i + w)))] (i + w)) = [] := by
      rw [updF_at hil hk]
      split <;> rfl
     simp only [vsAll, binA, binLitA, intA, loadA, loadRow, partA, partOk, indexAddrA, cellA, cellsA, opA, newCells, okCells, storeObj, dstOk, Nat.reduceLT, Nat.reduceEqDiff, ↓reduceIte, eq_self, wtAll, c3b', blF_at, hdr]
     refine ⟨⟨by ((try clear z3 zb c3b c3b'); omega), by ((try clear z3 zb c3b c3b'); omega)⟩, hk, ⟨by ((try clear z3 zb c3b c3b'); omega), by ((try clear z3 zb c3b c3b'); omega)⟩, hil, ⟨by ((try clear z3 zb c3b c3b'); omega), by ((try clear z3 zb c3b c3b'); omega)⟩, hil, ⟨by ((try clear z3 zb c3b c3b'); omega), by ((try clear z3 zb c3b c3b'); omega)⟩, hk, by simp only [InR_i64]; ((try clear z3 zb c3b c3b'); omega), loop_next (i + 1, swq g i (i + w), a + 1) ⟨hil, srtI_swq hg hil hk, by show a + 1 ≤ 10 + (i + 1); ((try clear z3 zb c3b c3b'); omega)⟩ (by show _ - (i + 1) < _ - i; ((try clear z3 zb c3b c3b'); omega)) ?_ ?_⟩
     ·simp only [vsAll, Nat.reduceEqDiff, ↓reduceIte, eq_self, Int.natCast_add, Int.natCast_one]
     ·refine Go.V.HSub.trans (B := (H.set i3 (.box 1 1 fun _ => [i64 ((a + 1 : Nat) : Int)])).set i11 (.row 1 d.lim.length (updF d.lim.length (i + w) (updF d.lim.length i (blF g) [i64 (g (i + w))]) [i64 (g i)]))) (by (refine HSub_eqn fun jj => ?_; refine (Classical.em (jj = i11)).elim (fun E0 => by rw [E0]; first | (left; simp only [vsAll, ↓reduceIte, reduceCtorEq, eq_self]; done) | (right; simp only [vsAll, ↓reduceIte, eq_self]; done)) (fun E0 => ?_); refine (Classical.em (jj = i3)).elim (fun E1 => by rw [E1]; first | (left; simp only [vsAll, ↓reduceIte, reduceCtorEq, eq_self, c3b]; done) | (right; simp only [vsAll, ↓reduceIte, eq_self, c3b]; done)) (fun E1 => ?_); right; simp only [vsAll, ↓reduceIte, eq_self, E0, E1])) (Go.V.HSub.set (.refl _) (row_ext (upd3 d.lim.length g hil hk)))
    ·have ei : i = d.lim.length := by ((try clear z3 zb c3b c3b'); omega)
     subst ei
     simp only [vsAll, ↓reduceIte, eq_self]
     have fz : FzL i11 1 d.lim.length (blF g) [(2, .lit (.int .u8 wh)), (8, i64 (d.lim.length : Nat)), (9, dptr (xD d l)), (10, intsAV l), (11, .sl i11 1 d.lim.length)] [(2, .lit (.int .u8 wh)), (8, i64 (d.lim.length : Nat)), (9, dptr (xD d l)), (10, intsAV l), (11, .rsl d.lim.length 1 (blF g))] := .same (.same (.same (.same (.hit .nil))))
     refine cutG_ent (Ent.of [(2, .lit (.int .u8 wh)), (8, i64 (d.lim.length : Nat)), (9, dptr (xD d l)), (10, intsAV l), (11, .sl i11 1 d.lim.length)] (by simp only [vsAll, Nat.reduceEqDiff, ↓reduceIte, eq_self]) HSub_rfl ?_)
     refine cutG_ent (Ent.freeze (id := i11) (Hp.set_same _ _ _) fz.frz ?_)
     refine cutG_of (lst g d.lim.length) (lst_srt hg) (by simp only [vsAll, Nat.reduceEqDiff, ↓reduceIte, eq_self]; exact lst_le g _) rfl (HSub_eqn fun jj => ?_)
     by_cases e1 : jj = i11
     ·left; subst e1; exact zb
     by_cases e2 : jj = i3
     ·left; subst e2; exact z3
     right; simp [Hp.set, Hp.del, e1, e2]
  ·have ok := dv_ok k
   refine wps_cutG6 (m := mset []) (σ := Nat → Int) (fun u => d.dv.Run (bOf l) u ∧ d.dv.Still (bOf l) u)
    (fun u => [(2, .lit (.int .u8 wh)), (8, i64 (d.lim.length : Nat)), (9, dptr (xD d l)), (10, intsAV l), (16, intsAV (lst (d.dv.res (bOf l) u) d.lim.length)), (21, i64 (opN u d.lim.length : Nat)), (22, i64 (opN u d.lim.length : Nat))])
    (fun _ => H) (fun _ => []) ?_ fun u hu => ?_
   ·simp only [vsAll, loadA, loadRow, partA, partOk, okAll, stAll, opsA, opA, dstOk, Nat.reduceLT, Nat.reduceEqDiff, ↓reduceIte, eq_self, wtAll, Tryz.ntmps3]
    refine callK (settle_tri (xD d l) l _ kx hlx hb52) ?_
    rintro r Hq ⟨hH, u, hr, hst, rfl⟩
    rw [hH]; clear hH
    have hr : d.dv.Run (bOf l) u := hr
    have hst : d.dv.Still (bOf l) u := hst
    simp only [vsAll, loadA, loadRow, partA, partOk, extractA, okAll, stAll, opsA, opA, dstOk, nilSliceOp, Nat.reduceAdd, Nat.reduceLT, Nat.reduceEqDiff, ↓reduceIte, eq_self, wtAll]
    refine callK (run_tri (xD d l) l o _ kx hlx hb52 ho) ?_
    rintro r Hq ⟨hH, u', L, hr', hst', hLl, hLr, hLc, rfl⟩
    rw [hH]; clear hH
    have huu : ∀ i, u' i = u i := fun i => Dv.uniq ok hr' hst' hr hst i
    have hLc : ∀ i : Nat, u i = (L.count (i : Int) : Nat) := fun i => by rw [← huu i]; exact hLc i
    have hLr : ∀ i, i < L.length → 0 ≤ L.getD i 0 ∧ L.getD i 0 < d.lim.length := hLr
    clear hr' hst' huu
    have e1 : (lst ((xD d l).dv.res (bOf l) u) (xD d l).lim.length).length = d.lim.length := lst_len _ _
    have e2 : (lst u (xD d l).lim.length).length = d.lim.length := lst_len _ _
    simp only [vsAll, binA, binLitA, intA, extractA, lenA, pickA, opA, guardV, dstOk, nilSliceOp, Nat.reduceAdd, Nat.reduceLT, Nat.reduceEqDiff, ↓reduceIte, implies_true, eq_self, wtAll, e1, e2]
    have e1 : (lst (d.dv.res (bOf l) u) d.lim.length).length = d.lim.length := lst_len _ _
    have e2 : (lst u d.lim.length).length = d.lim.length := lst_len _ _
    refine vs_loop (σ := Nat) (fun j => j ≤ d.lim.length) (fun j => [(2, .lit (.int .u8 wh)), (8, i64 (d.lim.length : Nat)), (9, dptr (xD d l)), (10, intsAV l), (16, intsAV (lst (d.dv.res (bOf l) u) d.lim.length)), (19, intsAV L), (21, i64 (opN u j : Nat)), (22, i64 0), (152, .rsl d.lim.length 1 (intF (lst u d.lim.length))), (153, i64 (d.lim.length : Nat)), (154, i64 j)])
     (fun _ => H) (fun j => d.lim.length - j) 0 (Nat.zero_le _) ?_ HSub_rfl fun j hj => ?_
    ·have e0 : opN u 0 = 0 := rfl
     simp only [vsAll, Nat.reduceEqDiff, ↓reduceIte, eq_self, e0, Int.natCast_zero]
     (repeat' apply And.intro) <;> first | exact AV.Le.refl _ | exact AV.Le.rsl' e1.symm (fun _ _ => rfl)
    ·simp only [vsAll, binA, binLitA, intA, opA, dstOk, Nat.reduceLT, Nat.reduceEqDiff, ↓reduceIte, eq_self]
     refine condD (fun hd => ?_) (fun hd => ?_)
     ·have hjl : j < d.lim.length := by omega
      have hju := lst_at u hjl
      have l1 := opN_lt u j
      have l2 := opN_lt u (j + 1)
      have p1 : 2 ^ j ≤ 2 ^ 5 := Nat.pow_le_pow_right (by decide) (by omega)
      have p2 : 2 ^ (j + 1) ≤ 2 ^ 6 := Nat.pow_le_pow_right (by decide) (by omega)
      have ep := shl1 j
      have es2 : opN u (j + 1) = if 0 < u j then opN u j ||| 2 ^ j else opN u j := rfl
      simp only [vsAll, binA, binLitA, intA, loadA, loadRow, partA, partOk, indexAddrA, opA, dstOk, nilSliceOp, Nat.reduceLT, Nat.reduceEqDiff, ↓reduceIte, eq_self, wtAll, intF_at, hju]
      refine ⟨⟨by omega, by omega⟩, hjl, condD (fun hc => ?_) (fun hc => ?_)⟩
      ·rw [if_pos hc] at es2
       simp only [vsAll, binA, binLitA, intA, opA, dstOk, nilSliceOp, Nat.reduceLT, Nat.reduceEqDiff, ↓reduceIte, eq_self, ep, ← es2]
       refine ⟨⟨by omega, by omega, by simp only [InR_i64]; omega⟩, ⟨by omega, by omega, by simp only [InR_i64]; omega, by simp only [InR_i64]; omega⟩, by simp only [InR_i64]; omega, loop_next (j + 1) hjl (by omega) ?_ HSub_rfl⟩
       simp only [vsAll, Nat.reduceEqDiff, ↓reduceIte, eq_self, Int.natCast_add, Int.natCast_one]
      ·rw [if_neg hc] at es2
       simp only [vsAll, binA, binLitA, intA, opA, dstOk, Nat.reduceLT, Nat.reduceEqDiff, ↓reduceIte, eq_self]
       refine ⟨by simp only [InR_i64]; omega, loop_next (j + 1) hjl (by omega) ?_ HSub_rfl⟩
       simp only [vsAll, Nat.reduceEqDiff, ↓reduceIte, eq_self, es2, Int.natCast_add, Int.natCast_one]
     ·have ej : j = d.lim.length := by omega
      subst ej
      simp only [vsAll, lenA, opA, dstOk, Nat.reduceLT, Nat.reduceEqDiff, ↓reduceIte, eq_self, wtAll]
      refine vs_loop (σ := Nat) (fun j => j ≤ L.length) (fun j => [(2, .lit (.int .u8 wh)), (8, i64 (d.lim.length : Nat)), (9, dptr (xD d l)), (10, intsAV l), (16, intsAV (lst (d.dv.res (bOf l) u) d.lim.length)), (21, i64 (opN u d.lim.length : Nat)), (22, i64 (alN (L.take j) : Nat)), (166, intsAV L), (167, i64 (L.length : Nat)), (168, i64 j)])
       (fun _ => H) (fun j => L.length - j) 0 (Nat.zero_le _) ?_ HSub_rfl fun j hj => ?_
      ·simp only [vsAll, Nat.reduceEqDiff, ↓reduceIte, eq_self, Int.natCast_zero]
       exact .refl _
      ·simp only [vsAll, binA, binLitA, intA, opA, dstOk, Nat.reduceLT, Nat.reduceEqDiff, ↓reduceIte, eq_self]
       refine condD (fun hd => ?_) (fun hd => ?_)
       ·have hjl : j < L.length := by omega
        obtain ⟨x, hx⟩ : ∃ x : Nat, L.getD j 0 = (x : Int) := ⟨(L.getD j 0).toNat, by have := hLr j hjl; omega⟩
        have hxn := hLr j hjl
        rw [hx] at hxn
        have l1 := alN_lt hLr j hj
        have l2 := alN_lt hLr (j + 1) hjl
        have es := alN_take hjl
        rw [hx, Int.toNat_natCast] at es
        have p1 : 2 ^ x ≤ 2 ^ 5 := Nat.pow_le_pow_right (by decide) (by omega)
        have p6 := p2_6 n6
        have p0 := Nat.two_pow_pos x
        have ep := shl1 x
        simp only [vsAll, binA, binLitA, intA, loadA, loadRow, partA, partOk, indexAddrA, pickA, opA, guardV, dstOk, nilSliceOp, Nat.reduceLT, Nat.reduceEqDiff, ↓reduceIte, implies_true, eq_self, wtAll, intF_at, hx]
        refine ⟨⟨by omega, by omega⟩, hjl, condV (fun hc => ?_) (fun hc => ?_)⟩
        ·exfalso
         simp only [Bool.or_eq_true, decide_eq_true_eq] at hc
         omega
        ·simp only [vsAll, binA, binLitA, intA, opA, dstOk, nilSliceOp, Nat.reduceLT, Nat.reduceEqDiff, ↓reduceIte, eq_self, ep, ← es]
         refine ⟨⟨by omega, by omega, by simp only [InR_i64]; omega⟩, ⟨by omega, by omega, by simp only [InR_i64]; omega, by simp only [InR_i64]; omega⟩, by simp only [InR_i64]; omega, loop_next (j + 1) hjl (by omega) ?_ HSub_rfl⟩
         simp only [vsAll, Nat.reduceEqDiff, ↓reduceIte, eq_self, Int.natCast_add, Int.natCast_one]
       ·have ej : j = L.length := by omega
        subst ej
        rw [List.take_length, alN_eq hLr hLc]
        simp only [vsAll, ↓reduceIte, eq_self]
        exact cutG_of u ⟨hr, hst⟩ (by simp only [vsAll, Nat.reduceEqDiff, ↓reduceIte, eq_self]) rfl HSub_rfl
   ·obtain ⟨hr, hst⟩ := hu
    have hso := opN_lt u d.lim.length
    have hoB : opB (xD d l) l = opN u d.lim.length := opB_eq kx (d := xD d l) (u := u) hr hst
    have hS := sets_x hlx.symm.symm (d := d)
    rw [hoB] at hS
    generalize ho' : opN u d.lim.length = o at *
    have p6 := p2_6 n6
    refine wps_cutG3 (m := mset []) (σ := Unit) (fun _ => True)
     (fun _ => [(2, .lit (.int .u8 wh)), (8, i64 (d.lim.length : Nat)), (9, dptr (xD d l)), (10, intsAV l), (16, intsAV (lst (d.dv.res (bOf l) u) d.lim.length)), (21, i64 (o : Nat)), (22, i64 (o : Nat)), (27, .rptr 1 4 (fun _ => rpC (xD d l) (raL (xD d l) o d.lim.length)) 0 0), (29, i64 0)])
     (fun _ => H) (fun _ => []) ?_ fun _ _ => ?_
    ·simp only [vsAll, loadA, loadRow, partA, partOk, cellA, cellsA, fillA, okParts, okAll, stAll, opsA, partsA, partsOk, opA, allocA, newCells, okCells, storeObj, dstOk, Nat.reduceAdd, Nat.reduceLT, Nat.reduceLeDiff, Nat.reduceEqDiff, ↓reduceIte, eq_self, wtAll, Tryz.ntmps3]
     intro i27 hh_i27; (try simp only [Hp.set_none, ite_none] at hh_i27)
     refine callK_pure (Tri.args (rdull_tri (xD d l) [] o _ kx (okL0 _) hso) rfl fun q hq => ?_) ?_
     ·match q, hq with
      | 0, _ => exact rp0_le (xD d l)
      | 1, _ => exact .refl _
     simp only [vsAll, extractA, opA, dstOk, nilSliceOp, Nat.reduceAdd, Nat.reduceLT, Nat.reduceEqDiff, ↓reduceIte, eq_self]
     refine vs_entL (Ent.nilBox 2 (hdF []) (fun id _ => [intsAV d.lim, prAV d.be, prAV (twL l), .sl id 2 0]) (j := i27) (st' := 4) (n' := 1) (g := fun _ => [intsAV d.lim, prAV d.be, prAV (twL l), .lit (.slice none 0 0)]) (Hp.set_same _ _ _) (fun _ _ _ => rfl) (fun id q d hq hd => ?_) fun ir hir => ?_)
     ·match d, hd with
      | 0, _ => exact .rfl
      | 1, _ => exact .rfl
      | 2, _ => exact .rfl
      | 3, _ => exact .hit
     simp only [Hp.set_none] at hir
     obtain ⟨⟨r2, r2'⟩, _, zr⟩ := hir
     have z27 : H i27 = none := hh_i27
     skip
     have hra : ∀ i, (raL (xD d l) o i).length = i := fun i => raL_len _ _ i
     refine vs_loop (σ := Nat) (fun i => i ≤ d.lim.length) (fun i => [(2, .lit (.int .u8 wh)), (8, i64 (d.lim.length : Nat)), (9, dptr (xD d l)), (10, intsAV l), (16, intsAV (lst (d.dv.res (bOf l) u) d.lim.length)), (21, i64 (o : Nat)), (22, i64 (o : Nat)), (27, .ref i27 0 4 0 0), (28, i64 (dlD (xD d l) o : Nat)), (29, i64 0), (192, i64 (d.lim.length : Nat)), (193, i64 i)])
      (fun i => (H.set ir (.row 2 i (hdF (raL (xD d l) o i)))).set i27 (.box 4 1 fun _ => [intsAV d.lim, prAV d.be, prAV (twL l), .sl ir 2 i])) (fun i => d.lim.length - i) 0 (Nat.zero_le _) ?_ ?_ fun i hi => ?_
     ·simp only [vsAll, Nat.reduceEqDiff, ↓reduceIte, eq_self, Int.natCast_zero]
      exact .refl _
     ·have e0 : hdF (raL (xD d l) o 0) = hdF [] := rfl
      rw [e0]
      (refine HSub_eqn fun jj => ?_; refine (Classical.em (jj = i27)).elim (fun E0 => by rw [E0]; first | (left; simp only [vsAll, ↓reduceIte, reduceCtorEq, eq_self]; done) | (right; simp only [vsAll, ↓reduceIte, eq_self]; done)) (fun E0 => ?_); refine (Classical.em (jj = ir)).elim (fun E1 => by rw [E1]; first | (left; simp only [vsAll, ↓reduceIte, reduceCtorEq, eq_self, r2]; done) | (right; simp only [vsAll, ↓reduceIte, eq_self, r2]; done)) (fun E1 => ?_); right; simp only [vsAll, ↓reduceIte, eq_self, E0, E1])
     ·simp only [vsAll, binA, binLitA, intA, opA, dstOk, Nat.reduceLT, Nat.reduceEqDiff, ↓reduceIte, eq_self]
      refine condD (fun hd => ?_) (fun hd => ?_)
      ·have hil : i < d.lim.length := by ((try clear hh_i27 r2 r2' zr z27); omega)
       simp only [vsAll, opA, dstOk, nilSliceOp, Nat.reduceLT, Nat.reduceEqDiff, ↓reduceIte, eq_self]
       refine vs_draw2 [0, 0, 0, 0, 0, 0, 0, 0, 0, 0, 1, 2, 3] [([0, 1, 2, 3, 4, 5, 6, 7, 8, 9], [], 10), ([11], [], 12)] [] (by decide +kernel) ?_
       have eS : ∀ z : Int, shB IntKind.i64 z = 64 := fun _ => rfl
       simp only [vsAll, binA, binLitA, intA, loadA, loadRow, partA, partOk, fieldAddrA, cellA, cellsA, fillA, okParts, buildSliceA, partIdx, elemsA, lensA, partsA, partsOk, opA, newCells, okCells, storeObj, appendA, dstOk, Nat.reduceAdd, Nat.reduceMul, Nat.reduceLT, Nat.reduceLeDiff, Nat.reduceEqDiff, Int.reduceLE, Int.reduceToNat, ↓reduceIte, eq_self, wtAll, r2, r2', eS, bit_eq]
       have h1 : (dlD (xD d l) o : Int) / 2 ^ i = ((dlD (xD d l) o / 2 ^ i : Nat) : Int) := by simp
       have h2 : dlD (xD d l) o / 2 ^ i ≤ dlD (xD d l) o := Nat.div_le_self _ _
       have h3 := dlD_lt (xD d l) o
       have ea : appF (raL (xD d l) o i).length 1 (hdF (raL (xD d l) o i)) (fun i_1 => [[AV.lit (Value.int IntKind.i64 (i : Nat)), AV.lit (Value.bool ((dlD (xD d l) o).testBit i))]].getD i_1 []) = hdF (raL (xD d l) o i ++ [(i, (dlD (xD d l) o).testBit i)]) := app_lF (fun p : Nat × Bool => [i64 p.1, boo p.2]) (0, false) _ _ _ rfl
       have er : raL (xD d l) o i ++ [(i, (dlD (xD d l) o).testBit i)] = raL (xD d l) o (i + 1) := by simp [raL, List.range_succ]
       rw [raL_len, er] at ea
       refine ⟨⟨by ((try clear hh_i27 r2 r2' zr z27); omega), by ((try clear hh_i27 r2 r2' zr z27); omega)⟩, ⟨by rw [h1]; exact Int.natCast_nonneg _, by rw [h1]; generalize dlD (xD d l) o / 2 ^ i = q at h2; simp only [InR_i64]; ((try clear hh_i27 r2 r2' zr z27); omega), by simp only [InR_i64]; decide⟩, fun q hq => by (have : q = 0 := by ((try clear hh_i27 r2 r2' zr z27); omega)); subst this; exact ⟨rfl, rfl, trivial⟩, by ((try clear hh_i27 r2 r2' zr z27); omega), by ((try clear hh_i27 r2 r2' zr z27); omega), by simp only [InR_i64]; ((try clear hh_i27 r2 r2' zr z27); omega), loop_next (i + 1) hil (by ((try clear hh_i27 r2 r2' zr z27); omega)) ?_ ?_⟩
       ·simp only [vsAll, Nat.reduceEqDiff, ↓reduceIte, eq_self, Int.natCast_add, Int.natCast_one]
       ·simp only [← ea]
        (refine HSub_eqn fun jj => ?_; refine (Classical.em (jj = i27)).elim (fun E0 => by rw [E0]; first | (left; simp only [vsAll, ↓reduceIte, reduceCtorEq, eq_self]; done) | (right; simp only [vsAll, ↓reduceIte, eq_self]; done)) (fun E0 => ?_); refine (Classical.em (jj = ir)).elim (fun E1 => by rw [E1]; first | (left; simp only [vsAll, ↓reduceIte, reduceCtorEq, eq_self, r2]; done) | (right; simp only [vsAll, ↓reduceIte, eq_self, r2]; done)) (fun E1 => ?_); right; simp only [vsAll, ↓reduceIte, eq_self, E0, E1])
      ·have ei : i = d.lim.length := by ((try clear hh_i27 r2 r2' zr z27); omega)
       subst ei
       simp only [vsAll, ↓reduceIte, eq_self]
       refine cutG_ent (Ent.of [(2, .lit (.int .u8 wh)), (8, i64 (d.lim.length : Nat)), (9, dptr (xD d l)), (10, intsAV l), (16, intsAV (lst (d.dv.res (bOf l) u) d.lim.length)), (21, i64 (o : Nat)), (22, i64 (o : Nat)), (27, .ref i27 0 4 0 0), (29, i64 0)] (by simp only [vsAll, Nat.reduceEqDiff, ↓reduceIte, eq_self]) HSub_rfl ?_)
       refine cutG_ent (Ent.freezeBox (s' := Fr.of [(2, .lit (.int .u8 wh)), (8, i64 (d.lim.length : Nat)), (9, dptr (xD d l)), (10, intsAV l), (16, intsAV (lst (d.dv.res (bOf l) u) d.lim.length)), (21, i64 (o : Nat)), (22, i64 (o : Nat)), (27, .ref i27 0 4 0 0), (29, i64 0)]) (id := ir) (st := 2) (n := d.lim.length) (f := hdF (raL (xD d l) o d.lim.length)) (j := i27) (st' := 4) (n' := 1) (g := fun _ => [intsAV d.lim, prAV d.be, prAV (twL l), .sl ir 2 d.lim.length]) (g' := fun _ => rpC (xD d l) (raL (xD d l) o d.lim.length)) (by simp only [vsAll, ↓reduceIte, eq_self, r2]) (Hp.set_same _ _ _) (fun t => .rfl) (fun _ _ => rfl) (fun q d' hq hd => ?_) ?_)
       ·match d', hd with
        | 0, _ => exact .rfl
        | 1, _ => exact .rfl
        | 2, _ => exact .rfl
        | 3, _ =>
          show Frz ir 2 d.lim.length (hdF (raL (xD d l) o d.lim.length)) (.sl ir 2 d.lim.length) (.rsl (raL (xD d l) o d.lim.length).length 2 (hdF (raL (xD d l) o d.lim.length)))
          rw [raL_len]; exact .hit
       refine cutG_ent (Ent.freezeB (id := i27) (st := 4) (n := 1) (f := fun _ => rpC (xD d l) (raL (xD d l) o d.lim.length)) (s' := Fr.of [(2, .lit (.int .u8 wh)), (8, i64 (d.lim.length : Nat)), (9, dptr (xD d l)), (10, intsAV l), (16, intsAV (lst (d.dv.res (bOf l) u) d.lim.length)), (21, i64 (o : Nat)), (22, i64 (o : Nat)), (27, .rptr 1 4 (fun _ => rpC (xD d l) (raL (xD d l) o d.lim.length)) 0 0), (29, i64 0)]) (Hp.set_same _ _ _) (FzB.frz (.same (.same (.same (.same (.same (.same (.same (.hit (FzB.refl _)))))))))) ?_)
       refine cutG_of () trivial (by simp only [vsAll, Nat.reduceEqDiff, ↓reduceIte, eq_self]) rfl (HSub_eqn fun jj => ?_)
       by_cases e1 : jj = i27
       ·left; subst e1; exact z27
       by_cases e2 : jj = ir
       ·left; subst e2; exact zr
       right; simp [Hp.set, Hp.del, e1, e2]
    ·have hca := raL_ca (xD d l) o d.lim.length
     have kl : OkL (xD d l) (raL (xD d l) o d.lim.length) := raL_ok (xD d l) o rfl n6
     have h0 : 0 < (caL (xD d l) (raL (xD d l) o d.lim.length) [o]).length := by rw [hca]; exact Nat.one_pos
     obtain ⟨hf1, x, hx64, hf2, hf3, hf4⟩ := few_some (d := xD d l) kx hso
     have hx6 := ones_le hx64
     refine wps_cutG5 (m := mset []) (σ := Unit) (fun _ => True)
      (fun _ => [(2, .lit (.int .u8 wh)), (8, i64 (d.lim.length : Nat)), (9, dptr (xD d l)), (10, intsAV l), (16, intsAV (lst (d.dv.res (bOf l) u) d.lim.length)), (21, i64 (o : Nat))])
      (fun _ => H) (fun _ => []) ?_ fun _ _ => ?_
     ·generalize hra : raL (xD d l) o d.lim.length = ra at *
      have hsets := sets_tri kx kl hS h0
      have hsound := sound_tri kx kl hS h0
      have hfew := fewest_tri kx kl hS h0 (by rw [hca]; exact hf1)
      rw [hca] at hsets hsound hfew
      rw [show (xD d l).lim.length = d.lim.length from rfl] at hfew hf2 hf3
      rw [hf2, hf3] at hfew
      simp only [vsAll, loadA, loadRow, partA, partOk, okAll, stAll, opsA, opA, dstOk, Nat.reduceLT, Nat.reduceEqDiff, ↓reduceIte, eq_self, wtAll, Tryz.ntmps3]
      refine callK_pure (hsets _) ?_
      simp only [vsAll, loadA, loadRow, partA, partOk, extractA, okAll, stAll, opsA, opA, dstOk, nilSliceOp, Nat.reduceAdd, Nat.reduceLT, Nat.reduceEqDiff, ↓reduceIte, eq_self, wtAll]
      refine callK_pure (wrong_tri kx kl hS h0 _) ?_
      simp only [vsAll, loadA, loadRow, partA, partOk, extractA, okAll, stAll, opsA, opA, dstOk, nilSliceOp, Nat.reduceAdd, Nat.reduceLT, Nat.reduceEqDiff, ↓reduceIte, eq_self, wtAll]
      refine callK_pure (hsound _) ?_
      simp only [vsAll, loadA, loadRow, partA, partOk, extractA, okAll, stAll, opsA, opA, dstOk, nilSliceOp, Nat.reduceAdd, Nat.reduceLT, Nat.reduceEqDiff, ↓reduceIte, eq_self, ne_eq, wtAll]
      refine callK_pure (hfew _) ?_
      simp only [vsAll, binA, binLitA, intA, extractA, cellA, cellsA, okParts, buildSliceA, partIdx, elemsA, lensA, pickA, partsA, partsOk, opA, guardV, dstOk, nilSliceOp, Nat.reduceAdd, Nat.reduceMul, Nat.reduceLT, Nat.reduceLeDiff, Nat.reduceEqDiff, ↓reduceIte, implies_true, eq_self, wtAll]
      have hle1 : ∀ z : Int, AV.Le (.rsl 1 1 fun i => [[i64 z]].getD i []) (intsAV [z]) := fun z => AV.Le.rsl (fun i hi => by
       match i, hi with
       | 0, _ => rfl)
      refine gcall (boo true) (fun g => ⟨by simp only [vsAll, opA], by simp only [vsAll, okAll, opsA, opA, Nat.reduceEqDiff, ↓reduceIte, eq_self], Tri.args (ret_leA (ints_tri [(o : Int)] [(o : Int)] _ (by simp) (by simp)) (AV.Le.of_eq (by rw [decide_eq_true rfl]))) rfl fun q hq => ?_⟩) ?_
      ·match q, hq with
       | 0, _ => exact .refl _
       | 1, _ => exact hle1 _
      simp only [vsAll, binA, binLitA, intA, boolA, unA, mmA, pickA, okAll, stAll, opsA, opA, guardV, dstOk, Nat.reduceLT, Nat.reduceEqDiff, ↓reduceIte, implies_true, eq_self, wtAll]
      refine gcall (i64 (ones x : Nat)) (fun g => ⟨by simp only [vsAll, opA], by simp only [vsAll, okAll, opsA, opA, ↓reduceIte, eq_self, g], by simp only [vsAll, stAll, opsA, opA, ↓reduceIte, eq_self, g]; rw [show max (0 : Int) (x : Int) = x from by omega]; exact size_tri x _ hx64⟩) ?_
      simp only [vsAll, binA, binLitA, intA, pickA, opA, guardV, dstOk, Nat.reduceLT, Nat.reduceEqDiff, ↓reduceIte, implies_true, eq_self]
      refine condV (fun hc => ?_) (fun hc => ?_)
      ·exfalso
       by_cases e : o = 0
       ·have e2 := hf4.2 e
        simp [e, e2] at hc
       ·have e2 : ¬ ones x = 0 := fun h => e (hf4.1 h)
        have e3 : ¬ (o : Int) = 0 := by omega
        have e4 : ¬ ((ones x : Nat) : Int) = 0 := by omega
        simp [e, e2] at hc
      ·simp only [vsAll]
       exact cutG_of () trivial (by simp only [vsAll, Nat.reduceEqDiff, ↓reduceIte, eq_self]) rfl HSub_rfl
     ·have hln : (lst (d.dv.res (bOf l) u) d.lim.length).length = d.lim.length := lst_len _ _
      have hbl2 := bOf_lst k hl hr
      refine wps_cutG5 (m := mset [297]) (σ := Nat × (Nat → Int)) (fun y => y.1 < l.length ∧ d.dv.Run (upZ (d.dv.res (bOf l) u) y.1 1) y.2 ∧ d.dv.Still (upZ (d.dv.res (bOf l) u) y.1 1) y.2)
       (fun y => [(21, i64 (o : Nat)), (41, i64 (opN y.2 6 : Nat)), (42, i64 0), (43, .rptr 1 3 (fun _ => (xD d (upI l y.1)).cs) 0 0)])
       (fun _ => H) (fun _ => []) ?_ fun y hy => ?_
      ·have hs0 : 0 ≤ wh.tmod (d.lim.length : Int) ∧ wh.tmod (d.lim.length : Int) < d.lim.length := by
        rw [Int.tmod_eq_emod_of_nonneg (by omega)]
        exact ⟨Int.emod_nonneg _ (by omega), Int.emod_lt_of_pos _ (by omega)⟩
       obtain ⟨s, hse⟩ : ∃ s : Nat, wh.tmod (d.lim.length : Int) = (s : Int) := ⟨(wh.tmod (d.lim.length : Int)).toNat, by omega⟩
       rw [hse] at hs0
       have hsn : s < d.lim.length := by omega
       have hsl : s < l.length := by omega
       have hch := chain_tri (xD d l) (lst (d.dv.res (bOf l) u) d.lim.length) s H kx hln (fun i hi => by
        rw [hln] at hi
        rw [lst_at _ hi]
        exact ⟨hr.res_nn ok (fun j hj => (hb j (by rw [hl]; exact hj)).1) i hi, hst i hi⟩) hsn
       simp only [vsAll, binA, binLitA, intA, loadA, loadRow, partA, partOk, convA, okAll, stAll, opsA, opA, dstOk, nilSliceOp, Nat.reduceLT, Nat.reduceEqDiff, Nat.reduceBEq, ↓reduceIte, eq_self, ne_eq, wtAll, Tryz.ntmps3, hse]
       refine ⟨by simp only [InR_i64]; omega, by omega, callK hch ?_⟩
       rintro r Hq ⟨hH, w, hw1, hw2, rfl⟩
       rw [hH]; clear hH
       rw [hbl2] at hw1 hw2
       have hw1 : d.dv.Run (upZ (d.dv.res (bOf l) u) s 1) w := hw1
       have hw2 : d.dv.Still (upZ (d.dv.res (bOf l) u) s 1) w := hw2
       simp only [vsAll, loadA, loadRow, partA, partOk, fieldAddrA, extractA, cellA, cellsA, okParts, buildMutA, partIdx, elemsA, lensA, partsA, partsOk, opA, allocA, newCells, okCells, storeObj, appendA, dstOk, nilSliceOp, Nat.reduceAdd, Nat.reduceMul, Nat.reduceLT, Nat.reduceLeDiff, Nat.reduceEqDiff, Nat.reduceBEq, ↓reduceIte, eq_self, wtAll]
       intro i43 hh_i43; (try simp only [Hp.set_none, ite_none] at hh_i43); intro i297 hh_i297; (try simp only [ite_none] at hh_i297)
       have g : ¬ i297 = i43 ∧ H i43 = none ∧ H i297 = none := by simp_all
       obtain ⟨c1, z43, z297⟩ := g
       have c1' : ¬ i43 = i297 := fun e => c1 e.symm
       skip
       have htl : (xD d l).bl.length = l.length := twL_len l
       refine ⟨fun q hq => ⟨rfl, rfl, trivial⟩, by ((try clear hh_i43 hh_i297 c1 c1' z43 z297); omega), by ((try clear hh_i43 hh_i297 c1 c1' z43 z297); omega), ?_⟩
       simp only [vsAll, Nat.reduceLT, ↓reduceIte, eq_self, hh_i297]
       refine vs_draw2 [0, 0, 0, 0, 0, 0, 0, 0, 0, 0, 0, 0, 0, 0, 0, 1] [([0, 1, 2, 3, 4, 5, 6, 7, 8, 9, 10, 11, 12, 13, 14], [], 15)] [] (by decide +kernel) ?_
       simp only [vsAll, binA, binLitA, intA, loadA, loadRow, partA, partOk, fieldAddrA, indexAddrA, opA, dstOk, Nat.reduceLT, Nat.reduceEqDiff, ↓reduceIte, eq_self, wtAll, intF_at]
       have hbs := hb s hsl
       refine ⟨⟨by ((try clear hh_i43 hh_i297 c1 c1' z43 z297); omega), by ((try clear hh_i43 hh_i297 c1 c1' z43 z297); omega)⟩, hsl, by simp only [InR_i64]; ((try clear hh_i43 hh_i297 c1 c1' z43 z297); omega), ⟨by ((try clear hh_i43 hh_i297 c1 c1' z43 z297); omega), by ((try clear hh_i43 hh_i297 c1 c1' z43 z297); omega)⟩, hsl, by simp only [InR_i64]; ((try clear hh_i43 hh_i297 c1 c1' z43 z297); omega), qcall _ ⟨by simp only [vsAll, opA], by simp only [vsAll, okAll, opsA, opA, Nat.reduceEqDiff, ↓reduceIte, eq_self], span_tri _ _ _⟩ ?_⟩
       have hdr : List.drop 2 (appF 0 (xD d l).bl.length (fun _ => []) (prF (xD d l).bl) s) = [] := by
        rw [app0 _ _ _ s (by ((try clear hh_i43 hh_i297 c1 c1' z43 z297); omega))]; rfl
       simp only [vsAll, indexAddrA, cellA, opA, newCells, okCells, storeObj, dstOk, Nat.reduceAdd, Nat.reduceLT, Nat.reduceEqDiff, ↓reduceIte, eq_self, wtAll, hh_i297, hdr]
       generalize hnb : (xD d l).bl.length = nb at *
       refine ⟨⟨by ((try clear hh_i43 hh_i297 c1 c1' z43 z297); omega), by ((try clear hh_i43 hh_i297 c1 c1' z43 z297); omega)⟩, by ((try clear hh_i43 hh_i297 c1 c1' z43 z297); omega), ?_⟩
       refine cutG_ent (Ent.of (H' := (H.set i297 (.row 2 nb (prF (twL (upI l s))))).set i43 (.box 3 1 fun _ => [intsAV (xD d l).lim, prAV (xD d l).be, .sl i297 2 nb])) [(21, i64 (o : Nat)), (41, i64 (opN w 6 : Nat)), (42, i64 0), (43, .ref i43 0 3 0 0)] (by simp only [vsAll, Nat.reduceEqDiff, ↓reduceIte, eq_self]) ?_ ?_)
       ·refine Go.V.HSub.trans (Go.V.HSub.set (.refl _) (row_ext (up_row htl (by ((try clear hh_i43 hh_i297 c1 c1' z43 z297); omega))))) ?_
        (refine HSub_eqn fun jj => ?_; refine (Classical.em (jj = i43)).elim (fun E0 => by rw [E0]; first | (left; simp only [vsAll, ↓reduceIte, reduceCtorEq, eq_self]; done) | (right; simp only [vsAll, ↓reduceIte, eq_self, hh_i297]; done)) (fun E0 => ?_); refine (Classical.em (jj = i297)).elim (fun E1 => by rw [E1]; first | (left; simp only [vsAll, ↓reduceIte, reduceCtorEq, eq_self, hh_i297]; done) | (right; simp only [vsAll, ↓reduceIte, eq_self, hh_i297]; done)) (fun E1 => ?_); right; simp only [vsAll, ↓reduceIte, eq_self, E0, E1])
       refine cutG_ent (Ent.freezeBox (s' := Fr.of [(21, i64 (o : Nat)), (41, i64 (opN w 6 : Nat)), (42, i64 0), (43, .ref i43 0 3 0 0)]) (id := i297) (st := 2) (n := nb) (f := prF (twL (upI l s))) (j := i43) (st' := 3) (n' := 1) (g := fun _ => [intsAV (xD d l).lim, prAV (xD d l).be, .sl i297 2 nb]) (g' := fun _ => (xD d (upI l s)).cs) (by simp only [vsAll, ↓reduceIte, eq_self, hh_i297]) (Hp.set_same _ _ _) (fun t => .rfl) (fun _ _ => rfl) (fun q d' hq hd => ?_) ?_)
       ·match d', hd with
        | 0, _ => exact .rfl
        | 1, _ => exact .rfl
        | 2, _ =>
          show Frz i297 2 nb (prF (twL (upI l s))) (.sl i297 2 nb) (.rsl (twL (upI l s)).length 2 (prF (twL (upI l s))))
          rw [twL_len, upI_len, ← htl]; exact .hit
       refine cutG_ent (Ent.freezeB (id := i43) (st := 3) (n := 1) (f := fun _ => (xD d (upI l s)).cs) (s' := Fr.of [(21, i64 (o : Nat)), (41, i64 (opN w 6 : Nat)), (42, i64 0), (43, .rptr 1 3 (fun _ => (xD d (upI l s)).cs) 0 0)]) (Hp.set_same _ _ _) (FzB.frz (.same (.same (.same (.hit .nil))))) ?_)
       refine cutG_of (s, w) ⟨hsl, hw1, hw2⟩ (by simp only [vsAll, Nat.reduceEqDiff, ↓reduceIte, eq_self]) rfl (HSub_eqn fun jj => ?_)
       by_cases e1 : jj = i43
       ·left; subst e1; exact z43
       by_cases e2 : jj = i297
       ·left; subst e2; exact z297
       right; simp [Hp.set, Hp.del, e1, e2]
      ·obtain ⟨s, w⟩ := y
       obtain ⟨hsl, hw1, hw2⟩ := hy
       simp only [] at hsl hw1 hw2
       have hcs := chain_set k hl hsl hr hw1 hw2
       have hlu : (upI l s).length = d.lim.length := by rw [upI_len]; exact hl
       have hbu : ∀ i, i < (upI l s).length → 0 ≤ (upI l s).getD i 0 ∧ (upI l s).getD i 0 ≤ 12 := fun i hi => by
        rw [upI_len] at hi
        rw [upI_at l hsl]
        split
        ·have := hb s hsl; omega
        ·have := hb i hi; omega
       have ky := xD_ok k hlu hbu
       have hSy := sets_x (d := d) hlu
       rw [hcs, ho'] at hSy
       refine wps_vs (m := fun _ => false) ?_
       simp only [vsAll, loadA, loadRow, partA, partOk, cellsA, fillA, okParts, okAll, stAll, opsA, partsA, partsOk, opA, dstOk, Nat.reduceAdd, Nat.reduceLT, Nat.reduceLeDiff, Nat.reduceEqDiff, ↓reduceIte, eq_self, wtAll, Tryz.ntmps3]
       refine callK_pure (sets0_tri ky hSy Nat.one_pos _) ?_
       have hw6 : opN w 6 < 64 := opN_lt w 6
       have hle1 : ∀ z : Int, AV.Le (.rsl 1 1 fun i => [[i64 z]].getD i []) (intsAV [z]) := fun z => AV.Le.rsl (fun i hi => by
        match i, hi with
        | 0, _ => rfl)
       simp only [vsAll, binA, binLitA, intA, extractA, cellA, cellsA, okParts, buildSliceA, partIdx, elemsA, lensA, pickA, partsA, partsOk, opA, guardV, dstOk, nilSliceOp, Nat.reduceAdd, Nat.reduceMul, Nat.reduceLT, Nat.reduceLeDiff, Nat.reduceEqDiff, ↓reduceIte, implies_true, forall_const, eq_self, wtAll]
       refine ⟨⟨by omega, by omega, by simp only [InR_i64]; omega, by simp only [InR_i64]; omega⟩, gcall (boo true) (fun g => ⟨by simp only [vsAll, opA], by simp only [vsAll, okAll, opsA, opA, Nat.reduceEqDiff, ↓reduceIte, eq_self], Tri.args (ret_leA (ints_tri [((o ||| opN w 6 : Nat) : Int)] [((o ||| opN w 6 : Nat) : Int)] _ (by simp) (by simp)) (AV.Le.of_eq (by rw [decide_eq_true rfl]))) rfl fun q hq => ?_⟩) ?_⟩
       ·match q, hq with
        | 0, _ => exact .refl _
        | 1, _ => exact hle1 _
       simp only [vsAll, pickA, opA, guardV, dstOk, Nat.reduceLT, Nat.reduceEqDiff, ↓reduceIte, implies_true, eq_self]
       refine gcall (boo true) (fun g => ⟨by simp only [vsAll, opA], by simp only [okAll, opsA], alive13_tri _⟩) ?_
       simp only [vsAll, pickA, opA, dstOk, nilSliceOp, resA, retA.eq_1, Nat.reduceLT, Nat.reduceEqDiff, ↓reduceIte, implies_true, eq_self, Tryz.results3]
       exact dropR_pure rfl HSub_rfl
end Go.Proofs.YtclkjifgipcamaaGreat
end
section
set_option linter.unusedVariables false
set_option linter.unusedSimpArgs false
set_option maxRecDepth 100000
namespace Go.Proofs.YtclkjifgipcamaaGreat
open Go.V Go.ChangeShapes Go.WideShapes Go.ChangeAt Go.RowKit
theorem Tryz.own : ownKnob Tryz.prog.godebug = none := by kernel_rfl
theorem u4 : Tryz.prog.underlying 4 = some .bool := by kernel_rfl
theorem u5 : Tryz.prog.underlying 5 = some (.int .u8) := by kernel_rfl
theorem u27 : Tryz.prog.underlying 27 = some (.slice 59) := by kernel_rfl
theorem wf_u8 {n : Int} (h : (Lit.int .u8 n).wf = true) : 0 ≤ n ∧ n ≤ 255 := by
 simp [Lit.wf, IntKind.min, IntKind.max, IntKind.signed, IntKind.bits] at h
 omega
def iz : Value → Int
 | .int _ n => n
 | _ => 0
theorem by_rel {H : Type} {enc : TypeId × Value → H} {W : World} {sp : Nat → Bool} {held : Bool} {v : Value} {d : DataW H} {ps : List MemPlace} {base : Nat}
  (hv : Value.okWide Tryz.prog W .any base 27 v) (h : DataW.Trod enc Tryz.prog W 0 sp held 27 v d ps) : ∃ (N : Nat) (b : Nat → Int), OkB N b ∧ VRel (st0 W) (.rsl N 1 (byF b)) v := by
 obtain ⟨a, len, cap, rfl⟩ := okWide_slice u27 hv
 obtain ⟨fuel, h⟩ := h
 obtain ⟨n, g, hn, hl, hr⟩ := trod_slice_rel (d := 4) (e := 59) (ks := [.int .u16]) u27 (by decide +kernel) (by decide +kernel) (by decide) (show DataW.trod enc Tryz.prog W 0 sp held fuel 27 [.slice a len cap] = some (d, ps) from h)
 have key : ∀ i, i < n → ∃ z : Int, g i = [.int .u16 z] ∧ 0 ≤ z ∧ z ≤ 65535 := fun i hi => by
  obtain ⟨h1, h2⟩ := hl i hi
  match hg : g i, h1 with
  | [x], _ =>
    obtain ⟨z, rfl, hz⟩ := h2 0 (.int .u16) x rfl (by rw [hg]; rfl)
    refine ⟨z, rfl, ?_⟩
    simp [Lit.wf, IntKind.min, IntKind.max, IntKind.signed, IntKind.bits] at hz
    omega
 have hm : maxLen < 2 ^ 63 := by decide
 refine ⟨n, fun i => iz ((g i).getD 0 undef), ⟨by omega, fun i hi => ?_⟩, AV.Le.rsl (fun i hi => ?_) _ _ hr⟩
 ·obtain ⟨z, e, hz⟩ := key i hi
  simp only [e]; exact hz
 ·obtain ⟨z, e, hz⟩ := key i hi
  simp only [e]; simp only [byF, e]; rfl
theorem drive_cells : cellsT Tryz.prog 9 26 = some [.sl [.int .i64], .sl [.int .i64, .int .i64], .sl [.int .i64, .int .i64]] := by kernel_rfl
theorem ints_of {av : AV} (h : CKA (.sl [.int .i64]) av) : ∃ l : List Int, l.length ≤ maxLen ∧ AV.Le av (intsAV l) := by
 obtain ⟨l, h1, h2⟩ := told_slice (α := Int) (fun z => [i64 z]) 0 (fun cs hcs => by
  obtain ⟨z, hz, _⟩ := told_int 0 hcs rfl
  exact ⟨z, rfl, fun j hj => by
   match j, hj with
   | 0, _ => rw [hz]; exact AV.Le.refl _⟩) h
 exact ⟨l, h1, h2⟩
theorem pairs_of {av : AV} (h : CKA (.sl [.int .i64, .int .i64]) av) : ∃ l : List (Int × Int), l.length ≤ maxLen ∧ AV.Le av (prAV l) := by
 obtain ⟨l, h1, h2⟩ := told_slice (α := Int × Int) (fun z => [i64 z.1, i64 z.2]) (0, 0) (fun cs hcs => by
  obtain ⟨a, ha, _⟩ := told_int 0 hcs rfl
  obtain ⟨b, hb, _⟩ := told_int 1 hcs rfl
  exact ⟨(a, b), rfl, fun j hj => by
   match j, hj with
   | 0, _ => rw [ha]; exact AV.Le.refl _
   | 1, _ => rw [hb]; exact AV.Le.refl _⟩) h
 exact ⟨l, h1, h2⟩
theorem drive_rel {H : Type} {enc : TypeId × Value → H} {W : World} {sp : Nat → Bool} {held : Bool} {v : Value} {d : DataW H} {ps : List MemPlace}
  {base : Nat} (hv : Value.okWide Tryz.prog W .any base 26 v) (h : DataW.Trod enc Tryz.prog W 0 sp held 26 v d ps) : ∃ s : Dr, True ∧ VRel (st0 W) s.av v := by
 obtain ⟨cs, hcs, hv⟩ := trod_agg drive_cells (by decide) h
 obtain ⟨lim, l1, h1⟩ := ints_of (hcs.2 0 _ rfl)
 obtain ⟨be, l2, h2⟩ := pairs_of (hcs.2 1 _ rfl)
 obtain ⟨bl, l3, h3⟩ := pairs_of (hcs.2 2 _ rfl)
 refine ⟨⟨lim, be, bl⟩, trivial, AV.Le.aggD (cs := cs) hcs.1.symm (fun j hj => ?_) _ _ hv⟩
 have hj3 : j < 3 := by have := hcs.1; simp at this; omega
 match j, hj3 with
 | 0, _ => exact h1
 | 1, _ => exact h2
 | 2, _ => exact h3
end Go.Proofs.YtclkjifgipcamaaGreat
end
section
set_option linter.unusedVariables false
set_option linter.unusedSimpArgs false
set_option maxRecDepth 100000
namespace Go.Proofs.YtclkjifgipcamaaGreat
open Go.V Go.ChangeShapes Go.WideShapes Go.ChangeAt Go.RowKit
theorem topOpened_lifted (os : Os) (started : os.Started) (H : Type) (enc : TypeId × Value → H) :
  ReturnsInHanded {} Tryz.checked os 3 .any (Rows.topOpenedSpec.pre6 enc Tryz.prog Tryz.f3 Rows.topOpenedRow.domain false) (Rows.topOpenedSpec.post enc Tryz.prog Tryz.f3 false true false false) := by
 refine returnsInHanded_of_change (C := Tryz.checked) Tryz.own started (by kernel_rfl) Tryz.func3
  (ChangeSpec.witness6 (enc := enc) (C := Tryz.checked) false ⟨#[], #[.agg #[.slice none 0 0, .slice none 0 0, .slice none 0 0], .slice none 0 0, .int .u8 0], []⟩ 8 (by kernel_rfl) (by kernel_rfl) (by kernel_rfl) (by kernel_rfl)) ?_
 intro W base args ds gs before hval hW hcnd _
 have hW' := hW
 obtain ⟨p, q, hA, hV, rfl, hfz, hnd⟩ := hW
 obtain ⟨rfl, rfl⟩ := trodVars_none hV
 rw [show Tryz.f3.params.toList = [26, 27, 5] from by kernel_rfl] at hA
 obtain ⟨v0, v1, v2, d0, d1, d2, p0, p1, p2, rfl, rfl, rfl, h0, h1, h2⟩ := trodAll_three hA
 have hval : ∀ (j : Nat) t v, Tryz.f3.params[j]? = some t → (#[v0, v1, v2] : Array Value)[j]? = some v → Value.okWide Tryz.prog W .any base t v := hval
 rw [show Tryz.f3.params = #[26, 27, 5] from by kernel_rfl] at hval
 obtain ⟨x0, b0, r0⟩ := drive_rel (hval 0 26 v0 rfl rfl) h0
 obtain ⟨N1, x1, b1, r1⟩ := by_rel (hval 1 27 v1 rfl rfl) h1
 obtain ⟨x2, rfl, rfl, rfl, w2⟩ := open_int u5 (hval 2 5 v2 rfl rfl) h2
 refine (law_calls (W := W) (args := #[v0, v1, .int .u8 x2]) Tryz.func3 (by kernel_rfl) rfl (Tri.mono (opened_law x0 N1 x1 x2 H0 b1 (wf_u8 w2)) ?_) (fun p hp => by cases hp) ⟨rfl, fun k hk => match k, hk with | 0, _ => r0 | 1, _ => r1 | 2, _ => .lit _⟩).mono fun e W' he => ?_
 ·rintro r H' ⟨rfl, _⟩; rfl
 ·obtain ⟨rfl, hh, ho, hp⟩ := he
  exact ⟨_, rfl, law_post (d := 6) rfl (tb := 4) (by kernel_rfl) u4 (by decide +kernel) hW' rfl hh ho hp⟩

theorem topOpened_holds : Rows.TopOpenedSaid :=
 OpenClaim.holds_of_wide (p := Tryz.pinned) (s := Rows.topOpenedSpec) (c := Rows.topOpenedRow) 3 Tryz.f3 rfl rfl rfl rfl rfl rfl rfl ⟨rfl, rfl, rfl, rfl, rfl⟩ rfl rfl rfl rfl rfl (by kernel_rfl) Tryz.func3 (by kernel_rfl)
  (of_decide_eq_true (by kernel_rfl)) (by unfold Func.isWrapper; first | (rw [if_pos (by decide +kernel)]; kernel_rfl) | (rw [if_neg (by decide +kernel)]; exact ⟨rfl, rfl⟩))
  (fun os started H enc _ => topOpened_lifted os started H enc)

end Go.Proofs.YtclkjifgipcamaaGreat
end
