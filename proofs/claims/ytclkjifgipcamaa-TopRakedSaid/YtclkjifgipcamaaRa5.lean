/- WHAT IS PROVED: the given statement of this claim. Conditions: none beyond the given row. -/
import Derived.Test.YtclkjifgipcamaaRows
import Derived.ChangeVars
import Derived.Test.YtclkjifgipcamaaRa4
section
set_option linter.unusedVariables false
set_option linter.unusedSimpArgs false
set_option maxHeartbeats 4000000
set_option maxRecDepth 100000
namespace Go.Proofs.Ytclkjifgipcamaa
open Go.V
theorem app0 (n : Nat) (f g : Nat → List AV) (q : Nat) (hq : q < n) : appF 0 n f g q = g q := by
 unfold appF
 split
 ·have : q = 0 := by omega
  subst this; rfl
 ·simp
/-- What the law holds when all was made. -/
structure LwA (H : Hp) (h : Hl) (u fs : List Int) (i3 i4 i6 a : Nat) : Prop where
 ok : OkH h
 tr : Tru h u
 fl : fs.length = h.N
 f : ∀ x, x < h.N → 1 ≤ fs.getD x 0 ∧ fs.getD x 0 ≤ 20
 a : a ≤ 400
 z : H i3 = none ∧ H i4 = none ∧ H i6 = none
 d : ¬ i3 = i4 ∧ ¬ i3 = i6 ∧ ¬ i4 = i6
def lwH (H : Hp) (h : Hl) (fs : List Int) (i3 i4 i6 a : Nat) : Hp := ((H.set i3 (.box 1 1 fun _ => [i64 a])).set i4 (.box 2 1 fun _ => h.cs)).set i6 (.box 3 1 fun _ => rkC h fs)
theorem raked_law (N : Nat) (b : Nat → Int) (H : Hp) (kb : OkB N b) : PTri Try.prog (fnA 4) [.rsl N 1 (byF b)] H (boo true) := by
 refine Tri.drop ?_
 refine tri_wm Try.func4 (by kernel_rfl) rfl (by simp only [List.length_append, List.length_cons, List.length_nil, Try.ntmps4]; decide) ?_
 refine wps_cutG5 (m := mset [4, 6]) (σ := Hl × List Int × List Int × Nat × Nat × Nat × Nat) (fun y => LwA H y.1 y.2.1 y.2.2.1 y.2.2.2.1 y.2.2.2.2.1 y.2.2.2.2.2.1 y.2.2.2.2.2.2)
  (fun y => [(3, dwAV y.2.2.2.1 N b), (4, .ref y.2.2.2.2.1 0 2 0 0), (5, intsAV y.2.1), (6, .ref y.2.2.2.2.2.1 0 3 0 0)])
  (fun y => lwH H y.1 y.2.2.1 y.2.2.2.1 y.2.2.2.2.1 y.2.2.2.2.2.1 y.2.2.2.2.2.2) (fun _ => []) ?_ fun y hy => ?_
 ·simp only [vsAll, okAll, stAll, opsA, opA, dstOk, nilSliceOp, argFr, Nat.reduceLT, Nat.reduceBEq, ↓reduceIte, reduceCtorEq, eq_self, Try.ntmps4]
  refine callK (dws_tri N b _) ?_
  rintro r H' ⟨i3, z3, rfl, rfl⟩
  simp only [vsAll, okAll, stAll, opsA, opA, dstOk, nilSliceOp, Nat.reduceLT, Nat.reduceBEq, ↓reduceIte, eq_self]
  refine callK (made_tri kb i3 0 4 _ (by omega) (by omega) (Hp.set_same _ _ _)) ?_
  rintro r H' ⟨h, u, a, ok, tr, ha, rfl, rfl⟩
  rw [Hp.set_set]
  simp only [vsAll, loadA, loadRow, partA, partOk, fieldAddrA, extractA, lenA, cellA, cellsA, fillA, okParts, partsA, partsOk, opA, allocA, newCells, okCells, storeObj, dstOk, nilSliceOp, Nat.reduceAdd, Nat.reduceLT, Nat.reduceLeDiff, Nat.reduceEqDiff, Nat.reduceBEq, ↓reduceIte, eq_self, wtAll]
  intro i4 hh_i4; (try simp only [ite_none] at hh_i4); intro i6 hh_i6; (try simp only [ite_none] at hh_i6)
  have g1 : ¬ i4 = i3 ∧ ¬ i6 = i3 ∧ ¬ i6 = i4 ∧ H i4 = none ∧ H i6 = none := by simp_all
  obtain ⟨c43, c63, c64, z4, z6⟩ := g1
  have c43' : ¬ i3 = i4 := fun e => c43 e.symm
  have c63' : ¬ i3 = i6 := fun e => c63 e.symm
  have c64' : ¬ i4 = i6 := fun e => c64 e.symm
  skip
  simp only [vsAll, Nat.reduceLT, ↓reduceIte, eq_self, hh_i6]
  refine vs_entL (Ent.nilBox 1 (intF []) (fun id _ => [lkAV h.sm, lsAV h.so, .sl id 1 0]) (j := i6) (st' := 3) (n' := 1) (g := fun _ => [lkAV h.sm, lsAV h.so, .lit (.slice none 0 0)]) (by simp only [vsAll, ↓reduceIte, eq_self]) (fun _ _ _ => rfl) (fun id q d hq hd => ?_) fun jf hjf => ?_)
  ·match d, hd with
   | 0, _ => exact .rfl
   | 1, _ => exact .rfl
   | 2, _ => exact .hit
  simp only [Hp.set_none] at hjf
  obtain ⟨⟨j6, j6'⟩, _, ⟨j4, j4'⟩, _, ⟨j3, j3'⟩, zj⟩ := hjf
  skip
  refine vs_loop (σ := List Int × Nat) (fun y => (∀ x, x < y.1.length → 1 ≤ y.1.getD x 0 ∧ y.1.getD x 0 ≤ 20) ∧ y.1.length ≤ h.sm.length ∧ y.2 ≤ 200 + y.1.length) (fun y => [(3, dwAV i3 N b), (4, .ref i4 0 2 0 0), (5, intsAV u), (6, .ref i6 0 3 0 0), (44, i64 h.sm.length), (45, i64 y.1.length)])
   (fun y => (((H.set i3 (.box 1 1 fun _ => [i64 y.2])).set i4 (.box 2 1 fun _ => h.cs)).set jf (.row 1 y.1.length (intF y.1))).set i6 (.box 3 1 fun _ => [lkAV h.sm, lsAV h.so, .sl jf 1 y.1.length])) (fun y => h.sm.length - y.1.length) ([], a) ⟨fun x hx => absurd hx (Nat.not_lt_zero x), Nat.zero_le _, by simp only [List.length_nil]; ((try clear hh_i4 hh_i6 c43 c63 c64 z3 z4 z6 c43' c63' c64' j6 j6' j4 j4' j3 j3' zj); omega)⟩ ?_ ?_ fun y hy => ?_
  ·simp only [vsAll, Nat.reduceEqDiff, ↓reduceIte, eq_self, Int.natCast_zero]
  ·simp only [List.length_nil]
   (refine HSub_eqn fun jj => ?_; refine (Classical.em (jj = i6)).elim (fun E0 => by rw [E0]; first | (left; simp only [vsAll, ↓reduceIte, reduceCtorEq, eq_self]; done) | (right; simp only [vsAll, ↓reduceIte, eq_self]; done)) (fun E0 => ?_); refine (Classical.em (jj = jf)).elim (fun E1 => by rw [E1]; first | (left; simp only [vsAll, ↓reduceIte, reduceCtorEq, eq_self, j6]; done) | (right; simp only [vsAll, ↓reduceIte, eq_self, j6]; done)) (fun E1 => ?_); refine (Classical.em (jj = i4)).elim (fun E2 => by rw [E2]; first | (left; simp only [vsAll, ↓reduceIte, reduceCtorEq, eq_self, hh_i6, j4']; done) | (right; simp only [vsAll, ↓reduceIte, eq_self, hh_i6, j4']; done)) (fun E2 => ?_); refine (Classical.em (jj = i3)).elim (fun E3 => by rw [E3]; first | (left; simp only [vsAll, ↓reduceIte, reduceCtorEq, eq_self, hh_i4, hh_i6, j3']; done) | (right; simp only [vsAll, ↓reduceIte, eq_self, hh_i4, hh_i6, j3']; done)) (fun E3 => ?_); right; simp only [vsAll, ↓reduceIte, eq_self, E0, E1, E2, E3])
  ·obtain ⟨fs, a⟩ := y
   obtain ⟨hf, hle, hal⟩ := hy
   simp only [] at hf hle hal
   have nS := ok.nS
   simp only [vsAll, binA, binLitA, intA, opA, dstOk, Nat.reduceLT, Nat.reduceEqDiff, ↓reduceIte, eq_self]
   refine condD (fun hd => ?_) (fun hd => ?_)
   ·have hil : fs.length < h.sm.length := by ((try clear hh_i4 hh_i6 c43 c63 c64 z3 z4 z6 c43' c63' c64' j6 j6' j4 j4' j3 j3' zj); omega)
    simp only [vsAll]
    refine vs_draw2 [0, 0, 0, 1, 2, 2, 3, 4, 5] [([0, 1, 2], [1], 3), ([4, 5], [], 6), ([7], [], 8)] [] (by decide +kernel) ?_
    simp only [vsAll, loadA, loadRow, partA, partOk, fieldAddrA, okAll, stAll, opsA, opA, dstOk, Nat.reduceLT, Nat.reduceEqDiff, ↓reduceIte, eq_self, wtAll]
    refine callK (dw_tri kb i3 a 20 _ (by ((try clear hh_i4 hh_i6 c43 c63 c64 z3 z4 z6 c43' c63' c64' j6 j6' j4 j4' j3 j3' zj); omega)) (by ((try clear hh_i4 hh_i6 c43 c63 c64 z3 z4 z6 c43' c63' c64' j6 j6' j4 j4' j3 j3' zj); omega)) (by simp only [vsAll, ↓reduceIte, eq_self, hh_i4, hh_i6, j3'])) ?_
    rintro r H' ⟨v, hv, rfl, rfl⟩
    simp only [vsAll, binA, binLitA, intA, loadA, loadRow, partA, partOk, fieldAddrA, cellA, cellsA, okParts, buildSliceA, partIdx, elemsA, lensA, partsA, partsOk, opA, newCells, okCells, storeObj, appendA, dstOk, Nat.reduceAdd, Nat.reduceMul, Nat.reduceLT, Nat.reduceLeDiff, Nat.reduceEqDiff, ↓reduceIte, eq_self, wtAll, hh_i6, j6, j6', j3]
    have ea := app_ints fs (1 + v) (fun i => [[i64 (1 + v)]].getD i []) rfl
    refine ⟨by simp only [InR_i64]; ((try clear hh_i4 hh_i6 c43 c63 c64 z3 z4 z6 c43' c63' c64' j6 j6' j4 j4' j3 j3' zj); omega), fun q hq => by (have : q = 0 := by ((try clear hh_i4 hh_i6 c43 c63 c64 z3 z4 z6 c43' c63' c64' j6 j6' j4 j4' j3 j3' zj); omega)); subst this; exact ⟨rfl, trivial⟩, by ((try clear hh_i4 hh_i6 c43 c63 c64 z3 z4 z6 c43' c63' c64' j6 j6' j4 j4' j3 j3' zj); omega), by ((try clear hh_i4 hh_i6 c43 c63 c64 z3 z4 z6 c43' c63' c64' j6 j6' j4 j4' j3 j3' zj); omega), by simp only [InR_i64]; ((try clear hh_i4 hh_i6 c43 c63 c64 z3 z4 z6 c43' c63' c64' j6 j6' j4 j4' j3 j3' zj); omega), loop_next (fs ++ [1 + v], a + 1) ⟨fun x hx => ?_, by simp only [List.length_append, List.length_cons, List.length_nil]; ((try clear hh_i4 hh_i6 c43 c63 c64 z3 z4 z6 c43' c63' c64' j6 j6' j4 j4' j3 j3' zj); omega), by show a + 1 ≤ _; simp only [List.length_append, List.length_cons, List.length_nil]; ((try clear hh_i4 hh_i6 c43 c63 c64 z3 z4 z6 c43' c63' c64' j6 j6' j4 j4' j3 j3' zj); omega)⟩ (by simp only [List.length_append, List.length_cons, List.length_nil]; ((try clear hh_i4 hh_i6 c43 c63 c64 z3 z4 z6 c43' c63' c64' j6 j6' j4 j4' j3 j3' zj); omega)) ?_ ?_⟩
    ·rw [getD_snoc']
     simp only [List.length_append, List.length_cons, List.length_nil] at hx
     split
     ·((try clear hh_i4 hh_i6 c43 c63 c64 z3 z4 z6 c43' c63' c64' j6 j6' j4 j4' j3 j3' zj); omega)
     ·exact hf x (by ((try clear hh_i4 hh_i6 c43 c63 c64 z3 z4 z6 c43' c63' c64' j6 j6' j4 j4' j3 j3' zj); omega))
    ·simp only [vsAll, Nat.reduceEqDiff, ↓reduceIte, eq_self, List.length_append, Int.natCast_add, Int.natCast_one]
    ·simp only [List.length_append, List.length_cons, List.length_nil, ← ea]
     (refine HSub_eqn fun jj => ?_; refine (Classical.em (jj = i6)).elim (fun E0 => by rw [E0]; first | (left; simp only [vsAll, ↓reduceIte, reduceCtorEq, eq_self]; done) | (right; simp only [vsAll, ↓reduceIte, eq_self]; done)) (fun E0 => ?_); refine (Classical.em (jj = jf)).elim (fun E1 => by rw [E1]; first | (left; simp only [vsAll, ↓reduceIte, reduceCtorEq, eq_self, j6]; done) | (right; simp only [vsAll, ↓reduceIte, eq_self, j6]; done)) (fun E1 => ?_); refine (Classical.em (jj = i4)).elim (fun E2 => by rw [E2]; first | (left; simp only [vsAll, ↓reduceIte, reduceCtorEq, eq_self, hh_i6, j4']; done) | (right; simp only [vsAll, ↓reduceIte, eq_self, hh_i4, hh_i6, j4']; done)) (fun E2 => ?_); refine (Classical.em (jj = i3)).elim (fun E3 => by rw [E3]; first | (left; simp only [vsAll, ↓reduceIte, reduceCtorEq, eq_self, hh_i4, hh_i6, j3']; done) | (right; simp only [vsAll, ↓reduceIte, eq_self, hh_i4, hh_i6, j3']; done)) (fun E3 => ?_); right; simp only [vsAll, ↓reduceIte, eq_self, E0, E1, E2, E3])
   ·have el : fs.length = h.sm.length := by ((try clear hh_i4 hh_i6 c43 c63 c64 z3 z4 z6 c43' c63' c64' j6 j6' j4 j4' j3 j3' zj); omega)
    simp only [vsAll, ↓reduceIte, eq_self]
    refine cutG_ent (Ent.of [(3, dwAV i3 N b), (4, .ref i4 0 2 0 0), (5, intsAV u), (6, .ref i6 0 3 0 0)] (by simp only [vsAll, Nat.reduceEqDiff, ↓reduceIte, eq_self]) HSub_rfl ?_)
    refine cutG_ent (Ent.freezeBox (s' := Fr.of [(3, dwAV i3 N b), (4, .ref i4 0 2 0 0), (5, intsAV u), (6, .ref i6 0 3 0 0)]) (id := jf) (st := 1) (n := fs.length) (f := intF fs) (j := i6) (st' := 3) (n' := 1) (g := fun _ => [lkAV h.sm, lsAV h.so, .sl jf 1 fs.length]) (g' := fun _ => rkC h fs) (by simp only [vsAll, ↓reduceIte, eq_self, j6]) (Hp.set_same _ _ _) (fun t => .rfl) (fun _ _ => rfl) (fun q d hq hd => ?_) ?_)
    ·match d, hd with
     | 0, _ => exact .rfl
     | 1, _ => exact .rfl
     | 2, _ => exact .hit
    refine cutG_of (h, u, fs, i3, i4, i6, a) ⟨ok, tr, el, fun x hx => hf x (by rw [el]; exact hx), by show a ≤ 400; ((try clear hh_i4 hh_i6 c43 c63 c64 z3 z4 z6 c43' c63' c64' j6 j6' j4 j4' j3 j3' zj); omega), ⟨z3, z4, z6⟩, ⟨c43', c63', c64'⟩⟩ (by simp only [vsAll, Nat.reduceEqDiff, ↓reduceIte, eq_self]) rfl (HSub_eqn fun jj => ?_)
    unfold lwH
    by_cases e1 : jj = i6
    ·right; subst e1; simp [Hp.set]
    by_cases e2 : jj = jf
    ·left; subst e2; simp [Hp.set, j6, j4, j3, zj]
    right; simp [Hp.set, Hp.del, e1, e2]
 ·obtain ⟨h, u, fs, i3, i4, i6, a⟩ := y
  obtain ⟨ok, tr, fl, f, ha, ⟨z3, z4, z6⟩, ⟨d34, d36, d46⟩⟩ := hy
  simp only [] at ok tr fl f ha z3 z4 z6 d34 d36 d46
  have nS := ok.nS
  have hNe : h.N = h.sm.length := rfl
  have ul := tr.len
  have hTm := set_mem ok tr
  have hT6 := lkSets_lt hTm
  have hpos := tru_pos ok tr
  have hap : 0 < (agr (lkSets h) 0 0).length := List.length_pos_of_mem (agr_mem.2 ⟨hTm, Nat.and_zero _⟩)
  have d34' : ¬ i4 = i3 := fun e => d34 e.symm
  have d36' : ¬ i6 = i3 := fun e => d36 e.symm
  have d46' : ¬ i6 = i4 := fun e => d46 e.symm
  have kR := okR_of ok f
  have hwb := wsR_bd kR 0 0
  generalize hTe : lksN u h.N = T at *
  refine wps_cutG8 (m := mset [15, 104, 112]) (σ := Nat) (fun i15 => H i15 = none ∧ ¬ i15 = i3 ∧ ¬ i15 = i4 ∧ ¬ i15 = i6) (fun i15 => [(3, dwAV i3 N b), (4, .ref i4 0 2 0 0), (6, .ref i6 0 3 0 0), (7, i64 (T : Nat)), (15, .ref i15 0 2 0 0)])
   (fun i15 => (lwH H h fs i3 i4 i6 a).set i15 (.box 2 1 fun _ => (dryH h T).cs)) (fun _ => []) ?_ fun i15 hy => ?_
  ·unfold lwH
   skip
   simp only [vsAll, okAll, stAll, opsA, opA, dstOk, Nat.reduceLT, Nat.reduceEqDiff, ↓reduceIte, eq_self, Try.ntmps4]
   refine callK_pure (leaksOf_tri u _ (by ((try clear z3 z4 z6 d34 d36 d46 d34' d36' d46'); omega))) ?_
   rw [ul, hTe]
   simp only [vsAll, loadA, loadRow, partA, partOk, okAll, stAll, opsA, opA, dstOk, nilSliceOp, Nat.reduceLT, Nat.reduceEqDiff, Nat.reduceBEq, ↓reduceIte, eq_self, wtAll]
   refine callK_pure (wworst_tri h fs _ ok hpos fl f hap) ?_
   simp only [vsAll, loadA, loadRow, partA, partOk, extractA, okAll, stAll, opsA, opA, dstOk, nilSliceOp, Nat.reduceAdd, Nat.reduceLT, Nat.reduceEqDiff, Nat.reduceBEq, ↓reduceIte, eq_self, wtAll]
   refine callK (foll_tri h fs T _ ok hTm fl f) ?_
   rintro r H' ⟨l, tot, hF, h1, rfl, rfl⟩
   simp only [vsAll, loadA, loadRow, partA, partOk, extractA, okAll, stAll, opsA, opA, dstOk, nilSliceOp, Nat.reduceAdd, Nat.reduceLT, Nat.reduceEqDiff, Nat.reduceBEq, ↓reduceIte, eq_self, wtAll]
   refine callK_pure (wknown_tri h fs l _ ok hpos fl f hF.ok (hF.agr hTm)) ?_
   have hag := agr_eq hTm hF.ag h1
   have hw0 := ws_nonneg (N := h.N) (F := fsF fs) (L := lkSets h) (fun x hx => (kR.F x hx).1) (frN (knL l).1 h.N + 1) (knL l).1 (knL l).2
   have hle := hF.le
   have c1 : decide ((wsR fs h.N (lkSets h) 0 0).2 < tot) = false := decide_eq_false (by unfold wsR at hle ⊢; ((try clear z3 z4 z6 d34 d36 d46 d34' d36' d46'); omega))
   have eZ : agrZ (lkSets h) (knL l).1 (knL l).2 = [(T : Int)] := by rw [agrZ, hag]; rfl
   rw [eZ]
   have c2 : decide (((1 : Nat) : Int) = 1) = true := by decide
   have c3 : decide (((T : Nat) : Int) = (T : Nat)) = true := decide_eq_true rfl
   simp only [vsAll, binA, binLitA, intA, unA, loadA, loadRow, partA, partOk, fieldAddrA, indexAddrA, extractA, lenA, cellA, cellsA, okParts, buildMutA, partIdx, elemsA, lensA, pickA, partsA, partsOk, opA, allocA, newCells, okCells, storeObj, appendA, guardV, dstOk, nilSliceOp, Nat.reduceAdd, Nat.reduceMul, Nat.reduceLT, Nat.reduceLeDiff, Nat.reduceEqDiff, Nat.reduceBEq, Int.reduceLE, Int.reduceToNat, ↓reduceIte, implies_true, forall_const, eq_self, wtAll, d46, intF_at, c1, c2]
   refine ⟨by ((try clear z3 z4 z6 d34 d36 d46 d34' d36' d46'); omega), ?_⟩
   intro i15 hh_i15; (try simp only [ite_none] at hh_i15); intro jr hh_jr; (try simp only [ite_none] at hh_jr)
   have g2 : ¬ i15 = i3 ∧ ¬ i15 = i4 ∧ ¬ i15 = i6 ∧ ¬ jr = i15 ∧ ¬ jr = i3 ∧ ¬ jr = i4 ∧ ¬ jr = i6 ∧ H i15 = none ∧ H jr = none := by simp_all
   obtain ⟨e3, e4, e6, r15, r3, r4, r6, z15, zr⟩ := g2
   have e3' : ¬ i3 = i15 := fun e => e3 e.symm
   have e4' : ¬ i4 = i15 := fun e => e4 e.symm
   have e6' : ¬ i6 = i15 := fun e => e6 e.symm
   have r15' : ¬ i15 = jr := fun e => r15 e.symm
   have r3' : ¬ i3 = jr := fun e => r3 e.symm
   have r4' : ¬ i4 = jr := fun e => r4 e.symm
   have r6' : ¬ i6 = jr := fun e => r6 e.symm
   skip
   simp only [vsAll, Nat.reduceLT, ↓reduceIte, eq_self, hh_i15, hh_jr]
   refine ⟨fun q hq => ⟨rfl, rfl, rfl, trivial⟩, by ((try clear z3 z4 z6 d34 d36 d46 d34' d36' d46' hh_i15 hh_jr e3 e4 e6 r15 r3 r4 r6 z15 zr e3' e4' e6' r15' r3' r4' r6'); omega), by ((try clear z3 z4 z6 d34 d36 d46 d34' d36' d46' hh_i15 hh_jr e3 e4 e6 r15 r3 r4 r6 z15 zr e3' e4' e6' r15' r3' r4' r6'); omega), ?_⟩
   have hdl := dryL_len h.sm T
   refine vs_loop (σ := Nat) (fun i => i ≤ h.sm.length) (fun i => [(3, dwAV i3 N b), (4, .ref i4 0 2 0 0), (6, .ref i6 0 3 0 0), (7, i64 (T : Nat)), (15, .ref i15 0 2 0 0), (111, i64 h.sm.length), (112, i64 i)])
    (fun i => ((((H.set i3 (.box 1 1 fun _ => [i64 a])).set i4 (.box 2 1 fun _ => h.cs)).set i6 (.box 3 1 fun _ => rkC h fs)).set jr (.row 3 h.sm.length (lkF (dryL h.sm T i)))).set i15 (.box 2 1 fun _ => [.sl jr 3 h.sm.length, lsAV h.so])) (fun i => h.sm.length - i) 0 (Nat.zero_le _) ?_ ?_ fun i hi => ?_
   ·simp only [vsAll, Nat.reduceEqDiff, ↓reduceIte, eq_self, Int.natCast_zero]
   ·refine HSub_put_eq (by simp only [vsAll, ↓reduceIte, eq_self]) (HSub_put_le (o' := .row 3 h.sm.length (appF 0 h.sm.length (fun i => []) (lkF h.sm))) (by simp only [vsAll, ↓reduceIte, eq_self, hh_jr]) (row_ext fun q hq => ?_) ?_)
    ·rw [app0 _ _ _ _ hq]
     unfold lkF
     rw [dryL_at _ _ _ hq]
     unfold dryK
     rw [if_neg (fun h => absurd h.1 (Nat.not_lt_zero q))]
    ·(refine HSub_eqn fun jj => ?_; refine (Classical.em (jj = i6)).elim (fun E0 => by rw [E0]; first | (left; simp only [vsAll, ↓reduceIte, reduceCtorEq, eq_self]; done) | (right; simp only [vsAll, ↓reduceIte, eq_self, hh_i15, hh_jr]; done)) (fun E0 => ?_); refine (Classical.em (jj = i4)).elim (fun E1 => by rw [E1]; first | (left; simp only [vsAll, ↓reduceIte, reduceCtorEq, eq_self, d46]; done) | (right; simp only [vsAll, ↓reduceIte, eq_self, d46, hh_i15, hh_jr]; done)) (fun E1 => ?_); refine (Classical.em (jj = i3)).elim (fun E2 => by rw [E2]; first | (left; simp only [vsAll, ↓reduceIte, reduceCtorEq, eq_self, d34, d36]; done) | (right; simp only [vsAll, ↓reduceIte, eq_self, d34, d36, hh_i15, hh_jr]; done)) (fun E2 => ?_); refine (Classical.em (jj = i15)).elim (fun E3 => by rw [E3]; first | (left; simp only [vsAll, ↓reduceIte, eq_self, hh_i15]; done) | (right; simp only [vsAll, binA, binLitA, intA, aggA, aggV, boolA, nilA2, isConst, unA, loadA, loadRow, partA, partOk, fieldAddrA, indexAddrA, indexA, fieldA, extractA, lenA, nilCheckA, boxA, boxZ, cellA, cellsA, fillA, okParts, buildSliceA, buildMutA, makeSliceA, partIdx, elemsA, lensA, ifaceA, convA, mmA, pickA, okAll, stAll, opsA, partsA, partsOk, opA, allocA, boxMutA, newCells, okCells, storeObj, appendA, guardV, taA, nM, mapUpA, rangeA, nextA, entryA, lookA, sliceA, sliceM, sliceS, boundsA, opO, okO, copyA, dstOk, nilA, quietOk, nilSliceOp, deferV, panA, resA, argFr, retA.eq_1, retA.eq_2, Nat.reduceAdd, Nat.reduceSub, Nat.reduceMul, Nat.reduceLT, Nat.reduceLeDiff, Nat.reduceEqDiff, Nat.reduceBEq, Int.reduceAdd, Int.reduceSub, Int.reduceMul, Int.reduceNeg, Int.reduceLE, Int.reduceLT, Int.reduceEq, Int.reduceNe, Int.reduceToNat, ↓reduceIte, reduceCtorEq, implies_true, forall_const, eq_self, ne_eq, wtAll, Try.ntmps4, Try.results4, z3, z4, z6, d34, d36, d46, d34', d36', d46', hh_i15, hh_jr, e3, e4, e6, r15, r3, r4, r6, z15, zr, e3', e4', e6', r15', r3', r4', r6']; done)) (fun E3 => ?_); refine (Classical.em (jj = jr)).elim (fun E4 => by rw [E4]; first | (left; simp only [vsAll, ↓reduceIte, eq_self, hh_jr]; done) | (right; simp only [vsAll, binA, binLitA, intA, aggA, aggV, boolA, nilA2, isConst, unA, loadA, loadRow, partA, partOk, fieldAddrA, indexAddrA, indexA, fieldA, extractA, lenA, nilCheckA, boxA, boxZ, cellA, cellsA, fillA, okParts, buildSliceA, buildMutA, makeSliceA, partIdx, elemsA, lensA, ifaceA, convA, mmA, pickA, okAll, stAll, opsA, partsA, partsOk, opA, allocA, boxMutA, newCells, okCells, storeObj, appendA, guardV, taA, nM, mapUpA, rangeA, nextA, entryA, lookA, sliceA, sliceM, sliceS, boundsA, opO, okO, copyA, dstOk, nilA, quietOk, nilSliceOp, deferV, panA, resA, argFr, retA.eq_1, retA.eq_2, Nat.reduceAdd, Nat.reduceSub, Nat.reduceMul, Nat.reduceLT, Nat.reduceLeDiff, Nat.reduceEqDiff, Nat.reduceBEq, Int.reduceAdd, Int.reduceSub, Int.reduceMul, Int.reduceNeg, Int.reduceLE, Int.reduceLT, Int.reduceEq, Int.reduceNe, Int.reduceToNat, ↓reduceIte, reduceCtorEq, implies_true, forall_const, eq_self, ne_eq, wtAll, Try.ntmps4, Try.results4, z3, z4, z6, d34, d36, d46, d34', d36', d46', hh_i15, hh_jr, e3, e4, e6, r15, r3, r4, r6, z15, zr, e3', e4', e6', r15', r3', r4', r6']; done)) (fun E4 => ?_); right; simp only [vsAll, ↓reduceIte, eq_self, E0, E1, E2, E3, E4])
   ·simp only [vsAll, binA, binLitA, intA, opA, dstOk, Nat.reduceLT, Nat.reduceEqDiff, ↓reduceIte, eq_self]
    refine condD (fun hd => ?_) (fun hd => ?_)
    ·have hil : i < h.sm.length := by ((try clear z3 z4 z6 d34 d36 d46 d34' d36' d46' hh_i15 hh_jr e3 e4 e6 r15 r3 r4 r6 z15 zr e3' e4' e6' r15' r3' r4' r6'); omega)
     have hdv : (T : Int) / 2 ^ i = ((T / 2 ^ i : Nat) : Int) := by simp
     have hdl2 : T / 2 ^ i ≤ T := Nat.div_le_self _ _
     have hI : InR .i64 ((T / 2 ^ i : Nat) : Int) := by
      generalize T / 2 ^ i = z at *
      simp only [InR_i64]; ((try clear z3 z4 z6 d34 d36 d46 d34' d36' d46' hh_i15 hh_jr e3 e4 e6 r15 r3 r4 r6 z15 zr e3' e4' e6' r15' r3' r4' r6'); omega)
     have hI0 : (0 : Int) ≤ ((T / 2 ^ i : Nat) : Int) := Int.natCast_nonneg _
     rw [← hdv] at hI hI0
     simp only [vsAll, binA, binLitA, intA, opA, dstOk, nilSliceOp, Nat.reduceLT, Nat.reduceEqDiff, Nat.reduceBEq, Int.reduceLE, Int.reduceToNat, ↓reduceIte, eq_self]
     rw [bit_eqz]
     refine ⟨⟨by ((try clear z3 z4 z6 d34 d36 d46 d34' d36' d46' hh_i15 hh_jr e3 e4 e6 r15 r3 r4 r6 z15 zr e3' e4' e6' r15' r3' r4' r6'); omega), by ((try clear z3 z4 z6 d34 d36 d46 d34' d36' d46' hh_i15 hh_jr e3 e4 e6 r15 r3 r4 r6 z15 zr e3' e4' e6' r15' r3' r4' r6'); omega), by trivial⟩, ⟨hI0, hI, by simp only [InR_i64]; ((try clear z3 z4 z6 d34 d36 d46 d34' d36' d46' hh_i15 hh_jr e3 e4 e6 r15 r3 r4 r6 z15 zr e3' e4' e6' r15' r3' r4' r6'); omega)⟩, ?_⟩
     refine condV (fun hc => ?_) (fun hc => ?_)
     ·have hc : T.testBit i = false := by simpa using hc
      simp only [vsAll, binA, binLitA, intA, loadA, loadRow, partA, partOk, fieldAddrA, indexAddrA, cellA, cellsA, opA, newCells, okCells, storeObj, dstOk, Nat.reduceAdd, Nat.reduceLT, Nat.reduceEqDiff, ↓reduceIte, eq_self, wtAll, hh_jr]
      refine ⟨⟨by ((try clear z3 z4 z6 d34 d36 d46 d34' d36' d46' hh_i15 hh_jr e3 e4 e6 r15 r3 r4 r6 z15 zr e3' e4' e6' r15' r3' r4' r6'); omega), by ((try clear z3 z4 z6 d34 d36 d46 d34' d36' d46' hh_i15 hh_jr e3 e4 e6 r15 r3 r4 r6 z15 zr e3' e4' e6' r15' r3' r4' r6'); omega)⟩, hil, by simp only [InR_i64]; ((try clear z3 z4 z6 d34 d36 d46 d34' d36' d46' hh_i15 hh_jr e3 e4 e6 r15 r3 r4 r6 z15 zr e3' e4' e6' r15' r3' r4' r6'); omega), loop_next (i + 1) hil (by ((try clear z3 z4 z6 d34 d36 d46 d34' d36' d46' hh_i15 hh_jr e3 e4 e6 r15 r3 r4 r6 z15 zr e3' e4' e6' r15' r3' r4' r6'); omega)) ?_ ?_⟩
      ·simp only [vsAll, Nat.reduceEqDiff, ↓reduceIte, eq_self, Int.natCast_add, Int.natCast_one]
      ·refine HSub_put_eq (by simp only [vsAll, ↓reduceIte, eq_self, hh_jr]) (HSub_put_le (Hp.set_same _ _ _) (row_ext fun q hq => ?_) ?_)
       ·rw [updF_at hil hq]
        by_cases e : q = i
        ·subst e
         rw [if_pos rfl]
         unfold lkF
         rw [dryL_at _ _ _ hq, dryL_at _ _ _ hq]
         unfold dryK
         rw [if_neg (fun h => absurd h.1 (Nat.lt_irrefl q)), if_pos ⟨by ((try clear z3 z4 z6 d34 d36 d46 d34' d36' d46' hh_i15 hh_jr e3 e4 e6 r15 r3 r4 r6 z15 zr e3' e4' e6' r15' r3' r4' r6'); omega), hc⟩]
         rfl
        ·rw [if_neg e]
         unfold lkF
         rw [dryL_at _ _ _ hq, dryL_at _ _ _ hq]
         unfold dryK
         have e2 : (q < i) ↔ (q < i + 1) := by ((try clear z3 z4 z6 d34 d36 d46 d34' d36' d46' hh_i15 hh_jr e3 e4 e6 r15 r3 r4 r6 z15 zr e3' e4' e6' r15' r3' r4' r6'); omega)
         simp only [e2]
       ·(refine HSub_eqn fun jj => ?_; refine (Classical.em (jj = i6)).elim (fun E0 => by rw [E0]; first | (left; simp only [vsAll, ↓reduceIte, reduceCtorEq, eq_self]; done) | (right; simp only [vsAll, ↓reduceIte, eq_self, hh_i15, hh_jr]; done)) (fun E0 => ?_); refine (Classical.em (jj = i4)).elim (fun E1 => by rw [E1]; first | (left; simp only [vsAll, ↓reduceIte, reduceCtorEq, eq_self, d46]; done) | (right; simp only [vsAll, ↓reduceIte, eq_self, d46, hh_i15, hh_jr]; done)) (fun E1 => ?_); refine (Classical.em (jj = i3)).elim (fun E2 => by rw [E2]; first | (left; simp only [vsAll, ↓reduceIte, reduceCtorEq, eq_self, d34, d36]; done) | (right; simp only [vsAll, ↓reduceIte, eq_self, d34, d36, hh_i15, hh_jr]; done)) (fun E2 => ?_); refine (Classical.em (jj = i15)).elim (fun E3 => by rw [E3]; first | (left; simp only [vsAll, ↓reduceIte, eq_self, hh_i15]; done) | (right; simp only [vsAll, binA, binLitA, intA, aggA, aggV, boolA, nilA2, isConst, unA, loadA, loadRow, partA, partOk, fieldAddrA, indexAddrA, indexA, fieldA, extractA, lenA, nilCheckA, boxA, boxZ, cellA, cellsA, fillA, okParts, buildSliceA, buildMutA, makeSliceA, partIdx, elemsA, lensA, ifaceA, convA, mmA, pickA, okAll, stAll, opsA, partsA, partsOk, opA, allocA, boxMutA, newCells, okCells, storeObj, appendA, guardV, taA, nM, mapUpA, rangeA, nextA, entryA, lookA, sliceA, sliceM, sliceS, boundsA, opO, okO, copyA, dstOk, nilA, quietOk, nilSliceOp, deferV, panA, resA, argFr, retA.eq_1, retA.eq_2, Nat.reduceAdd, Nat.reduceSub, Nat.reduceMul, Nat.reduceLT, Nat.reduceLeDiff, Nat.reduceEqDiff, Nat.reduceBEq, Int.reduceAdd, Int.reduceSub, Int.reduceMul, Int.reduceNeg, Int.reduceLE, Int.reduceLT, Int.reduceEq, Int.reduceNe, Int.reduceToNat, ↓reduceIte, reduceCtorEq, implies_true, forall_const, eq_self, ne_eq, wtAll, Try.ntmps4, Try.results4, z3, z4, z6, d34, d36, d46, d34', d36', d46', hh_i15, hh_jr, e3, e4, e6, r15, r3, r4, r6, z15, zr, e3', e4', e6', r15', r3', r4', r6']; done)) (fun E3 => ?_); refine (Classical.em (jj = jr)).elim (fun E4 => by rw [E4]; first | (left; simp only [vsAll, ↓reduceIte, eq_self, hh_jr]; done) | (right; simp only [vsAll, binA, binLitA, intA, aggA, aggV, boolA, nilA2, isConst, unA, loadA, loadRow, partA, partOk, fieldAddrA, indexAddrA, indexA, fieldA, extractA, lenA, nilCheckA, boxA, boxZ, cellA, cellsA, fillA, okParts, buildSliceA, buildMutA, makeSliceA, partIdx, elemsA, lensA, ifaceA, convA, mmA, pickA, okAll, stAll, opsA, partsA, partsOk, opA, allocA, boxMutA, newCells, okCells, storeObj, appendA, guardV, taA, nM, mapUpA, rangeA, nextA, entryA, lookA, sliceA, sliceM, sliceS, boundsA, opO, okO, copyA, dstOk, nilA, quietOk, nilSliceOp, deferV, panA, resA, argFr, retA.eq_1, retA.eq_2, Nat.reduceAdd, Nat.reduceSub, Nat.reduceMul, Nat.reduceLT, Nat.reduceLeDiff, Nat.reduceEqDiff, Nat.reduceBEq, Int.reduceAdd, Int.reduceSub, Int.reduceMul, Int.reduceNeg, Int.reduceLE, Int.reduceLT, Int.reduceEq, Int.reduceNe, Int.reduceToNat, ↓reduceIte, reduceCtorEq, implies_true, forall_const, eq_self, ne_eq, wtAll, Try.ntmps4, Try.results4, z3, z4, z6, d34, d36, d46, d34', d36', d46', hh_i15, hh_jr, e3, e4, e6, r15, r3, r4, r6, z15, zr, e3', e4', e6', r15', r3', r4', r6']; done)) (fun E4 => ?_); right; simp only [vsAll, ↓reduceIte, eq_self, E0, E1, E2, E3, E4])
     ·have hc : T.testBit i = true := by simpa using hc
      simp only [vsAll, binA, binLitA, intA, opA, dstOk, Nat.reduceLT, Nat.reduceEqDiff, ↓reduceIte, eq_self]
      refine ⟨by simp only [InR_i64]; ((try clear z3 z4 z6 d34 d36 d46 d34' d36' d46' hh_i15 hh_jr e3 e4 e6 r15 r3 r4 r6 z15 zr e3' e4' e6' r15' r3' r4' r6'); omega), loop_next (i + 1) hil (by ((try clear z3 z4 z6 d34 d36 d46 d34' d36' d46' hh_i15 hh_jr e3 e4 e6 r15 r3 r4 r6 z15 zr e3' e4' e6' r15' r3' r4' r6'); omega)) ?_ ?_⟩
      ·simp only [vsAll, Nat.reduceEqDiff, ↓reduceIte, eq_self, Int.natCast_add, Int.natCast_one]
      ·refine HSub_put_eq (by simp only [vsAll, ↓reduceIte, eq_self]) (HSub_put_le (o' := .row 3 h.sm.length (lkF (dryL h.sm T i))) (by simp only [vsAll, ↓reduceIte, eq_self, hh_jr]) (row_ext fun q hq => ?_) ?_)
       ·unfold lkF
        rw [dryL_at _ _ _ hq, dryL_at _ _ _ hq]
        unfold dryK
        by_cases e : q = i
        ·subst e
         rw [if_neg (fun h => absurd h.1 (Nat.lt_irrefl q)), if_neg (fun h => by rw [hc] at h; cases h.2)]
        ·have e2 : (q < i) ↔ (q < i + 1) := by ((try clear z3 z4 z6 d34 d36 d46 d34' d36' d46' hh_i15 hh_jr e3 e4 e6 r15 r3 r4 r6 z15 zr e3' e4' e6' r15' r3' r4' r6'); omega)
         simp only [e2]
       ·(refine HSub_eqn fun jj => ?_; refine (Classical.em (jj = i6)).elim (fun E0 => by rw [E0]; first | (left; simp only [vsAll, ↓reduceIte, reduceCtorEq, eq_self]; done) | (right; simp only [vsAll, ↓reduceIte, eq_self, hh_i15, hh_jr]; done)) (fun E0 => ?_); refine (Classical.em (jj = i4)).elim (fun E1 => by rw [E1]; first | (left; simp only [vsAll, ↓reduceIte, reduceCtorEq, eq_self, d46]; done) | (right; simp only [vsAll, ↓reduceIte, eq_self, d46, hh_i15, hh_jr]; done)) (fun E1 => ?_); refine (Classical.em (jj = i3)).elim (fun E2 => by rw [E2]; first | (left; simp only [vsAll, ↓reduceIte, reduceCtorEq, eq_self, d34, d36]; done) | (right; simp only [vsAll, ↓reduceIte, eq_self, d34, d36, hh_i15, hh_jr]; done)) (fun E2 => ?_); refine (Classical.em (jj = i15)).elim (fun E3 => by rw [E3]; first | (left; simp only [vsAll, ↓reduceIte, eq_self, hh_i15]; done) | (right; simp only [vsAll, binA, binLitA, intA, aggA, aggV, boolA, nilA2, isConst, unA, loadA, loadRow, partA, partOk, fieldAddrA, indexAddrA, indexA, fieldA, extractA, lenA, nilCheckA, boxA, boxZ, cellA, cellsA, fillA, okParts, buildSliceA, buildMutA, makeSliceA, partIdx, elemsA, lensA, ifaceA, convA, mmA, pickA, okAll, stAll, opsA, partsA, partsOk, opA, allocA, boxMutA, newCells, okCells, storeObj, appendA, guardV, taA, nM, mapUpA, rangeA, nextA, entryA, lookA, sliceA, sliceM, sliceS, boundsA, opO, okO, copyA, dstOk, nilA, quietOk, nilSliceOp, deferV, panA, resA, argFr, retA.eq_1, retA.eq_2, Nat.reduceAdd, Nat.reduceSub, Nat.reduceMul, Nat.reduceLT, Nat.reduceLeDiff, Nat.reduceEqDiff, Nat.reduceBEq, Int.reduceAdd, Int.reduceSub, Int.reduceMul, Int.reduceNeg, Int.reduceLE, Int.reduceLT, Int.reduceEq, Int.reduceNe, Int.reduceToNat, ↓reduceIte, reduceCtorEq, implies_true, forall_const, eq_self, ne_eq, wtAll, Try.ntmps4, Try.results4, z3, z4, z6, d34, d36, d46, d34', d36', d46', hh_i15, hh_jr, e3, e4, e6, r15, r3, r4, r6, z15, zr, e3', e4', e6', r15', r3', r4', r6']; done)) (fun E3 => ?_); refine (Classical.em (jj = jr)).elim (fun E4 => by rw [E4]; first | (left; simp only [vsAll, ↓reduceIte, eq_self, hh_jr]; done) | (right; simp only [vsAll, binA, binLitA, intA, aggA, aggV, boolA, nilA2, isConst, unA, loadA, loadRow, partA, partOk, fieldAddrA, indexAddrA, indexA, fieldA, extractA, lenA, nilCheckA, boxA, boxZ, cellA, cellsA, fillA, okParts, buildSliceA, buildMutA, makeSliceA, partIdx, elemsA, lensA, ifaceA, convA, mmA, pickA, okAll, stAll, opsA, partsA, partsOk, opA, allocA, boxMutA, newCells, okCells, storeObj, appendA, guardV, taA, nM, mapUpA, rangeA, nextA, entryA, lookA, sliceA, sliceM, sliceS, boundsA, opO, okO, copyA, dstOk, nilA, quietOk, nilSliceOp, deferV, panA, resA, argFr, retA.eq_1, retA.eq_2, Nat.reduceAdd, Nat.reduceSub, Nat.reduceMul, Nat.reduceLT, Nat.reduceLeDiff, Nat.reduceEqDiff, Nat.reduceBEq, Int.reduceAdd, Int.reduceSub, Int.reduceMul, Int.reduceNeg, Int.reduceLE, Int.reduceLT, Int.reduceEq, Int.reduceNe, Int.reduceToNat, ↓reduceIte, reduceCtorEq, implies_true, forall_const, eq_self, ne_eq, wtAll, Try.ntmps4, Try.results4, z3, z4, z6, d34, d36, d46, d34', d36', d46', hh_i15, hh_jr, e3, e4, e6, r15, r3, r4, r6, z15, zr, e3', e4', e6', r15', r3', r4', r6']; done)) (fun E4 => ?_); right; simp only [vsAll, ↓reduceIte, eq_self, E0, E1, E2, E3, E4])
    ·have ei : i = h.sm.length := by ((try clear z3 z4 z6 d34 d36 d46 d34' d36' d46' hh_i15 hh_jr e3 e4 e6 r15 r3 r4 r6 z15 zr e3' e4' e6' r15' r3' r4' r6'); omega)
     subst ei
     simp only [vsAll, ↓reduceIte, eq_self]
     refine cutG_ent (Ent.of [(3, dwAV i3 N b), (4, .ref i4 0 2 0 0), (6, .ref i6 0 3 0 0), (7, i64 (T : Nat)), (15, .ref i15 0 2 0 0)] (by simp only [vsAll, Nat.reduceEqDiff, ↓reduceIte, eq_self]) HSub_rfl ?_)
     refine cutG_ent (Ent.freezeBox (s' := Fr.of [(3, dwAV i3 N b), (4, .ref i4 0 2 0 0), (6, .ref i6 0 3 0 0), (7, i64 (T : Nat)), (15, .ref i15 0 2 0 0)]) (id := jr) (st := 3) (n := h.sm.length) (f := lkF (dryL h.sm T h.sm.length)) (j := i15) (st' := 2) (n' := 1) (g := fun _ => [.sl jr 3 h.sm.length, lsAV h.so]) (g' := fun _ => (dryH h T).cs) (by simp only [vsAll, ↓reduceIte, eq_self, hh_jr]) (Hp.set_same _ _ _) (fun t => .rfl) (fun _ _ => rfl) (fun q d hq hd => ?_) ?_)
     ·match d, hd with
      | 0, _ =>
        have e : lkAV (dryL h.sm T h.sm.length) = .rsl h.sm.length 3 (lkF (dryL h.sm T h.sm.length)) := by rw [lkAV, dryL_len]
        show Frz jr 3 h.sm.length (lkF (dryL h.sm T h.sm.length)) (.sl jr 3 h.sm.length) (lkAV (dryL h.sm T h.sm.length))
        rw [e]; exact .hit
      | 1, _ => exact .rfl
     refine cutG_of i15 ⟨z15, e3, e4, e6⟩ (by simp only [vsAll, Nat.reduceEqDiff, ↓reduceIte, eq_self]) rfl (HSub_eqn fun jj => ?_)
     by_cases q1 : jj = i15
     ·right; subst q1; simp [Hp.set]
     by_cases q2 : jj = jr
     ·left; subst q2; simp [Hp.set, r15, r3, r4, r6, zr]
     right; simp [Hp.set, Hp.del, q1, q2]
  ·obtain ⟨z15, e3, e4, e6⟩ := hy
   have e3' : ¬ i3 = i15 := fun e => e3 e.symm
   have e4' : ¬ i4 = i15 := fun e => e4 e.symm
   have e6' : ¬ i6 = i15 := fun e => e6 e.symm
   have kd := dryH_ok ok T
   have hdp := dry_pos ok tr
   have hdo := dry_or ok tr
   have hdf := dry_flow ok tr
   rw [hTe] at hdp hdo
   simp only [hTe] at hdf
   have hds : ∀ s, s ∈ lkSets (dryH h T) → s ^^^ (s &&& T) = 0 := fun s hs => Nat.eq_of_testBit_eq fun j => by
    rw [Nat.testBit_xor, Nat.testBit_and, Nat.zero_testBit]
    cases hb : s.testBit j with
    | false => rfl
    | true => rw [dry_sets ok hs hb]; rfl
   refine wps_vs (m := mset [29, 31]) ?_
   unfold lwH
   skip
   simp only [vsAll, loadA, loadRow, partA, partOk, okAll, stAll, opsA, opA, dstOk, Nat.reduceLT, Nat.reduceEqDiff, ↓reduceIte, eq_self, wtAll, Try.ntmps4]
   refine callK_pure (wlleaks_tri (dryH h T) _ kd hdp) ?_
   rw [hdo]
   simp only [vsAll, loadA, loadRow, partA, partOk, extractA, okAll, stAll, opsA, opA, dstOk, nilSliceOp, Nat.reduceAdd, Nat.reduceLT, Nat.reduceEqDiff, Nat.reduceBEq, ↓reduceIte, eq_self, wtAll]
   refine callK_pure (wlsets_tri (dryH h T) _ kd hdp) ?_
   simp only [vsAll, binA, binLitA, intA, extractA, lenA, pickA, opA, guardV, dstOk, nilSliceOp, Nat.reduceAdd, Nat.reduceLT, Nat.reduceEqDiff, Nat.reduceBEq, ↓reduceIte, implies_true, eq_self, wtAll]
   have hsl := lkSets_len (dryH h T)
   have eLl : ((lkSets (dryH h T)).map fun s : Nat => (s : Int)).length = (lkSets (dryH h T)).length := List.length_map _
   refine vs_loop (σ := Nat) (fun i => i ≤ (lkSets (dryH h T)).length) (fun i => [(3, dwAV i3 N b), (4, .ref i4 0 2 0 0), (6, .ref i6 0 3 0 0), (7, i64 (T : Nat)), (15, .ref i15 0 2 0 0), (148, setAV (dryH h T)), (149, i64 (lkSets (dryH h T)).length), (150, i64 i)])
    (fun _ => (((H.set i3 (.box 1 1 fun _ => [i64 a])).set i4 (.box 2 1 fun _ => h.cs)).set i6 (.box 3 1 fun _ => rkC h fs)).set i15 (.box 2 1 fun _ => (dryH h T).cs)) (fun i => (lkSets (dryH h T)).length - i) 0 (Nat.zero_le _) ?_ HSub_rfl fun i hi => ?_
   ·simp only [vsAll, Nat.reduceEqDiff, ↓reduceIte, eq_self, Int.natCast_zero, eLl]
    exact AV.Le.of_eq (by show _ = AV.rsl ((lkSets (dryH h T)).map fun s : Nat => (s : Int)).length 1 _; rw [eLl])
   ·simp only [vsAll, binA, binLitA, intA, opA, dstOk, Nat.reduceLT, Nat.reduceEqDiff, ↓reduceIte, eq_self]
    refine condD (fun hd => ?_) (fun hd => ?_)
    ·have hil : i < (lkSets (dryH h T)).length := by ((try clear z3 z4 z6 d34 d36 d46 d34' d36' d46' z15 e3 e4 e6 e3' e4' e6'); omega)
     have hsm : (lkSets (dryH h T)).getD i 0 ∈ lkSets (dryH h T) := by rw [List.getD_eq_getElem?_getD, List.getElem?_eq_getElem hil]; exact List.getElem_mem hil
     have hs6 := lkSets_lt hsm
     have hs0 := hds _ hsm
     have eS : ((lkSets (dryH h T)).map fun s : Nat => (s : Int)).getD i 0 = (((lkSets (dryH h T)).getD i 0 : Nat) : Int) := by simp [List.getD_eq_getElem?_getD, hil]
     have eN : (((lkSets (dryH h T)).getD i 0 : Nat) : Int).toNat ^^^ ((((lkSets (dryH h T)).getD i 0 : Nat) : Int).toNat &&& ((T : Nat) : Int).toNat) = 0 := hs0
     simp only [vsAll, binA, binLitA, intA, loadA, loadRow, partA, partOk, indexAddrA, opA, dstOk, nilSliceOp, Nat.reduceLT, Nat.reduceEqDiff, Nat.reduceBEq, ↓reduceIte, eq_self, wtAll, intF_at, eS]
     generalize (lkSets (dryH h T)).getD i 0 = s at *
     rw [hs0]
     refine ⟨⟨by ((try clear z3 z4 z6 d34 d36 d46 d34' d36' d46' z15 e3 e4 e6 e3' e4' e6'); omega), by rw [eLl]; ((try clear z3 z4 z6 d34 d36 d46 d34' d36' d46' z15 e3 e4 e6 e3' e4' e6'); omega)⟩, by rw [eLl]; exact hil, ⟨by ((try clear z3 z4 z6 d34 d36 d46 d34' d36' d46' z15 e3 e4 e6 e3' e4' e6'); omega), by ((try clear z3 z4 z6 d34 d36 d46 d34' d36' d46' z15 e3 e4 e6 e3' e4' e6'); omega), by simp only [InR_i64]; ((try clear z3 z4 z6 d34 d36 d46 d34' d36' d46' z15 e3 e4 e6 e3' e4' e6'); omega), by simp only [InR_i64]; ((try clear z3 z4 z6 d34 d36 d46 d34' d36' d46' z15 e3 e4 e6 e3' e4' e6'); omega)⟩, ?_⟩
     have cz : decide (((0 : Nat) : Int) = 0) = true := by decide
     simp only [vsAll, binA, binLitA, intA, opA, dstOk, Nat.reduceLT, Nat.reduceEqDiff, ↓reduceIte, eq_self, cz]
     refine ⟨by simp only [InR_i64]; ((try clear z3 z4 z6 d34 d36 d46 d34' d36' d46' z15 e3 e4 e6 e3' e4' e6'); omega), loop_next (i + 1) hil (by ((try clear z3 z4 z6 d34 d36 d46 d34' d36' d46' z15 e3 e4 e6 e3' e4' e6'); omega)) ?_ HSub_rfl⟩
     simp only [vsAll, Nat.reduceEqDiff, ↓reduceIte, eq_self, Int.natCast_add, Int.natCast_one]
     done
    ·simp only [vsAll, loadA, loadRow, partA, partOk, okAll, stAll, opsA, opA, dstOk, Nat.reduceLT, Nat.reduceEqDiff, ↓reduceIte, eq_self, wtAll, d46, e4']
     refine callK_pure (wlleaks_tri h _ ok hpos) ?_
     simp only [vsAll, extractA, okAll, stAll, opsA, opA, dstOk, nilSliceOp, Nat.reduceAdd, Nat.reduceLT, Nat.reduceEqDiff, Nat.reduceBEq, ↓reduceIte, eq_self]
     refine callK (dw_tri kb i3 a 13 _ (by ((try clear z3 z4 z6 d34 d36 d46 d34' d36' d46' z15 e3 e4 e6 e3' e4' e6'); omega)) (by ((try clear z3 z4 z6 d34 d36 d46 d34' d36' d46' z15 e3 e4 e6 e3' e4' e6'); omega)) (by simp only [vsAll, ↓reduceIte, eq_self, d34, d36, e3'])) ?_
     rintro r H' ⟨d, hd', rfl, rfl⟩
     simp only [vsAll, okAll, stAll, opsA, opA, dstOk, Nat.reduceLT, Nat.reduceEqDiff, ↓reduceIte, eq_self]
     refine callK (dw_tri kb i3 (a + 1) 7 _ (by ((try clear z3 z4 z6 d34 d36 d46 d34' d36' d46' z15 e3 e4 e6 e3' e4' e6'); omega)) (by ((try clear z3 z4 z6 d34 d36 d46 d34' d36' d46' z15 e3 e4 e6 e3' e4' e6'); omega)) (by simp only [vsAll, ↓reduceIte, eq_self])) ?_
     rintro r H' ⟨l, hl', rfl, rfl⟩
     simp only [vsAll, binA, binLitA, intA, loadA, loadRow, partA, partOk, okAll, stAll, opsA, opA, dstOk, nilSliceOp, Nat.reduceLT, Nat.reduceEqDiff, Nat.reduceBEq, ↓reduceIte, eq_self, wtAll, d46, d34', e4']
     refine ⟨by simp only [InR_i64]; ((try clear z3 z4 z6 d34 d36 d46 d34' d36' d46' z15 e3 e4 e6 e3' e4' e6'); omega), ?_⟩
     refine callK_pure (wlflow_tri h d (l - 3) _ ok hpos (by ((try clear z3 z4 z6 d34 d36 d46 d34' d36' d46' z15 e3 e4 e6 e3' e4' e6'); omega)) (by ((try clear z3 z4 z6 d34 d36 d46 d34' d36' d46' z15 e3 e4 e6 e3' e4' e6'); omega))) ?_
     simp only [vsAll, loadA, loadRow, partA, partOk, extractA, cellA, okAll, stAll, opsA, opA, allocA, newCells, okCells, storeObj, dstOk, nilSliceOp, Nat.reduceAdd, Nat.reduceLT, Nat.reduceEqDiff, Nat.reduceBEq, ↓reduceIte, eq_self, wtAll, e3]
     intro i29 hh_i29; (try simp only [ite_none] at hh_i29)
     have g3 : ¬ i29 = i3 ∧ ¬ i29 = i4 ∧ ¬ i29 = i6 ∧ ¬ i29 = i15 ∧ H i29 = none := by simp_all
     obtain ⟨m3, m4, m6, m15, z29⟩ := g3
     have m3' : ¬ i3 = i29 := fun e => m3 e.symm
     have m4' : ¬ i4 = i29 := fun e => m4 e.symm
     have m6' : ¬ i6 = i29 := fun e => m6 e.symm
     have m15' : ¬ i15 = i29 := fun e => m15 e.symm
     skip
     simp only [vsAll, Nat.reduceLT, ↓reduceIte, eq_self, hh_i29]
     refine callK_pure (wlflow_tri (dryH h T) d (l - 3) _ kd hdp (by ((try clear z3 z4 z6 d34 d36 d46 d34' d36' d46' z15 e3 e4 e6 e3' e4' e6' hh_i29 m3 m4 m6 m15 z29 m3' m4' m6' m15'); omega)) (by ((try clear z3 z4 z6 d34 d36 d46 d34' d36' d46' z15 e3 e4 e6 e3' e4' e6' hh_i29 m3 m4 m6 m15 z29 m3' m4' m6' m15'); omega))) ?_
     simp only [vsAll, binA, binLitA, intA, loadA, loadRow, partA, partOk, fieldAddrA, extractA, cellA, pickA, opA, allocA, newCells, okCells, storeObj, guardV, dstOk, nilSliceOp, Nat.reduceAdd, Nat.reduceLT, Nat.reduceEqDiff, Nat.reduceBEq, ↓reduceIte, implies_true, forall_const, eq_self, wtAll, d36', e6', hh_i29]
     intro i31 hh_i31; (try simp only [ite_none] at hh_i31)
     have g4 : ¬ i31 = i3 ∧ ¬ i31 = i4 ∧ ¬ i31 = i6 ∧ ¬ i31 = i15 ∧ ¬ i31 = i29 ∧ H i31 = none := by simp_all
     obtain ⟨p3, p4, p6, p15, p29, z31⟩ := g4
     have p3' : ¬ i3 = i31 := fun e => p3 e.symm
     have p4' : ¬ i4 = i31 := fun e => p4 e.symm
     have p6' : ¬ i6 = i31 := fun e => p6 e.symm
     have p15' : ¬ i15 = i31 := fun e => p15 e.symm
     have p29' : ¬ i29 = i31 := fun e => p29 e.symm
     skip
     have hfl := hdf d (l - 3)
     have cL : decide ((flV (dryH h T) d (l - 3)).1 ≥ (flV h d (l - 3)).1) = true := decide_eq_true hfl.1
     have cR : decide ((flV (dryH h T) d (l - 3)).2 ≤ (flV h d (l - 3)).2) = true := decide_eq_true hfl.2
     simp only [vsAll, Nat.reduceLT, ↓reduceIte, eq_self, hh_i31, cL, cR]
     have hlb := lenV_bd (fs := fs) (fun x hx => f x (by ((try clear z3 z4 z6 d34 d36 d46 d34' d36' d46' z15 e3 e4 e6 e3' e4' e6' hh_i29 m3 m4 m6 m15 z29 m3' m4' m6' m15' hh_i31 p3 p4 p6 p15 p29 z31 p3' p4' p6' p15' p29'); omega))) T fs.length (Nat.le_refl _)
     have cE : decide ((0 : Int) ≤ lenV fs T fs.length) = true := decide_eq_true hlb.1
     refine gcall (i64 (lenV fs T fs.length)) (fun g => ⟨by simp only [vsAll, opA], by simp only [vsAll, okAll, opsA, opA, Nat.reduceEqDiff, ↓reduceIte, eq_self], length_tri h fs T _ (by ((try clear z3 z4 z6 d34 d36 d46 d34' d36' d46' z15 e3 e4 e6 e3' e4' e6' hh_i29 m3 m4 m6 m15 z29 m3' m4' m6' m15' hh_i31 p3 p4 p6 p15 p29 z31 p3' p4' p6' p15' p29'); omega)) (fun x hx => f x (by ((try clear z3 z4 z6 d34 d36 d46 d34' d36' d46' z15 e3 e4 e6 e3' e4' e6' hh_i29 m3 m4 m6 m15 z29 m3' m4' m6' m15' hh_i31 p3 p4 p6 p15 p29 z31 p3' p4' p6' p15' p29'); omega))) (by ((try clear z3 z4 z6 d34 d36 d46 d34' d36' d46' z15 e3 e4 e6 e3' e4' e6' hh_i29 m3 m4 m6 m15 z29 m3' m4' m6' m15' hh_i31 p3 p4 p6 p15 p29 z31 p3' p4' p6' p15' p29'); omega))⟩) ?_
     simp only [vsAll, binA, binLitA, intA, pickA, opA, guardV, dstOk, Nat.reduceLT, Nat.reduceEqDiff, ↓reduceIte, implies_true, eq_self, cE]
     refine gcall (boo true) (fun g => ⟨by simp only [vsAll, opA], by simp only [okAll, opsA], alive_tri _⟩) ?_
     simp only [vsAll, pickA, opA, dstOk, nilSliceOp, resA, retA.eq_1, Nat.reduceLT, Nat.reduceEqDiff, Nat.reduceBEq, ↓reduceIte, implies_true, eq_self, Try.results4]
     exact dropR_pure rfl (by (repeat (first | exact HSub_rfl | refine HSub_put_eq (by simp only [vsAll, ↓reduceIte, eq_self, reduceCtorEq, Nat.reduceEqDiff, z3, z4, z6, d34, d36, d46, d34', d36', d46', z15, e3, e4, e6, e3', e4', e6', hh_i29, m3, m4, m6, m15, z29, m3', m4', m6', m15', hh_i31, p3, p4, p6, p15, p29, z31, p3', p4', p6', p15', p29']) ?_ | refine HSub_drop2 (by simp only [eq_self, z3, z4, z6, z15, hh_i29, hh_i31]) ?_ | refine HSub_keep_eq (by simp only [vsAll, ↓reduceIte, eq_self, reduceCtorEq, Nat.reduceEqDiff, z3, z4, z6, d34, d36, d46, d34', d36', d46', z15, e3, e4, e6, e3', e4', e6', hh_i29, m3, m4, m6, m15, z29, m3', m4', m6', m15', hh_i31, p3, p4, p6, p15, p29, z31, p3', p4', p6', p15', p29']) ?_)))
end Go.Proofs.Ytclkjifgipcamaa
end
section
set_option linter.unusedVariables false
set_option linter.unusedSimpArgs false
set_option maxRecDepth 100000
namespace Go.Proofs.Ytclkjifgipcamaa
open Go.V Go.ChangeShapes Go.WideShapes Go.ChangeAt Go.RowKit
theorem Try.own : ownKnob Try.prog.godebug = none := by kernel_rfl
theorem u4 : Try.prog.underlying 4 = some .bool := by kernel_rfl
theorem u22 : Try.prog.underlying 22 = some (.slice 76) := by kernel_rfl
def iz : Value → Int
 | .int _ n => n
 | _ => 0
theorem by_rel {H : Type} {enc : TypeId × Value → H} {W : World} {sp : Nat → Bool} {held : Bool} {v : Value} {d : DataW H} {ps : List MemPlace} {base : Nat}
  (hv : Value.okWide Try.prog W .any base 22 v) (h : DataW.Trod enc Try.prog W 0 sp held 22 v d ps) : ∃ (N : Nat) (b : Nat → Int), OkB N b ∧ VRel (st0 W) (.rsl N 1 (byF b)) v := by
 obtain ⟨a, len, cap, rfl⟩ := okWide_slice u22 hv
 obtain ⟨fuel, h⟩ := h
 obtain ⟨n, g, hn, hl, hr⟩ := trod_slice_rel (d := 4) (e := 76) (ks := [.int .u16]) u22 (by decide +kernel) (by decide +kernel) (by decide) (show DataW.trod enc Try.prog W 0 sp held fuel 22 [.slice a len cap] = some (d, ps) from h)
 have key : ∀ i, i < n → ∃ z : Int, g i = [.int .u16 z] ∧ 0 ≤ z ∧ z ≤ 65535 := fun i hi => by
  obtain ⟨h1, h2⟩ := hl i hi
  match hg : g i, h1 with
  | [x], _ =>
    obtain ⟨z, rfl, hz⟩ := h2 0 (.int .u16) x rfl (by rw [hg]; rfl)
    refine ⟨z, rfl, ?_⟩
    simp [Lit.wf, IntKind.min, IntKind.max, IntKind.signed, IntKind.bits] at hz
    omega
 have hm : maxLen < 2 ^ 63 := by decide
 refine ⟨n, fun i => iz ((g i).getD 0 undef), ⟨by omega, fun i hi => ?_⟩, AV.Le.rsl (fun i hi => ?_) _ _ hr⟩
 ·obtain ⟨z, e, hz⟩ := key i hi
  simp only [e]; exact hz
 ·obtain ⟨z, e, hz⟩ := key i hi
  simp only [e]; simp only [byF, e]; rfl
end Go.Proofs.Ytclkjifgipcamaa
end
section
set_option linter.unusedVariables false
set_option linter.unusedSimpArgs false
set_option maxRecDepth 100000
namespace Go.Proofs.Ytclkjifgipcamaa
open Go.V Go.ChangeShapes Go.WideShapes Go.ChangeAt Go.RowKit
theorem topRaked_lifted (os : Os) (started : os.Started) (H : Type) (enc : TypeId × Value → H) :
  ReturnsInHanded {} Try.checked os 4 .any (Rows.topRakedSpec.pre6 enc Try.prog Try.f4 Rows.topRakedRow.domain false) (Rows.topRakedSpec.post enc Try.prog Try.f4 false true false false) := by
 refine returnsInHanded_of_change (C := Try.checked) Try.own started (by kernel_rfl) Try.func4
  (ChangeSpec.witness6 (enc := enc) (C := Try.checked) false ⟨#[], #[.slice none 0 0], []⟩ 8 (by kernel_rfl) (by kernel_rfl) (by kernel_rfl) (by kernel_rfl)) ?_
 intro W base args ds gs before hval hW hcnd _
 have hW' := hW
 obtain ⟨p, q, hA, hV, rfl, hfz, hnd⟩ := hW
 obtain ⟨rfl, rfl⟩ := trodVars_none hV
 rw [show Try.f4.params.toList = [22] from by kernel_rfl] at hA
 obtain ⟨v0, d0, rfl, rfl, h0⟩ := trodAll_one hA
 have hval : ∀ (j : Nat) t v, Try.f4.params[j]? = some t → (#[v0] : Array Value)[j]? = some v → Value.okWide Try.prog W .any base t v := hval
 rw [show Try.f4.params = #[22] from by kernel_rfl] at hval
 obtain ⟨N0, x0, b0, r0⟩ := by_rel (hval 0 22 v0 rfl rfl) h0
 refine (law_calls (W := W) (args := #[v0]) Try.func4 (by kernel_rfl) rfl (Tri.mono (raked_law N0 x0 H0 b0) ?_) (fun p hp => by cases hp) ⟨rfl, fun k hk => match k, hk with | 0, _ => r0⟩).mono fun e W' he => ?_
 ·rintro r H' ⟨rfl, _⟩; rfl
 ·obtain ⟨rfl, hh, ho, hp⟩ := he
  exact ⟨_, rfl, law_post (d := 6) rfl (tb := 4) (by kernel_rfl) u4 (by decide +kernel) hW' rfl hh ho hp⟩

theorem topRaked_holds : Rows.TopRakedSaid :=
 OpenClaim.holds_of_wide (p := Try.pinned) (s := Rows.topRakedSpec) (c := Rows.topRakedRow) 4 Try.f4 rfl rfl rfl rfl rfl rfl rfl ⟨rfl, rfl, rfl, rfl, rfl⟩ rfl rfl rfl rfl rfl (by kernel_rfl) Try.func4 (by kernel_rfl)
  (of_decide_eq_true (by kernel_rfl)) (by unfold Func.isWrapper; first | (rw [if_pos (by decide +kernel)]; kernel_rfl) | (rw [if_neg (by decide +kernel)]; exact ⟨rfl, rfl⟩))
  (fun os started H enc _ => topRaked_lifted os started H enc)

end Go.Proofs.Ytclkjifgipcamaa
end
