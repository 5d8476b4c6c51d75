/- WHAT IS PROVED: the given statement of this claim. Conditions: none beyond the given row. -/
import Derived.Test.YtclkjifgipcamaaRows
import Derived.ChangeVars
import Derived.Test.YtclkjifgipcamaaAf5
section
set_option linter.unusedVariables false
set_option linter.unusedSimpArgs false
set_option maxHeartbeats 4000000
set_option maxRecDepth 100000
namespace Go.Proofs.Ytclkjifgipcamaa
open Go.V Wl Pm
/-- Seams are drawn. -/
structure AfA (H : Hp) (sm : List Lk) (u : List Int) (i3 i4 i5 a : Nat) : Prop where
 s : SmB sm u
 l1 : 1 ≤ sm.length
 a : a ≤ 30
 z : H i3 = none ∧ H i4 = none ∧ H i5 = none
 d : ¬ i3 = i4 ∧ ¬ i3 = i5 ∧ ¬ i4 = i5
def afH (H : Hp) (i3 i4 i5 a : Nat) (x : List AV) (u : List Int) : Hp := ((H.set i3 (.box 1 1 fun _ => [i64 a])).set i4 (.box 2 1 fun _ => x)).set i5 (.box 1 1 fun _ => [intsAV u])
theorem afloat_law (N : Nat) (b : Nat → Int) (H : Hp) (kb : OkB N b) : PTri Try.prog (fnA 3) [.rsl N 1 (byF b)] H (boo true) := by
 refine Tri.drop ?_
 refine tri_wm Try.func3 (by kernel_rfl) rfl (by simp only [List.length_append, List.length_cons, List.length_nil, Try.ntmps3]; decide) ?_
 refine wps_cutG5 (m := mset [4, 5]) (σ := List Lk × List Int × Nat × Nat × Nat × Nat) (fun y => AfA H y.1 y.2.1 y.2.2.1 y.2.2.2.1 y.2.2.2.2.1 y.2.2.2.2.2)
  (fun y => [(3, dwfAV y.2.2.1 N b), (4, .ref y.2.2.2.1 0 2 0 0), (5, .ref y.2.2.2.2.1 0 1 0 0)])
  (fun y => afH H y.2.2.1 y.2.2.2.1 y.2.2.2.2.1 y.2.2.2.2.2 [lkAV y.1, .lit (.slice none 0 0)] y.2.1) (fun _ => []) ?_ fun y hy => ?_
 ·simp only [vsAll, okAll, stAll, opsA, opA, dstOk, nilSliceOp, argFr, Nat.reduceLT, Nat.reduceBEq, ↓reduceIte, reduceCtorEq, eq_self, Try.ntmps3]
  refine callK (dwfs_tri N b _) ?_
  rintro r H' ⟨i3, z3, rfl, rfl⟩
  simp only [vsAll, okAll, stAll, opsA, opA, allocA, dstOk, nilSliceOp, Nat.reduceAdd, Nat.reduceLT, Nat.reduceEqDiff, Nat.reduceBEq, ↓reduceIte, eq_self, wtAll]
  intro i4 Bc; (try simp only [ite_none] at Bc); intro i5 B7; (try simp only [ite_none] at B7)
  have g1 : ¬ i4 = i3 ∧ ¬ i5 = i3 ∧ ¬ i5 = i4 ∧ H i4 = none ∧ H i5 = none := by simp_all
  obtain ⟨c43, c53, c54, z4, z5⟩ := g1
  have c43' : ¬ i3 = i4 := fun e => c43 e.symm
  have c53' : ¬ i3 = i5 := fun e => c53 e.symm
  have c54' : ¬ i4 = i5 := fun e => c54 e.symm
  skip
  refine callK (dwf_tri kb i3 0 4 _ (by ((try clear Bc B7 c43 c53 c54 z3 z4 z5 c43' c53' c54'); omega)) (by ((try clear Bc B7 c43 c53 c54 z3 z4 z5 c43' c53' c54'); omega)) (by simp only [vsAll, ↓reduceIte, eq_self, Bc, B7, Int.natCast_zero])) ?_
  rintro r H' ⟨v, hv, rfl, rfl⟩
  obtain ⟨m, rfl⟩ : ∃ m : Nat, v = (m : Int) := ⟨v.toNat, by ((try clear Bc B7 c43 c53 c54 z3 z4 z5 c43' c53' c54'); omega)⟩
  simp only [vsAll, binA, binLitA, intA, opA, dstOk, Nat.reduceLT, ↓reduceIte, eq_self]
  refine ⟨by simp only [InR_i64]; ((try clear Bc B7 c43 c53 c54 z3 z4 z5 c43' c53' c54'); omega), ?_⟩
  refine vs_entL (Ent.nilBox 3 (lkF []) (fun id _ => [.sl id 3 0, .lit (.slice none 0 0)]) (j := i4) (st' := 2) (n' := 1) (g := fun _ => [.lit (.slice none 0 0), .lit (.slice none 0 0)]) (by simp only [vsAll, ↓reduceIte, eq_self, Bc, B7]) (fun _ _ _ => rfl) (fun id q d hq hd => ?_) fun ir hir => ?_)
  ·match d, hd with
   | 0, _ => exact .hit
   | 1, _ => exact .rfl
  simp only [Hp.set_none] at hir
  obtain ⟨_, ⟨r5, r5'⟩, ⟨r4, r4'⟩, ⟨r3, r3'⟩, zr⟩ := hir
  skip
  refine vs_entL (Ent.nilBox 1 (intF []) (fun id _ => [.sl id 1 0]) (j := i5) (st' := 1) (n' := 1) (g := fun _ => [.lit (.slice none 0 0)]) (by simp only [vsAll, ↓reduceIte, eq_self, B7, r5']) (fun _ _ _ => rfl) (fun id q d hq hd => ?_) fun jr hjr => ?_)
  ·match d, hd with
   | 0, _ => exact .hit
  simp only [Hp.set_none] at hjr
  obtain ⟨⟨q4, q4'⟩, ⟨qr, qr'⟩, ⟨q3, q3'⟩, ⟨q5, q5'⟩, _, _, zq⟩ := hjr
  skip
  have hadS : ∀ (l : List Lk) (x : Lk) (G : Nat → List AV), G 0 = x.cs → appF l.length 1 (lkF l) G = lkF (l ++ [x]) := fun l x G hG => app_lF (fun x : Lk => x.cs) lk0 l x G hG
  refine vs_loop (σ := Nat × List Lk × List Int) (fun y => SmB y.2.1 y.2.2 ∧ y.2.1.length ≤ m + 1 ∧ y.1 ≤ 1 + 5 * y.2.1.length) (fun y => [(3, dwfAV i3 N b), (4, .ref i4 0 2 0 0), (5, .ref i5 0 1 0 0), (45, i64 (m + 1 : Nat)), (46, i64 y.2.1.length)])
   (fun y => ((((H.set i3 (.box 1 1 fun _ => [i64 y.1])).set ir (.row 3 y.2.1.length (lkF y.2.1))).set jr (.row 1 y.2.2.length (intF y.2.2))).set i4 (.box 2 1 fun _ => [.sl ir 3 y.2.1.length, .lit (.slice none 0 0)])).set i5 (.box 1 1 fun _ => [.sl jr 1 y.2.2.length])) (fun y => m + 1 - y.2.1.length) (1, [], []) ⟨SmB.nil, Nat.zero_le _, Nat.le_refl _⟩ ?_ ?_ fun y hy => ?_
  ·simp only [vsAll, Nat.reduceEqDiff, ↓reduceIte, eq_self, Int.natCast_zero, Int.natCast_add, Int.natCast_one, Int.add_comm]
  ·simp only [List.length_nil]
   (refine HSub_eqn fun jj => ?_; refine (Classical.em (jj = i5)).elim (fun E0 => by rw [E0]; first | (left; simp only [vsAll, ↓reduceIte, reduceCtorEq, eq_self]; done) | (right; simp only [vsAll, ↓reduceIte, eq_self]; done)) (fun E0 => ?_); refine (Classical.em (jj = i4)).elim (fun E1 => by rw [E1]; first | (left; simp only [vsAll, ↓reduceIte, reduceCtorEq, eq_self, B7]; done) | (right; simp only [vsAll, ↓reduceIte, eq_self, B7, q4']; done)) (fun E1 => ?_); refine (Classical.em (jj = jr)).elim (fun E2 => by rw [E2]; first | (left; simp only [vsAll, ↓reduceIte, reduceCtorEq, eq_self, q5, q4]; done) | (right; simp only [vsAll, ↓reduceIte, eq_self, q5, q4]; done)) (fun E2 => ?_); refine (Classical.em (jj = ir)).elim (fun E3 => by rw [E3]; first | (left; simp only [vsAll, ↓reduceIte, reduceCtorEq, eq_self, r4, r5, qr']; done) | (right; simp only [vsAll, ↓reduceIte, eq_self, r4, r5, qr']; done)) (fun E3 => ?_); refine (Classical.em (jj = i3)).elim (fun E4 => by rw [E4]; first | (left; simp only [vsAll, ↓reduceIte, reduceCtorEq, eq_self, Bc, B7, r3', q3']; done) | (right; simp only [vsAll, ↓reduceIte, eq_self, Bc, B7, r3', q3']; done)) (fun E4 => ?_); right; simp only [vsAll, ↓reduceIte, eq_self, E0, E1, E2, E3, E4])
  ·obtain ⟨a, sm, u⟩ := y
   obtain ⟨hs, hle, hal⟩ := hy
   simp only [] at hs hle hal
   have hul := hs.len
   simp only [hul]
   simp only [vsAll, binA, binLitA, intA, opA, dstOk, Nat.reduceLT, Nat.reduceEqDiff, ↓reduceIte, eq_self]
   refine condD (fun hd => ?_) (fun hd => ?_)
   ·have his : sm.length < m + 1 := by ((try clear Bc B7 c43 c53 c54 z3 z4 z5 c43' c53' c54' r4 r4' r5 r5' r3 r3' zr q5 q5' q4 q4' qr qr' q3 q3' zq); omega)
    simp only [vsAll, okAll, stAll, opsA, opA, dstOk, Nat.reduceLT, Nat.reduceEqDiff, ↓reduceIte, eq_self]
    refine callK (dwf_tri kb i3 a 5 _ (by ((try clear Bc B7 c43 c53 c54 z3 z4 z5 c43' c53' c54' r4 r4' r5 r5' r3 r3' zr q5 q5' q4 q4' qr qr' q3 q3' zq); omega)) (by ((try clear Bc B7 c43 c53 c54 z3 z4 z5 c43' c53' c54' r4 r4' r5 r5' r3 r3' zr q5 q5' q4 q4' qr qr' q3 q3' zq); omega)) (by simp only [vsAll, ↓reduceIte, eq_self, Bc, B7, r3', q3'])) ?_
    rintro r H' ⟨v3, hv3, rfl, rfl⟩
    simp only [vsAll, opA, dstOk, nilSliceOp, Nat.reduceLT, Nat.reduceBEq, ↓reduceIte, eq_self]
    refine vs_draw2 [0, 0, 0, 1, 0, 3, 4, 0, 4, 4, 5, 6, 7] [([0, 1, 2, 4, 7], [1], 3), ([], [1], 5), ([6, 8, 9], [], 10), ([11], [], 12)] [] (by decide +kernel) ?_
    simp only [vsAll, loadA, loadRow, partA, partOk, fieldAddrA, okAll, stAll, opsA, opA, dstOk, Nat.reduceLT, Nat.reduceEqDiff, ↓reduceIte, eq_self, wtAll, Bc, B7]
    refine callK (dwf_tri kb i3 (a + 1) 8 _ (by ((try clear Bc B7 c43 c53 c54 z3 z4 z5 c43' c53' c54' r4 r4' r5 r5' r3 r3' zr q5 q5' q4 q4' qr qr' q3 q3' zq); omega)) (by ((try clear Bc B7 c43 c53 c54 z3 z4 z5 c43' c53' c54' r4 r4' r5 r5' r3 r3' zr q5 q5' q4 q4' qr qr' q3 q3' zq); omega)) (by simp only [vsAll, ↓reduceIte, eq_self])) ?_
    rintro r H' ⟨v1, hv1, rfl, rfl⟩
    simp only [vsAll, loadA, loadRow, partA, partOk, okAll, stAll, opsA, opA, dstOk, Nat.reduceLT, Nat.reduceEqDiff, ↓reduceIte, eq_self, wtAll, Bc, B7]
    refine callK (dwf_tri kb i3 (a + 1 + 1) 3 _ (by ((try clear Bc B7 c43 c53 c54 z3 z4 z5 c43' c53' c54' r4 r4' r5 r5' r3 r3' zr q5 q5' q4 q4' qr qr' q3 q3' zq); omega)) (by ((try clear Bc B7 c43 c53 c54 z3 z4 z5 c43' c53' c54' r4 r4' r5 r5' r3 r3' zr q5 q5' q4 q4' qr qr' q3 q3' zq); omega)) (by simp only [vsAll, ↓reduceIte, eq_self])) ?_
    rintro r H' ⟨v2, hv2, rfl, rfl⟩
    simp only [vsAll, binA, binLitA, intA, loadA, loadRow, partA, partOk, fieldAddrA, cellA, cellsA, fillA, okParts, buildSliceA, partIdx, elemsA, lensA, partsA, partsOk, opA, newCells, okCells, storeObj, appendA, dstOk, Nat.reduceAdd, Nat.reduceMul, Nat.reduceLT, Nat.reduceLeDiff, Nat.reduceEqDiff, ↓reduceIte, eq_self, wtAll, Bc, B7, r4, r4', r5, r3, qr']
    have es := hadS sm ⟨v1, v2 - 1, v3⟩ (fun i => [[i64 v1, i64 (v2 - 1), i64 v3]].getD i []) rfl
    refine ⟨by simp only [InR_i64]; ((try clear Bc B7 c43 c53 c54 z3 z4 z5 c43' c53' c54' r4 r4' r5 r5' r3 r3' zr q5 q5' q4 q4' qr qr' q3 q3' zq); omega), fun q hq => by (have : q = 0 := by ((try clear Bc B7 c43 c53 c54 z3 z4 z5 c43' c53' c54' r4 r4' r5 r5' r3 r3' zr q5 q5' q4 q4' qr qr' q3 q3' zq); omega)); subst this; exact ⟨rfl, rfl, rfl, trivial⟩, by ((try clear Bc B7 c43 c53 c54 z3 z4 z5 c43' c53' c54' r4 r4' r5 r5' r3 r3' zr q5 q5' q4 q4' qr qr' q3 q3' zq); omega), by ((try clear Bc B7 c43 c53 c54 z3 z4 z5 c43' c53' c54' r4 r4' r5 r5' r3 r3' zr q5 q5' q4 q4' qr qr' q3 q3' zq); omega), ?_⟩
    refine vs_draw2 [0, 0, 0, 0, 1, 2, 3, 5] [([0, 1, 2, 3], [0], 4), ([5], [], 6), ([], [], 7)] [] (by decide +kernel) ?_
    simp only [vsAll, binA, binLitA, intA, loadA, loadRow, partA, partOk, okAll, stAll, opsA, opA, dstOk, Nat.reduceLT, Nat.reduceEqDiff, ↓reduceIte, eq_self, wtAll, B7, r5']
    refine ⟨by simp only [InR_i64]; ((try clear Bc B7 c43 c53 c54 z3 z4 z5 c43' c53' c54' r4 r4' r5 r5' r3 r3' zr q5 q5' q4 q4' qr qr' q3 q3' zq); omega), ?_⟩
    refine callK (dwf_tri kb i3 (a + 1 + 1 + 1) (v3 + 1) _ (by ((try clear Bc B7 c43 c53 c54 z3 z4 z5 c43' c53' c54' r4 r4' r5 r5' r3 r3' zr q5 q5' q4 q4' qr qr' q3 q3' zq); omega)) (by ((try clear Bc B7 c43 c53 c54 z3 z4 z5 c43' c53' c54' r4 r4' r5 r5' r3 r3' zr q5 q5' q4 q4' qr qr' q3 q3' zq); omega)) (by simp only [vsAll, ↓reduceIte, eq_self, Bc, r3'])) ?_
    rintro r H' ⟨v4, hv4, rfl, rfl⟩
    simp only [vsAll, binA, binLitA, intA, loadA, loadRow, partA, partOk, cellA, cellsA, okParts, buildSliceA, partIdx, elemsA, lensA, partsA, partsOk, opA, newCells, okCells, storeObj, appendA, dstOk, Nat.reduceMul, Nat.reduceLT, Nat.reduceLeDiff, Nat.reduceEqDiff, ↓reduceIte, eq_self, wtAll, B7, r5', q5, q5', q4, qr, q3]
    have eu := app_ints u v4 (fun i => [[i64 v4]].getD i []) rfl
    rw [hul] at eu
    refine ⟨fun q hq => by (have : q = 0 := by ((try clear Bc B7 c43 c53 c54 z3 z4 z5 c43' c53' c54' r4 r4' r5 r5' r3 r3' zr q5 q5' q4 q4' qr qr' q3 q3' zq); omega)); subst this; exact ⟨rfl, trivial⟩, by ((try clear Bc B7 c43 c53 c54 z3 z4 z5 c43' c53' c54' r4 r4' r5 r5' r3 r3' zr q5 q5' q4 q4' qr qr' q3 q3' zq); omega), by ((try clear Bc B7 c43 c53 c54 z3 z4 z5 c43' c53' c54' r4 r4' r5 r5' r3 r3' zr q5 q5' q4 q4' qr qr' q3 q3' zq); omega), by simp only [InR_i64]; ((try clear Bc B7 c43 c53 c54 z3 z4 z5 c43' c53' c54' r4 r4' r5 r5' r3 r3' zr q5 q5' q4 q4' qr qr' q3 q3' zq); omega), loop_next (a + 1 + 1 + 1 + 1, sm ++ [⟨v1, v2 - 1, v3⟩], u ++ [v4]) ⟨hs.add (by ((try clear Bc B7 c43 c53 c54 z3 z4 z5 c43' c53' c54' r4 r4' r5 r5' r3 r3' zr q5 q5' q4 q4' qr qr' q3 q3' zq); omega)) hv1 hv2 hv3 hv4, by simp only [List.length_append, List.length_cons, List.length_nil]; ((try clear Bc B7 c43 c53 c54 z3 z4 z5 c43' c53' c54' r4 r4' r5 r5' r3 r3' zr q5 q5' q4 q4' qr qr' q3 q3' zq); omega), by show a + 1 + 1 + 1 + 1 ≤ _; simp only [List.length_append, List.length_cons, List.length_nil]; ((try clear Bc B7 c43 c53 c54 z3 z4 z5 c43' c53' c54' r4 r4' r5 r5' r3 r3' zr q5 q5' q4 q4' qr qr' q3 q3' zq); omega)⟩ (by simp only [List.length_append, List.length_cons, List.length_nil]; ((try clear Bc B7 c43 c53 c54 z3 z4 z5 c43' c53' c54' r4 r4' r5 r5' r3 r3' zr q5 q5' q4 q4' qr qr' q3 q3' zq); omega)) ?_ ?_⟩
    ·simp only [vsAll, Nat.reduceEqDiff, ↓reduceIte, eq_self, List.length_append, Int.natCast_add, Int.natCast_one]
    ·simp only [List.length_append, List.length_cons, List.length_nil, hul, ← eu, ← es]
     (refine HSub_eqn fun jj => ?_; refine (Classical.em (jj = i5)).elim (fun E0 => by rw [E0]; first | (left; simp only [vsAll, ↓reduceIte, reduceCtorEq, eq_self]; done) | (right; simp only [vsAll, ↓reduceIte, eq_self]; done)) (fun E0 => ?_); refine (Classical.em (jj = i4)).elim (fun E1 => by rw [E1]; first | (left; simp only [vsAll, ↓reduceIte, reduceCtorEq, eq_self, B7]; done) | (right; simp only [vsAll, ↓reduceIte, eq_self, Bc, B7, q4']; done)) (fun E1 => ?_); refine (Classical.em (jj = jr)).elim (fun E2 => by rw [E2]; first | (left; simp only [vsAll, ↓reduceIte, reduceCtorEq, eq_self, q5, q4]; done) | (right; simp only [vsAll, ↓reduceIte, eq_self, q5, q4]; done)) (fun E2 => ?_); refine (Classical.em (jj = ir)).elim (fun E3 => by rw [E3]; first | (left; simp only [vsAll, ↓reduceIte, reduceCtorEq, eq_self, r4, r5, qr']; done) | (right; simp only [vsAll, ↓reduceIte, eq_self, r4, r5, r3, qr']; done)) (fun E3 => ?_); refine (Classical.em (jj = i3)).elim (fun E4 => by rw [E4]; first | (left; simp only [vsAll, ↓reduceIte, reduceCtorEq, eq_self, Bc, B7, r3', q3']; done) | (right; simp only [vsAll, ↓reduceIte, eq_self, Bc, B7, r3', q3']; done)) (fun E4 => ?_); right; simp only [vsAll, ↓reduceIte, eq_self, E0, E1, E2, E3, E4])
   ·have ei : sm.length = m + 1 := by ((try clear Bc B7 c43 c53 c54 z3 z4 z5 c43' c53' c54' r4 r4' r5 r5' r3 r3' zr q5 q5' q4 q4' qr qr' q3 q3' zq); omega)
    simp only [vsAll, ↓reduceIte, eq_self]
    refine cutG_ent (Ent.of [(3, dwfAV i3 N b), (4, .ref i4 0 2 0 0), (5, .ref i5 0 1 0 0)] (by simp only [vsAll, Nat.reduceEqDiff, ↓reduceIte, eq_self]) HSub_rfl ?_)
    refine cutG_ent (Ent.freezeBox (s' := Fr.of [(3, dwfAV i3 N b), (4, .ref i4 0 2 0 0), (5, .ref i5 0 1 0 0)]) (id := ir) (st := 3) (n := sm.length) (f := lkF sm) (j := i4) (st' := 2) (n' := 1) (g := fun _ => [.sl ir 3 sm.length, .lit (.slice none 0 0)]) (g' := fun _ => [lkAV sm, .lit (.slice none 0 0)]) (by simp only [vsAll, ↓reduceIte, eq_self, r4, r5, qr']) (by simp only [vsAll, ↓reduceIte, eq_self, B7]) (fun t => .rfl) (fun _ _ => rfl) (fun q d hq hd => ?_) ?_)
    ·match d, hd with
     | 0, _ => exact .hit
     | 1, _ => exact .rfl
    refine cutG_ent (Ent.freezeBox (s' := Fr.of [(3, dwfAV i3 N b), (4, .ref i4 0 2 0 0), (5, .ref i5 0 1 0 0)]) (id := jr) (st := 1) (n := sm.length) (f := intF u) (j := i5) (st' := 1) (n' := 1) (g := fun _ => [.sl jr 1 sm.length]) (g' := fun _ => [intsAV u]) (by simp only [Hp.set, Hp.del, q4, q5, qr, if_false, if_true]) (by simp only [Hp.set, Hp.del, c54, r5', if_false, if_true]) (fun t => .rfl) (fun _ _ => rfl) (fun q d hq hd => ?_) ?_)
    ·match d, hd with
     | 0, _ =>
       show Frz jr 1 sm.length (intF u) (.sl jr 1 sm.length) (.rsl u.length 1 (intF u))
       rw [hul]; exact .hit
    refine cutG_of (sm, u, i3, i4, i5, a) ⟨hs, by show 1 ≤ sm.length; ((try clear Bc B7 c43 c53 c54 z3 z4 z5 c43' c53' c54' r4 r4' r5 r5' r3 r3' zr q5 q5' q4 q4' qr qr' q3 q3' zq); omega), by show a ≤ 30; ((try clear Bc B7 c43 c53 c54 z3 z4 z5 c43' c53' c54' r4 r4' r5 r5' r3 r3' zr q5 q5' q4 q4' qr qr' q3 q3' zq); omega), ⟨z3, z4, z5⟩, ⟨c43', c53', c54'⟩⟩ (by simp only [vsAll, Nat.reduceEqDiff, ↓reduceIte, eq_self]) rfl (HSub_eqn fun jj => ?_)
    unfold afH
    by_cases e5 : jj = i5
    ·right; subst e5; simp [Hp.set]
    by_cases e4 : jj = i4
    ·right; subst e4; simp [Hp.set, Hp.del, c54', q4']
    by_cases er : jj = ir
    ·left; subst er; simp [Hp.set, r5, r4, r3, zr]
    by_cases ej : jj = jr
    ·left; subst ej; simp [Hp.set, q5, q4, q3, zq]
    right; simp [Hp.set, Hp.del, er, ej, e4, e5]
 ·obtain ⟨sm, u, i3, i4, i5, a⟩ := y
  obtain ⟨hs, l1, ha, ⟨z3, z4, z5⟩, ⟨d34, d35, d45⟩⟩ := hy
  simp only [] at hs l1 ha z3 z4 z5 d34 d35 d45
  have d34' : ¬ i4 = i3 := fun e => d34 e.symm
  have d35' : ¬ i5 = i3 := fun e => d35 e.symm
  have d45' : ¬ i5 = i4 := fun e => d45 e.symm
  have hn4 := hs.n
  have hul := hs.len
  refine wps_cutG2 (m := mset [4, 8, 9]) (σ := List Ls × Nat) (fun y => SoA sm u y.1 ∧ y.2 ≤ 50)
   (fun y => [(3, dwfAV i3 N b), (4, .ref i4 0 2 0 0), (5, .ref i5 0 1 0 0), (7, fwAV i4 i5)])
   (fun y => afH H i3 i4 i5 y.2 [lkAV sm, lsAV y.1] u) (fun _ => []) ?_ fun y hy => ?_
  ·unfold afH
   skip
   simp only [vsAll, okAll, stAll, opsA, opA, dstOk, nilSliceOp, Nat.reduceLT, Nat.reduceEqDiff, Nat.reduceBEq, ↓reduceIte, eq_self, Try.ntmps3]
   refine callK (dwf_tri kb i3 a 3 _ (by ((try clear z3 z4 z5 d34 d35 d45 d34' d35' d45'); omega)) (by ((try clear z3 z4 z5 d34 d35 d45 d34' d35' d45'); omega)) (by simp only [vsAll, ↓reduceIte, eq_self, d34, d35])) ?_
   rintro r H' ⟨w, hw, rfl, rfl⟩
   obtain ⟨c, rfl⟩ : ∃ c : Nat, w = (c : Int) := ⟨w.toNat, by ((try clear z3 z4 z5 d34 d35 d45 d34' d35' d45'); omega)⟩
   simp only [vsAll, opA, dstOk, Nat.reduceLT, eq_self]
   refine vs_entL (Ent.nilBox 4 (lsF []) (fun id _ => [lkAV sm, .sl id 4 0]) (j := i4) (st' := 2) (n' := 1) (g := fun _ => [lkAV sm, .lit (.slice none 0 0)]) (by simp only [vsAll, ↓reduceIte, eq_self, d45, d34']) (fun _ _ _ => rfl) (fun id q d hq hd => ?_) fun iq hiq => ?_)
   ·match d, hd with
    | 0, _ => exact .rfl
    | 1, _ => exact .hit
   simp only [Hp.set_none] at hiq
   obtain ⟨⟨q3, q3'⟩, ⟨q5, q5'⟩, ⟨q4, q4'⟩, _, zq⟩ := hiq
   skip
   have hadQ : ∀ (l : List Ls) (x : Ls) (G : Nat → List AV), G 0 = x.cs → appF l.length 1 (lsF l) G = lsF (l ++ [x]) := fun l x G hG => app_lF (fun x : Ls => x.cs) ls0 l x G hG
   refine vs_loop (σ := Nat × List Ls) (fun y => SoA sm u y.2 ∧ y.2.length ≤ c ∧ y.1 ≤ 31 + 4 * y.2.length) (fun y => [(3, dwfAV i3 N b), (4, .ref i4 0 2 0 0), (5, .ref i5 0 1 0 0), (7, fwAV i4 i5), (72, i64 (c : Nat)), (73, i64 y.2.length)])
    (fun y => (((H.set i3 (.box 1 1 fun _ => [i64 y.1])).set i5 (.box 1 1 fun _ => [intsAV u])).set iq (.row 4 y.2.length (lsF y.2))).set i4 (.box 2 1 fun _ => [lkAV sm, .sl iq 4 y.2.length])) (fun y => c - y.2.length) (a + 1, []) ⟨SoA.nil sm u, Nat.zero_le _, by simp only [List.length_nil]; ((try clear z3 z4 z5 d34 d35 d45 d34' d35' d45' q4 q4' q3 q3' q5 q5' zq); omega)⟩ ?_ ?_ fun y hy => ?_
   ·simp only [vsAll, Nat.reduceEqDiff, ↓reduceIte, eq_self, Int.natCast_zero]
   ·simp only [List.length_nil]
    (refine HSub_eqn fun jj => ?_; refine (Classical.em (jj = i4)).elim (fun E0 => by rw [E0]; first | (left; simp only [vsAll, ↓reduceIte, reduceCtorEq, eq_self]; done) | (right; simp only [vsAll, ↓reduceIte, eq_self]; done)) (fun E0 => ?_); refine (Classical.em (jj = iq)).elim (fun E1 => by rw [E1]; first | (left; simp only [vsAll, ↓reduceIte, reduceCtorEq, eq_self, q4]; done) | (right; simp only [vsAll, ↓reduceIte, eq_self, q4]; done)) (fun E1 => ?_); refine (Classical.em (jj = i5)).elim (fun E2 => by rw [E2]; first | (left; simp only [vsAll, ↓reduceIte, reduceCtorEq, eq_self, d45', q5']; done) | (right; simp only [vsAll, ↓reduceIte, eq_self, d35', d45', q5']; done)) (fun E2 => ?_); refine (Classical.em (jj = i3)).elim (fun E3 => by rw [E3]; first | (left; simp only [vsAll, ↓reduceIte, reduceCtorEq, eq_self, d34, d35, q3']; done) | (right; simp only [vsAll, ↓reduceIte, eq_self, d34, d35, q3']; done)) (fun E3 => ?_); right; simp only [vsAll, ↓reduceIte, eq_self, E0, E1, E2, E3])
   ·obtain ⟨a, so⟩ := y
    obtain ⟨hq, hle2, hal2⟩ := hy
    simp only [] at hq hle2 hal2
    have hsl : so.length ≤ 2 := by ((try clear z3 z4 z5 d34 d35 d45 d34' d35' d45' q4 q4' q3 q3' q5 q5' zq); omega)
    simp only [vsAll, binA, binLitA, intA, opA, dstOk, Nat.reduceLT, Nat.reduceEqDiff, ↓reduceIte, eq_self]
    refine condD (fun hd2 => ?_) (fun hd2 => ?_)
    ·simp only [vsAll, okAll, stAll, opsA, opA, dstOk, Nat.reduceLT, Nat.reduceEqDiff, ↓reduceIte, eq_self]
     refine callK (dwf_tri kb i3 a 13 _ (by ((try clear z3 z4 z5 d34 d35 d45 d34' d35' d45' q4 q4' q3 q3' q5 q5' zq); omega)) (by ((try clear z3 z4 z5 d34 d35 d45 d34' d35' d45' q4 q4' q3 q3' q5 q5' zq); omega)) (by simp only [vsAll, ↓reduceIte, eq_self, d34, d35, q3'])) ?_
     rintro r H' ⟨d, hd', rfl, rfl⟩
     simp only [vsAll, okAll, stAll, opsA, opA, dstOk, Nat.reduceLT, Nat.reduceEqDiff, ↓reduceIte, eq_self]
     refine callK (dwf_tri kb i3 (a + 1) 5 _ (by ((try clear z3 z4 z5 d34 d35 d45 d34' d35' d45' q4 q4' q3 q3' q5 q5' zq); omega)) (by ((try clear z3 z4 z5 d34 d35 d45 d34' d35' d45' q4 q4' q3 q3' q5 q5' zq); omega)) (by simp only [vsAll, ↓reduceIte, eq_self])) ?_
     rintro r H' ⟨l, hl', rfl, rfl⟩
     simp only [vsAll, binA, binLitA, intA, okAll, stAll, opsA, opA, dstOk, nilSliceOp, Nat.reduceLT, Nat.reduceEqDiff, Nat.reduceBEq, ↓reduceIte, eq_self]
     refine ⟨by simp only [InR_i64]; ((try clear z3 z4 z5 d34 d35 d45 d34' d35' d45' q4 q4' q3 q3' q5 q5' zq); omega), ?_⟩
     refine callK_pure (flow_tri hs i4 i5 d (l - 2) _ (by ((try clear z3 z4 z5 d34 d35 d45 d34' d35' d45' q4 q4' q3 q3' q5 q5' zq); omega)) (by ((try clear z3 z4 z5 d34 d35 d45 d34' d35' d45' q4 q4' q3 q3' q5 q5' zq); omega)) (x := .sl iq 4 so.length) (by simp only [vsAll, ↓reduceIte, eq_self, d34']) (by simp only [vsAll, ↓reduceIte, eq_self, d35', d45', q5'])) ?_
     have hfb := flB_bd hs d (l - 2) sm.length (Nat.le_refl _)
     simp only [vsAll, opA, dstOk, nilSliceOp, Nat.reduceLT, Nat.reduceBEq, ↓reduceIte, eq_self]
     refine vs_draw2 [0, 0, 0, 0, 0, 0, 1, 2, 2, 0, 0, 3, 4, 4, 5, 6, 6, 7, 8, 9] [([0, 1, 2, 3, 4, 5, 9, 10], [1], 6), ([7, 8], [1], 11), ([12, 13], [1], 14), ([15, 16], [], 17), ([18], [], 19)] [] (by decide +kernel) ?_
     simp only [vsAll, loadA, loadRow, partA, partOk, fieldAddrA, okAll, stAll, opsA, opA, dstOk, Nat.reduceLT, Nat.reduceEqDiff, ↓reduceIte, eq_self, wtAll, d34']
     refine callK (dwf_tri kb i3 (a + 1 + 1) 2 _ (by ((try clear z3 z4 z5 d34 d35 d45 d34' d35' d45' q4 q4' q3 q3' q5 q5' zq); omega)) (by ((try clear z3 z4 z5 d34 d35 d45 d34' d35' d45' q4 q4' q3 q3' q5 q5' zq); omega)) (by simp only [vsAll, ↓reduceIte, eq_self])) ?_
     rintro r H' ⟨w1, hw1, rfl, rfl⟩
     simp only [vsAll, binA, binLitA, intA, loadA, loadRow, partA, partOk, mmA, okAll, stAll, opsA, opA, dstOk, Nat.reduceLT, Nat.reduceEqDiff, ↓reduceIte, eq_self, wtAll, d34']
     refine ⟨by simp only [InR_i64]; ((try clear z3 z4 z5 d34 d35 d45 d34' d35' d45' q4 q4' q3 q3' q5 q5' zq); omega), ?_⟩
     refine callK (dwf_tri kb i3 (a + 1 + 1 + 1) 2 _ (by ((try clear z3 z4 z5 d34 d35 d45 d34' d35' d45' q4 q4' q3 q3' q5 q5' zq); omega)) (by ((try clear z3 z4 z5 d34 d35 d45 d34' d35' d45' q4 q4' q3 q3' q5 q5' zq); omega)) (by simp only [vsAll, ↓reduceIte, eq_self])) ?_
     rintro r H' ⟨w2, hw2, rfl, rfl⟩
     simp only [vsAll, binA, binLitA, intA, loadA, loadRow, partA, partOk, mmA, okAll, stAll, opsA, opA, dstOk, Nat.reduceLT, Nat.reduceEqDiff, ↓reduceIte, eq_self, wtAll, d34']
     refine ⟨by simp only [InR_i64]; ((try clear z3 z4 z5 d34 d35 d45 d34' d35' d45' q4 q4' q3 q3' q5 q5' zq); omega), callK_pure (spanf_tri _ _ _) ?_⟩
     simp only [vsAll, binA, binLitA, intA, loadA, loadRow, partA, partOk, fieldAddrA, cellA, cellsA, fillA, okParts, buildSliceA, partIdx, elemsA, lensA, partsA, partsOk, opA, newCells, okCells, storeObj, appendA, dstOk, Nat.reduceAdd, Nat.reduceMul, Nat.reduceLT, Nat.reduceLeDiff, Nat.reduceEqDiff, ↓reduceIte, eq_self, wtAll, d34', q4, q4', q3]
     have ea := hadQ so ⟨d, l - 2, max 0 (flS sm u d (l - 2) sm.length - w1), min 24 (flS sm u d (l - 2) sm.length + w2)⟩ (fun i => [[i64 d, i64 (l - 2), i64 (max 0 (flS sm u d (l - 2) sm.length - w1)), i64 (min 24 (flS sm u d (l - 2) sm.length + w2))]].getD i []) rfl
     refine ⟨fun q hq => by (have : q = 0 := by ((try clear z3 z4 z5 d34 d35 d45 d34' d35' d45' q4 q4' q3 q3' q5 q5' zq); omega)); subst this; exact ⟨rfl, rfl, rfl, rfl, trivial⟩, by ((try clear z3 z4 z5 d34 d35 d45 d34' d35' d45' q4 q4' q3 q3' q5 q5' zq); omega), by ((try clear z3 z4 z5 d34 d35 d45 d34' d35' d45' q4 q4' q3 q3' q5 q5' zq); omega), by simp only [InR_i64]; ((try clear z3 z4 z5 d34 d35 d45 d34' d35' d45' q4 q4' q3 q3' q5 q5' zq); omega), loop_next (a + 1 + 1 + 1 + 1, so ++ [⟨d, l - 2, max 0 (flS sm u d (l - 2) sm.length - w1), min 24 (flS sm u d (l - 2) sm.length + w2)⟩]) ⟨hq.add (by ((try clear z3 z4 z5 d34 d35 d45 d34' d35' d45' q4 q4' q3 q3' q5 q5' zq); omega)) ⟨by ((try clear z3 z4 z5 d34 d35 d45 d34' d35' d45' q4 q4' q3 q3' q5 q5' zq); omega), by ((try clear z3 z4 z5 d34 d35 d45 d34' d35' d45' q4 q4' q3 q3' q5 q5' zq); omega)⟩ ⟨by ((try clear z3 z4 z5 d34 d35 d45 d34' d35' d45' q4 q4' q3 q3' q5 q5' zq); omega), by ((try clear z3 z4 z5 d34 d35 d45 d34' d35' d45' q4 q4' q3 q3' q5 q5' zq); omega)⟩ (by ((try clear z3 z4 z5 d34 d35 d45 d34' d35' d45' q4 q4' q3 q3' q5 q5' zq); omega)) (by ((try clear z3 z4 z5 d34 d35 d45 d34' d35' d45' q4 q4' q3 q3' q5 q5' zq); omega)) (by ((try clear z3 z4 z5 d34 d35 d45 d34' d35' d45' q4 q4' q3 q3' q5 q5' zq); omega)) (by ((try clear z3 z4 z5 d34 d35 d45 d34' d35' d45' q4 q4' q3 q3' q5 q5' zq); omega)), by simp only [List.length_append, List.length_cons, List.length_nil]; ((try clear z3 z4 z5 d34 d35 d45 d34' d35' d45' q4 q4' q3 q3' q5 q5' zq); omega), by show a + 1 + 1 + 1 + 1 ≤ _; simp only [List.length_append, List.length_cons, List.length_nil]; ((try clear z3 z4 z5 d34 d35 d45 d34' d35' d45' q4 q4' q3 q3' q5 q5' zq); omega)⟩ (by simp only [List.length_append, List.length_cons, List.length_nil]; ((try clear z3 z4 z5 d34 d35 d45 d34' d35' d45' q4 q4' q3 q3' q5 q5' zq); omega)) ?_ ?_⟩
     ·simp only [vsAll, Nat.reduceEqDiff, ↓reduceIte, eq_self, List.length_append, Int.natCast_add, Int.natCast_one]
     ·simp only [List.length_append, List.length_cons, List.length_nil, ← ea]
      (refine HSub_eqn fun jj => ?_; refine (Classical.em (jj = i4)).elim (fun E0 => by rw [E0]; first | (left; simp only [vsAll, ↓reduceIte, reduceCtorEq, eq_self]; done) | (right; simp only [vsAll, ↓reduceIte, eq_self]; done)) (fun E0 => ?_); refine (Classical.em (jj = iq)).elim (fun E1 => by rw [E1]; first | (left; simp only [vsAll, ↓reduceIte, reduceCtorEq, eq_self, q4]; done) | (right; simp only [vsAll, ↓reduceIte, eq_self, q4]; done)) (fun E1 => ?_); refine (Classical.em (jj = i5)).elim (fun E2 => by rw [E2]; first | (left; simp only [vsAll, ↓reduceIte, reduceCtorEq, eq_self, d45', q5']; done) | (right; simp only [vsAll, ↓reduceIte, eq_self, d35', d45', q5']; done)) (fun E2 => ?_); refine (Classical.em (jj = i3)).elim (fun E3 => by rw [E3]; first | (left; simp only [vsAll, ↓reduceIte, reduceCtorEq, eq_self, d34, d35, q3']; done) | (right; simp only [vsAll, ↓reduceIte, eq_self, d34, d35, q3']; done)) (fun E3 => ?_); right; simp only [vsAll, ↓reduceIte, eq_self, E0, E1, E2, E3])
    ·have hsc : so.length = c := by ((try clear z3 z4 z5 d34 d35 d45 d34' d35' d45' q4 q4' q3 q3' q5 q5' zq); omega)
     simp only [vsAll, ↓reduceIte, eq_self]
     refine cutG_ent (Ent.of [(3, dwfAV i3 N b), (4, .ref i4 0 2 0 0), (5, .ref i5 0 1 0 0), (7, fwAV i4 i5)] (by simp only [vsAll, Nat.reduceEqDiff, ↓reduceIte, eq_self]) HSub_rfl ?_)
     refine cutG_ent (Ent.freezeBox (s' := Fr.of [(3, dwfAV i3 N b), (4, .ref i4 0 2 0 0), (5, .ref i5 0 1 0 0), (7, fwAV i4 i5)]) (id := iq) (st := 4) (n := so.length) (f := lsF so) (j := i4) (st' := 2) (n' := 1) (g := fun _ => [lkAV sm, .sl iq 4 so.length]) (g' := fun _ => [lkAV sm, lsAV so]) (by simp only [vsAll, ↓reduceIte, eq_self, q4]) (Hp.set_same _ _ _) (fun t => .rfl) (fun _ _ => rfl) (fun q d hq hd => ?_) ?_)
     ·match d, hd with
      | 0, _ => exact .rfl
      | 1, _ => exact .hit
     refine cutG_of (so, a) ⟨hq, by show a ≤ 50; ((try clear z3 z4 z5 d34 d35 d45 d34' d35' d45' q4 q4' q3 q3' q5 q5' zq); omega)⟩ (by simp only [vsAll, Nat.reduceEqDiff, ↓reduceIte, eq_self]) rfl (HSub_eqn fun jj => ?_)
     by_cases e5 : jj = i5
     ·right; subst e5; simp [Hp.set, Hp.del, d45', q5']
     by_cases e4 : jj = i4
     ·right; subst e4; simp [Hp.set, d45]
     by_cases eq : jj = iq
     ·left; subst eq; simp [Hp.set, q5, q4, q3, zq]
     right; simp [Hp.set, Hp.del, eq, e4, e5]
  ·obtain ⟨so, a⟩ := y
   obtain ⟨hq, ha⟩ := hy
   simp only [] at hq ha
   obtain ⟨ok, tr⟩ := madeB_ok hs l1 hq
   refine wps_cutG3 (m := mset [11]) (σ := List Int × List Sd × Nat × Nat × Nat) (fun y => SdA y.1 y.2.2.1 y.2.1 ∧ y.2.2.1 ≤ 19 ∧ y.2.2.2.2 ≤ 90 ∧ H y.2.2.2.1 = none ∧ ¬ y.2.2.2.1 = i3 ∧ ¬ y.2.2.2.1 = i4 ∧ ¬ y.2.2.2.1 = i5)
    (fun y => [(3, dwfAV i3 N b), (4, .ref i4 0 2 0 0), (7, fwAV i4 i5), (11, .ref y.2.2.2.1 0 5 0 0), (12, i64 (y.2.2.1 : Nat))])
    (fun y => (afH H i3 i4 i5 y.2.2.2.2 [lkAV sm, lsAV so] u).set y.2.2.2.1 (.box 5 1 fun _ => [.lit (.slice none 0 0), i64 0, .lit (.slice none 0 0), flAV 3 (hdL y.1 []).fl, .rsl y.2.1.length 5 (sdF y.2.1)])) (fun _ => []) ?_ fun y hy => ?_
   ·unfold afH
    skip
    simp only [vsAll, okAll, stAll, opsA, opA, dstOk, Nat.reduceLT, ↓reduceIte, eq_self, Try.ntmps3]
    refine callK (dwf_tri kb i3 a 4 _ (by ((try clear z3 z4 z5 d34 d35 d45 d34' d35' d45'); omega)) (by ((try clear z3 z4 z5 d34 d35 d45 d34' d35' d45'); omega)) (by simp only [vsAll, ↓reduceIte, eq_self, d34, d35])) ?_
    rintro r H' ⟨f0, hf0, rfl, rfl⟩
    simp only [vsAll, okAll, stAll, opsA, opA, dstOk, Nat.reduceLT, Nat.reduceEqDiff, ↓reduceIte, eq_self]
    refine callK (dwf_tri kb i3 (a + 1) 4 _ (by ((try clear z3 z4 z5 d34 d35 d45 d34' d35' d45'); omega)) (by ((try clear z3 z4 z5 d34 d35 d45 d34' d35' d45'); omega)) (by simp only [vsAll, ↓reduceIte, eq_self])) ?_
    rintro r H' ⟨f1, hf1, rfl, rfl⟩
    simp only [vsAll, okAll, stAll, opsA, opA, dstOk, Nat.reduceLT, Nat.reduceEqDiff, ↓reduceIte, eq_self]
    refine callK (dwf_tri kb i3 (a + 1 + 1) 4 _ (by ((try clear z3 z4 z5 d34 d35 d45 d34' d35' d45'); omega)) (by ((try clear z3 z4 z5 d34 d35 d45 d34' d35' d45'); omega)) (by simp only [vsAll, ↓reduceIte, eq_self])) ?_
    rintro r H' ⟨f2, hf2, rfl, rfl⟩
    simp only [vsAll, cellA, cellsA, fillA, okParts, buildSliceA, partIdx, elemsA, lensA, okAll, stAll, opsA, partsA, partsOk, opA, allocA, newCells, okCells, storeObj, dstOk, Nat.reduceAdd, Nat.reduceMul, Nat.reduceLT, Nat.reduceLeDiff, Nat.reduceEqDiff, Nat.reduceBEq, ↓reduceIte, eq_self, wtAll]
    intro i11 B6; (try simp only [ite_none] at B6)
    have g3 : ¬ i11 = i3 := fun e => by simp [e] at B6
    have g4 : ¬ i11 = i4 := fun e => by simp [e, d34'] at B6
    have g5 : ¬ i11 = i5 := fun e => by simp [e, d35', d45'] at B6
    have z11 : H i11 = none := by simp_all
    have g3' : ¬ i3 = i11 := fun e => g3 e.symm
    have g4' : ¬ i4 = i11 := fun e => g4 e.symm
    have g5' : ¬ i5 = i11 := fun e => g5 e.symm
    skip
    refine callK (dwf_tri kb i3 (a + 1 + 1 + 1) 20 _ (by ((try clear z3 z4 z5 d34 d35 d45 d34' d35' d45' B6 g3 g4 g5 z11 g3' g4' g5'); omega)) (by ((try clear z3 z4 z5 d34 d35 d45 d34' d35' d45' B6 g3 g4 g5 z11 g3' g4' g5'); omega)) (by simp only [vsAll, ↓reduceIte, eq_self, B6])) ?_
    rintro r H' ⟨w, hw, rfl, rfl⟩
    obtain ⟨w, rfl⟩ : ∃ q : Nat, w = (q : Int) := ⟨w.toNat, by ((try clear z3 z4 z5 d34 d35 d45 d34' d35' d45' B6 g3 g4 g5 z11 g3' g4' g5'); omega)⟩
    simp only [vsAll, okAll, stAll, opsA, opA, dstOk, nilSliceOp, Nat.reduceLT, Nat.reduceEqDiff, Nat.reduceBEq, ↓reduceIte, eq_self]
    refine callK (dwf_tri kb i3 (a + 1 + 1 + 1 + 1) 3 _ (by ((try clear z3 z4 z5 d34 d35 d45 d34' d35' d45' B6 g3 g4 g5 z11 g3' g4' g5'); omega)) (by ((try clear z3 z4 z5 d34 d35 d45 d34' d35' d45' B6 g3 g4 g5 z11 g3' g4' g5'); omega)) (by simp only [vsAll, ↓reduceIte, eq_self])) ?_
    rintro r H' ⟨c, hc, rfl, rfl⟩
    obtain ⟨c, rfl⟩ : ∃ q : Nat, c = (q : Int) := ⟨c.toNat, by ((try clear z3 z4 z5 d34 d35 d45 d34' d35' d45' B6 g3 g4 g5 z11 g3' g4' g5'); omega)⟩
    simp only [vsAll, opA, dstOk, Nat.reduceLT, eq_self]
    refine vs_entL (Ent.nilBox 5 (sdF []) (fun id _ => [.lit (.slice none 0 0), i64 0, .lit (.slice none 0 0), .rsl 3 1 fun i => [[i64 f0], [i64 f1], [i64 f2]].getD i [], .sl id 5 0]) (j := i11) (st' := 5) (n' := 1) (g := fun _ => [.lit (.slice none 0 0), i64 0, .lit (.slice none 0 0), .rsl 3 1 fun i => [[i64 f0], [i64 f1], [i64 f2]].getD i [], .lit (.slice none 0 0)]) (by simp only [vsAll, ↓reduceIte, eq_self, B6]) (fun _ _ _ => rfl) (fun id q d hq hd => ?_) fun iq hiq => ?_)
    ·match d, hd with
     | 0, _ => exact .rfl
     | 1, _ => exact .rfl
     | 2, _ => exact .rfl
     | 3, _ => exact .rfl
     | 4, _ => exact .hit
    simp only [Hp.set_none] at hiq
    have gq : ¬ iq = i3 ∧ ¬ iq = i4 ∧ ¬ iq = i5 ∧ ¬ iq = i11 ∧ H iq = none := by simp_all
    obtain ⟨q3, q4, q5, q11, zq⟩ := gq
    have q3' : ¬ i3 = iq := fun e => q3 e.symm
    have q4' : ¬ i4 = iq := fun e => q4 e.symm
    have q5' : ¬ i5 = iq := fun e => q5 e.symm
    have q11' : ¬ i11 = iq := fun e => q11 e.symm
    skip
    have hadD : ∀ (l : List Sd) (x : Sd) (G : Nat → List AV), G 0 = x.cs → appF l.length 1 (sdF l) G = sdF (l ++ [x]) := fun l x G hG => app_lF (fun x : Sd => x.cs) sd0 l x G hG
    have hf : ∀ i, i < 3 → 0 ≤ [f0, f1, f2].getD i 0 ∧ [f0, f1, f2].getD i 0 ≤ 9 := fun i hi => by
     rcases (by ((try clear z3 z4 z5 d34 d35 d45 d34' d35' d45' B6 g3 g4 g5 z11 g3' g4' g5' q3 q4 q5 q11 zq q3' q4' q5' q11'); omega) : i = 0 ∨ i = 1 ∨ i = 2) with rfl | rfl | rfl
     ·show 0 ≤ f0 ∧ f0 ≤ 9; ((try clear z3 z4 z5 d34 d35 d45 d34' d35' d45' B6 g3 g4 g5 z11 g3' g4' g5' q3 q4 q5 q11 zq q3' q4' q5' q11'); omega)
     ·show 0 ≤ f1 ∧ f1 ≤ 9; ((try clear z3 z4 z5 d34 d35 d45 d34' d35' d45' B6 g3 g4 g5 z11 g3' g4' g5' q3 q4 q5 q11 zq q3' q4' q5' q11'); omega)
     ·show 0 ≤ f2 ∧ f2 ≤ 9; ((try clear z3 z4 z5 d34 d35 d45 d34' d35' d45' B6 g3 g4 g5 z11 g3' g4' g5' q3 q4 q5 q11 zq q3' q4' q5' q11'); omega)
    refine vs_loop (σ := Nat × List Sd) (fun y => SdA [f0, f1, f2] w y.2 ∧ y.2.length ≤ c ∧ y.1 ≤ 60 + 4 * y.2.length) (fun y => [(3, dwfAV i3 N b), (4, .ref i4 0 2 0 0), (7, fwAV i4 i5), (11, .ref i11 0 5 0 0), (12, i64 w), (116, i64 c), (117, i64 y.2.length)])
     (fun y => ((((H.set i3 (.box 1 1 fun _ => [i64 y.1])).set i4 (.box 2 1 fun _ => [lkAV sm, lsAV so])).set i5 (.box 1 1 fun _ => [intsAV u])).set iq (.row 5 y.2.length (sdF y.2))).set i11 (.box 5 1 fun _ => [.lit (.slice none 0 0), i64 0, .lit (.slice none 0 0), flAV 3 (hdL [f0, f1, f2] []).fl, .sl iq 5 y.2.length])) (fun y => c - y.2.length) (a + 5, []) ⟨SdA.nil hf, Nat.zero_le _, by simp only [List.length_nil]; ((try clear z3 z4 z5 d34 d35 d45 d34' d35' d45' B6 g3 g4 g5 z11 g3' g4' g5' q3 q4 q5 q11 zq q3' q4' q5' q11'); omega)⟩ ?_ ?_ fun y hy => ?_
    ·simp only [vsAll, Nat.reduceEqDiff, ↓reduceIte, eq_self, Int.natCast_zero]
    ·refine HSub_put_le (Hp.set_same _ _ _) (box_leA (fun _ _ => rfl) fun i hi j hj => ?_) ?_
     ·match j, hj with
      | 0, _ => exact .refl _
      | 1, _ => exact .refl _
      | 2, _ => exact .refl _
      | 3, _ =>
        refine .rsl fun i hi => ?_
        rcases (by ((try clear z3 z4 z5 d34 d35 d45 d34' d35' d45' B6 g3 g4 g5 z11 g3' g4' g5' q3 q4 q5 q11 zq q3' q4' q5' q11'); omega) : i = 0 ∨ i = 1 ∨ i = 2) with rfl | rfl | rfl
        ·rfl
        ·rfl
        ·rfl
      | 4, _ => exact .refl _
     ·simp only [List.length_nil]
      (refine HSub_eqn fun jj => ?_; refine (Classical.em (jj = i11)).elim (fun E0 => by rw [E0]; first | (left; simp only [vsAll, ↓reduceIte, eq_self, B6, q11']; done) | (right; simp only [vsAll, binA, binLitA, intA, aggA, aggV, boolA, nilA2, isConst, unA, loadA, loadRow, partA, partOk, fieldAddrA, indexAddrA, indexA, fieldA, extractA, lenA, nilCheckA, boxA, boxZ, cellA, cellsA, fillA, okParts, buildSliceA, buildMutA, makeSliceA, partIdx, elemsA, lensA, ifaceA, convA, mmA, pickA, okAll, stAll, opsA, partsA, partsOk, opA, allocA, boxMutA, newCells, okCells, storeObj, appendA, guardV, taA, nM, mapUpA, rangeA, nextA, entryA, lookA, sliceA, sliceM, sliceS, boundsA, opO, okO, copyA, dstOk, nilA, quietOk, nilSliceOp, deferV, panA, resA, argFr, retA.eq_1, retA.eq_2, Nat.reduceAdd, Nat.reduceSub, Nat.reduceMul, Nat.reduceLT, Nat.reduceLeDiff, Nat.reduceEqDiff, Nat.reduceBEq, Int.reduceAdd, Int.reduceSub, Int.reduceMul, Int.reduceNeg, Int.reduceLE, Int.reduceLT, Int.reduceEq, Int.reduceNe, Int.reduceToNat, ↓reduceIte, reduceCtorEq, implies_true, forall_const, eq_self, ne_eq, wtAll, Try.ntmps3, Try.results3, z3, z4, z5, d34, d35, d45, d34', d35', d45', B6, g3, g4, g5, z11, g3', g4', g5', q3, q4, q5, q11, zq, q3', q4', q5', q11']; done)) (fun E0 => ?_); refine (Classical.em (jj = iq)).elim (fun E1 => by rw [E1]; first | (left; simp only [vsAll, ↓reduceIte, reduceCtorEq, eq_self]; done) | (right; simp only [vsAll, ↓reduceIte, eq_self, q11]; done)) (fun E1 => ?_); refine (Classical.em (jj = i5)).elim (fun E2 => by rw [E2]; first | (left; simp only [vsAll, ↓reduceIte, reduceCtorEq, eq_self, q5']; done) | (right; simp only [vsAll, ↓reduceIte, eq_self, d35', B6, q5']; done)) (fun E2 => ?_); refine (Classical.em (jj = i4)).elim (fun E3 => by rw [E3]; first | (left; simp only [vsAll, ↓reduceIte, reduceCtorEq, eq_self, d45, q4']; done) | (right; simp only [vsAll, ↓reduceIte, eq_self, d45, d34', B6, q4']; done)) (fun E3 => ?_); refine (Classical.em (jj = i3)).elim (fun E4 => by rw [E4]; first | (left; simp only [vsAll, ↓reduceIte, reduceCtorEq, eq_self, d34, d35, q3']; done) | (right; simp only [vsAll, ↓reduceIte, eq_self, d34, d35, B6, q3']; done)) (fun E4 => ?_); right; simp only [vsAll, ↓reduceIte, eq_self, E0, E1, E2, E3, E4])
    ·obtain ⟨a, l⟩ := y
     obtain ⟨hl, hle, hal⟩ := hy
     simp only [] at hl hle hal
     have hl2 : l.length ≤ 2 := by ((try clear z3 z4 z5 d34 d35 d45 d34' d35' d45' B6 g3 g4 g5 z11 g3' g4' g5' q3 q4 q5 q11 zq q3' q4' q5' q11'); omega)
     simp only [vsAll, binA, binLitA, intA, opA, dstOk, Nat.reduceLT, Nat.reduceEqDiff, ↓reduceIte, eq_self]
     refine condD (fun hd2 => ?_) (fun hd2 => ?_)
     ·simp only [vsAll, okAll, stAll, opsA, opA, dstOk, Nat.reduceLT, Nat.reduceEqDiff, ↓reduceIte, eq_self]
      refine callK (dwf_tri kb i3 a 3 _ (by ((try clear z3 z4 z5 d34 d35 d45 d34' d35' d45' B6 g3 g4 g5 z11 g3' g4' g5' q3 q4 q5 q11 zq q3' q4' q5' q11'); omega)) (by ((try clear z3 z4 z5 d34 d35 d45 d34' d35' d45' B6 g3 g4 g5 z11 g3' g4' g5' q3 q4 q5 q11 zq q3' q4' q5' q11'); omega)) (by simp only [vsAll, ↓reduceIte, eq_self, d34, d35, B6, q3'])) ?_
      rintro r H' ⟨t, ht, rfl, rfl⟩
      simp only [vsAll, binA, binLitA, intA, okAll, stAll, opsA, opA, dstOk, Nat.reduceLT, Nat.reduceEqDiff, ↓reduceIte, eq_self]
      refine ⟨by simp only [InR_i64]; ((try clear z3 z4 z5 d34 d35 d45 d34' d35' d45' B6 g3 g4 g5 z11 g3' g4' g5' q3 q4 q5 q11 zq q3' q4' q5' q11'); omega), ?_⟩
      refine callK (dwf_tri kb i3 (a + 1) 3 _ (by ((try clear z3 z4 z5 d34 d35 d45 d34' d35' d45' B6 g3 g4 g5 z11 g3' g4' g5' q3 q4 q5 q11 zq q3' q4' q5' q11'); omega)) (by ((try clear z3 z4 z5 d34 d35 d45 d34' d35' d45' B6 g3 g4 g5 z11 g3' g4' g5' q3 q4 q5 q11 zq q3' q4' q5' q11'); omega)) (by simp only [vsAll, ↓reduceIte, eq_self])) ?_
      rintro r H' ⟨p, hp, rfl, rfl⟩
      simp only [vsAll, loadA, loadRow, partA, partOk, fieldAddrA, okAll, stAll, opsA, opA, dstOk, nilSliceOp, Nat.reduceAdd, Nat.reduceLT, Nat.reduceEqDiff, Nat.reduceBEq, ↓reduceIte, eq_self, wtAll, B6]
      obtain ⟨e1, e2, e3, e4⟩ := dep_ok hl (t := t - 1) (p := p) (by ((try clear z3 z4 z5 d34 d35 d45 d34' d35' d45' B6 g3 g4 g5 z11 g3' g4' g5' q3 q4 q5 q11 zq q3' q4' q5' q11'); omega)) (by ((try clear z3 z4 z5 d34 d35 d45 d34' d35' d45' B6 g3 g4 g5 z11 g3' g4' g5' q3 q4 q5 q11 zq q3' q4' q5' q11'); omega)) (by ((try clear z3 z4 z5 d34 d35 d45 d34' d35' d45' B6 g3 g4 g5 z11 g3' g4' g5' q3 q4 q5 q11 zq q3' q4' q5' q11'); omega))
      have tD := wdepth_tri (hdL [f0, f1, f2] l) w (t - 1) p (fun _ => none) hl.ok.near
      rw [e1, e2] at tD
      generalize hdn : dz (hdL [f0, f1, f2] []) w (t - 1) p = dn at *
      refine callK_pure (tri_borrow (args' := [(hdL [f0, f1, f2] l).av, i64 w, i64 (t - 1), i64 p]) rfl (fun k hk => ?_) (.tuple fun k hk => ?_) tD) ?_
      ·match k, hk with
       | 0, _ =>
         refine .agg rfl fun q hq => ?_
         match q, hq with
         | 0, _ => exact .same _
         | 1, _ => exact .hit (f := sdF l) (by simp only [vsAll, ↓reduceIte, eq_self, q3, q11]) fun _ _ => rfl
       | 1, _ => exact .same _
       | 2, _ => exact .same _
       | 3, _ => exact .same _
      ·match k, hk with
       | 0, _ => exact .lit _
       | 1, _ => exact .lit _
      simp only [vsAll, binA, binLitA, intA, extractA, opA, dstOk, nilSliceOp, Nat.reduceAdd, Nat.reduceLT, Nat.reduceEqDiff, Nat.reduceBEq, ↓reduceIte, eq_self]
      refine vs_draw2 [0, 0, 0, 0, 0, 0, 1, 0, 0, 3, 4, 4, 0, 0, 5, 6, 6, 7, 8, 8, 9, 10, 10, 11] [([0, 1, 2, 3, 4, 5, 7, 8, 12, 13], [2], 6), ([], [2], 9), ([10, 11], [2], 14), ([15, 16], [2], 17), ([18, 19], [], 20), ([21, 22], [], 23)] [] (by decide +kernel) ?_
      simp only [vsAll, loadA, loadRow, partA, partOk, fieldAddrA, okAll, stAll, opsA, opA, dstOk, Nat.reduceAdd, Nat.reduceLT, Nat.reduceEqDiff, ↓reduceIte, eq_self, wtAll, B6]
      refine callK_pure (spanf_tri _ _ _) ?_
      simp only [vsAll, loadA, loadRow, partA, partOk, okAll, stAll, opsA, opA, dstOk, Nat.reduceLT, Nat.reduceEqDiff, ↓reduceIte, eq_self, wtAll, B6]
      refine callK (dwf_tri kb i3 (a + 1 + 1) 2 _ (by ((try clear z3 z4 z5 d34 d35 d45 d34' d35' d45' B6 g3 g4 g5 z11 g3' g4' g5' q3 q4 q5 q11 zq q3' q4' q5' q11'); omega)) (by ((try clear z3 z4 z5 d34 d35 d45 d34' d35' d45' B6 g3 g4 g5 z11 g3' g4' g5' q3 q4 q5 q11 zq q3' q4' q5' q11'); omega)) (by simp only [vsAll, ↓reduceIte, eq_self])) ?_
      rintro r H' ⟨w1, hw1, rfl, rfl⟩
      simp only [vsAll, binA, binLitA, intA, loadA, loadRow, partA, partOk, mmA, okAll, stAll, opsA, opA, dstOk, Nat.reduceLT, Nat.reduceEqDiff, ↓reduceIte, eq_self, wtAll, B6]
      refine ⟨by simp only [InR_i64]; ((try clear z3 z4 z5 d34 d35 d45 d34' d35' d45' B6 g3 g4 g5 z11 g3' g4' g5' q3 q4 q5 q11 zq q3' q4' q5' q11'); omega), ?_⟩
      refine callK (dwf_tri kb i3 (a + 1 + 1 + 1) 2 _ (by ((try clear z3 z4 z5 d34 d35 d45 d34' d35' d45' B6 g3 g4 g5 z11 g3' g4' g5' q3 q4 q5 q11 zq q3' q4' q5' q11'); omega)) (by ((try clear z3 z4 z5 d34 d35 d45 d34' d35' d45' B6 g3 g4 g5 z11 g3' g4' g5' q3 q4 q5 q11 zq q3' q4' q5' q11'); omega)) (by simp only [vsAll, ↓reduceIte, eq_self])) ?_
      rintro r H' ⟨w2, hw2, rfl, rfl⟩
      simp only [vsAll, binA, binLitA, intA, loadA, loadRow, partA, partOk, mmA, okAll, stAll, opsA, opA, dstOk, Nat.reduceLT, Nat.reduceEqDiff, ↓reduceIte, eq_self, wtAll, B6]
      refine ⟨by simp only [InR_i64]; ((try clear z3 z4 z5 d34 d35 d45 d34' d35' d45' B6 g3 g4 g5 z11 g3' g4' g5' q3 q4 q5 q11 zq q3' q4' q5' q11'); omega), callK_pure (spanf_tri _ _ _) ?_⟩
      simp only [vsAll, binA, binLitA, intA, loadA, loadRow, partA, partOk, fieldAddrA, cellA, cellsA, fillA, okParts, buildSliceA, partIdx, elemsA, lensA, partsA, partsOk, opA, newCells, okCells, storeObj, appendA, dstOk, Nat.reduceAdd, Nat.reduceMul, Nat.reduceLT, Nat.reduceLeDiff, Nat.reduceEqDiff, ↓reduceIte, eq_self, wtAll, B6, q3, q11, q11']
      have ea := hadD l ⟨p, t - 1, t - 1, max 0 (dn - w1), min 40 (dn + w2)⟩ (fun i => [[i64 p, i64 (t - 1), i64 (t - 1), i64 (max 0 (dn - w1)), i64 (min 40 (dn + w2))]].getD i []) rfl
      refine ⟨fun q hq => by (have : q = 0 := by ((try clear z3 z4 z5 d34 d35 d45 d34' d35' d45' B6 g3 g4 g5 z11 g3' g4' g5' q3 q4 q5 q11 zq q3' q4' q5' q11'); omega)); subst this; exact ⟨rfl, rfl, rfl, rfl, rfl, trivial⟩, by ((try clear z3 z4 z5 d34 d35 d45 d34' d35' d45' B6 g3 g4 g5 z11 g3' g4' g5' q3 q4 q5 q11 zq q3' q4' q5' q11'); omega), by ((try clear z3 z4 z5 d34 d35 d45 d34' d35' d45' B6 g3 g4 g5 z11 g3' g4' g5' q3 q4 q5 q11 zq q3' q4' q5' q11'); omega), by simp only [InR_i64]; ((try clear z3 z4 z5 d34 d35 d45 d34' d35' d45' B6 g3 g4 g5 z11 g3' g4' g5' q3 q4 q5 q11 zq q3' q4' q5' q11'); omega), loop_next (a + 1 + 1 + 1 + 1, l ++ [⟨p, t - 1, t - 1, max 0 (dn - w1), min 40 (dn + w2)⟩]) ⟨hl.add (by ((try clear z3 z4 z5 d34 d35 d45 d34' d35' d45' B6 g3 g4 g5 z11 g3' g4' g5' q3 q4 q5 q11 zq q3' q4' q5' q11'); omega)) (by ((try clear z3 z4 z5 d34 d35 d45 d34' d35' d45' B6 g3 g4 g5 z11 g3' g4' g5' q3 q4 q5 q11 zq q3' q4' q5' q11'); omega)) (by ((try clear z3 z4 z5 d34 d35 d45 d34' d35' d45' B6 g3 g4 g5 z11 g3' g4' g5' q3 q4 q5 q11 zq q3' q4' q5' q11'); omega)) (by ((try clear z3 z4 z5 d34 d35 d45 d34' d35' d45' B6 g3 g4 g5 z11 g3' g4' g5' q3 q4 q5 q11 zq q3' q4' q5' q11'); omega)) (by ((try clear z3 z4 z5 d34 d35 d45 d34' d35' d45' B6 g3 g4 g5 z11 g3' g4' g5' q3 q4 q5 q11 zq q3' q4' q5' q11'); omega)) (by ((try clear z3 z4 z5 d34 d35 d45 d34' d35' d45' B6 g3 g4 g5 z11 g3' g4' g5' q3 q4 q5 q11 zq q3' q4' q5' q11'); omega)) (by ((try clear z3 z4 z5 d34 d35 d45 d34' d35' d45' B6 g3 g4 g5 z11 g3' g4' g5' q3 q4 q5 q11 zq q3' q4' q5' q11'); omega)), by simp only [List.length_append, List.length_cons, List.length_nil]; ((try clear z3 z4 z5 d34 d35 d45 d34' d35' d45' B6 g3 g4 g5 z11 g3' g4' g5' q3 q4 q5 q11 zq q3' q4' q5' q11'); omega), by show a + 1 + 1 + 1 + 1 ≤ _; simp only [List.length_append, List.length_cons, List.length_nil]; ((try clear z3 z4 z5 d34 d35 d45 d34' d35' d45' B6 g3 g4 g5 z11 g3' g4' g5' q3 q4 q5 q11 zq q3' q4' q5' q11'); omega)⟩ (by simp only [List.length_append, List.length_cons, List.length_nil]; ((try clear z3 z4 z5 d34 d35 d45 d34' d35' d45' B6 g3 g4 g5 z11 g3' g4' g5' q3 q4 q5 q11 zq q3' q4' q5' q11'); omega)) ?_ ?_⟩
      ·simp only [vsAll, Nat.reduceEqDiff, ↓reduceIte, eq_self, List.length_append, Int.natCast_add, Int.natCast_one]
      ·simp only [List.length_append, List.length_cons, List.length_nil, ← ea]
       (refine HSub_eqn fun jj => ?_; refine (Classical.em (jj = i11)).elim (fun E0 => by rw [E0]; first | (left; simp only [vsAll, ↓reduceIte, reduceCtorEq, eq_self]; done) | (right; simp only [vsAll, ↓reduceIte, eq_self]; done)) (fun E0 => ?_); refine (Classical.em (jj = iq)).elim (fun E1 => by rw [E1]; first | (left; simp only [vsAll, ↓reduceIte, reduceCtorEq, eq_self, q11]; done) | (right; simp only [vsAll, ↓reduceIte, eq_self, q11]; done)) (fun E1 => ?_); refine (Classical.em (jj = i5)).elim (fun E2 => by rw [E2]; first | (left; simp only [vsAll, ↓reduceIte, reduceCtorEq, eq_self, B6, q5']; done) | (right; simp only [vsAll, ↓reduceIte, eq_self, d35', B6, q5']; done)) (fun E2 => ?_); refine (Classical.em (jj = i4)).elim (fun E3 => by rw [E3]; first | (left; simp only [vsAll, ↓reduceIte, reduceCtorEq, eq_self, d45, B6, q4']; done) | (right; simp only [vsAll, ↓reduceIte, eq_self, d45, d34', B6, q4']; done)) (fun E3 => ?_); refine (Classical.em (jj = i3)).elim (fun E4 => by rw [E4]; first | (left; simp only [vsAll, ↓reduceIte, reduceCtorEq, eq_self, d34, d35, B6, q3']; done) | (right; simp only [vsAll, ↓reduceIte, eq_self, d34, d35, B6, q3']; done)) (fun E4 => ?_); right; simp only [vsAll, ↓reduceIte, eq_self, E0, E1, E2, E3, E4])
     ·have hlc : l.length = c := by ((try clear z3 z4 z5 d34 d35 d45 d34' d35' d45' B6 g3 g4 g5 z11 g3' g4' g5' q3 q4 q5 q11 zq q3' q4' q5' q11'); omega)
      simp only [vsAll, ↓reduceIte, eq_self]
      refine cutG_ent (Ent.of [(3, dwfAV i3 N b), (4, .ref i4 0 2 0 0), (7, fwAV i4 i5), (11, .ref i11 0 5 0 0), (12, i64 w)] (by simp only [vsAll, Nat.reduceEqDiff, ↓reduceIte, eq_self]) HSub_rfl ?_)
      refine cutG_ent (Ent.freezeBox (s' := Fr.of [(3, dwfAV i3 N b), (4, .ref i4 0 2 0 0), (7, fwAV i4 i5), (11, .ref i11 0 5 0 0), (12, i64 w)]) (id := iq) (st := 5) (n := l.length) (f := sdF l) (j := i11) (st' := 5) (n' := 1) (g := fun _ => [.lit (.slice none 0 0), i64 0, .lit (.slice none 0 0), flAV 3 (hdL [f0, f1, f2] []).fl, .sl iq 5 l.length]) (g' := fun _ => [.lit (.slice none 0 0), i64 0, .lit (.slice none 0 0), flAV 3 (hdL [f0, f1, f2] []).fl, .rsl l.length 5 (sdF l)]) (by simp only [vsAll, ↓reduceIte, eq_self, q11]) (Hp.set_same _ _ _) (fun t => .rfl) (fun _ _ => rfl) (fun q d hq hd => ?_) ?_)
      ·match d, hd with
       | 0, _ => exact .rfl
       | 1, _ => exact .rfl
       | 2, _ => exact .rfl
       | 3, _ => exact .rfl
       | 4, _ => exact .hit
      refine cutG_of ([f0, f1, f2], l, w, i11, a) ⟨hl, by show w ≤ 19; ((try clear z3 z4 z5 d34 d35 d45 d34' d35' d45' B6 g3 g4 g5 z11 g3' g4' g5' q3 q4 q5 q11 zq q3' q4' q5' q11'); omega), by show a ≤ 90; ((try clear z3 z4 z5 d34 d35 d45 d34' d35' d45' B6 g3 g4 g5 z11 g3' g4' g5' q3 q4 q5 q11 zq q3' q4' q5' q11'); omega), z11, g3, g4, g5⟩ (by simp only [vsAll, Nat.reduceEqDiff, ↓reduceIte, eq_self]) rfl (HSub_eqn fun jj => ?_)
      by_cases e11 : jj = i11
      ·right; subst e11; simp [Hp.set]
      by_cases eq : jj = iq
      ·left; subst eq; simp [Hp.set, q5, q4, q3, q11, zq]
      right; simp [Hp.set, Hp.del, eq, e11]
   ·obtain ⟨f, l, w, i11, a⟩ := y
    obtain ⟨hd, hw, ha, z11, g3, g4, g5⟩ := hy
    simp only [] at hd hw ha z11 g3 g4 g5
    have g3' : ¬ i3 = i11 := fun e => g3 e.symm
    have g4' : ¬ i4 = i11 := fun e => g4 e.symm
    have g5' : ¬ i5 = i11 := fun e => g5 e.symm
    have hpos : 0 < (allT ⟨sm, so⟩).length := List.length_pos_of_mem ((mem_all ok.n1).2 tr)
    refine wps_cutG4 (m := mset [11, 17, 18, 21]) (σ := Pu × Nat × List Int × List Int × Nat) (fun y => AfP y.1 y.2.1 y.2.2.1 y.2.2.2.1 ∧ H y.2.2.2.2 = none)
     (fun y => [(11, .ref y.2.2.2.2 0 5 0 0), (12, i64 (y.2.1 : Nat)), (17, intsAV y.2.2.1), (18, intsAV y.2.2.2.1)])
     (fun y => H.set y.2.2.2.2 (.box 5 1 fun _ => y.1.cs)) (fun _ => []) ?_ fun y hy => ?_
    ·unfold afH
     skip
     simp only [vsAll, okAll, stAll, opsA, opA, dstOk, nilA, Nat.reduceLT, Nat.reduceEqDiff, Nat.reduceBEq, ↓reduceIte, eq_self, wtAll, Try.ntmps3]
     intro j17 Ag; (try simp only [ite_none] at Ag); intro j18 Af; (try simp only [ite_none] at Af)
     obtain ⟨A8, Ab, Ad, A6, Aw⟩ : ¬ j17 = i3 ∧ ¬ j17 = i4 ∧ ¬ j17 = i5 ∧ ¬ j17 = i11 ∧ H j17 = none := by simp_all
     have B3 : ¬ i3 = j17 := fun e => A8 e.symm
     have Ay : ¬ i4 = j17 := fun e => Ab e.symm
     have B1 : ¬ i5 = j17 := fun e => Ad e.symm
     have Av : ¬ i11 = j17 := fun e => A6 e.symm
     skip
     obtain ⟨Aa, A9, Ac, A5, A4, Ax⟩ : ¬ j18 = i3 ∧ ¬ j18 = i4 ∧ ¬ j18 = i5 ∧ ¬ j18 = i11 ∧ ¬ j18 = j17 ∧ H j18 = none := by simp_all
     have Az : ¬ i3 = j18 := fun e => Aa e.symm
     have B0 : ¬ i4 = j18 := fun e => A9 e.symm
     have B2 : ¬ i5 = j18 := fun e => Ac e.symm
     have Au : ¬ i11 = j18 := fun e => A5 e.symm
     have At : ¬ j17 = j18 := fun e => A4 e.symm
     skip
     refine callK (dwf_tri kb i3 a 5 _ (by ((try clear z3 z4 z5 d34 d35 d45 d34' d35' d45' z11 g3 g4 g5 g3' g4' g5' Ag Af A8 B3 Ab Ay Ad B1 A6 Av Aw Aa Az A9 B0 Ac B2 A5 Au A4 At Ax); omega)) (by ((try clear z3 z4 z5 d34 d35 d45 d34' d35' d45' z11 g3 g4 g5 g3' g4' g5' Ag Af A8 B3 Ab Ay Ad B1 A6 Av Aw Aa Az A9 B0 Ac B2 A5 Au A4 At Ax); omega)) (by simp only [vsAll, ↓reduceIte, eq_self, d34, d35, g3', Ag, Af])) ?_
     rintro r H' ⟨c, hc, rfl, rfl⟩
     obtain ⟨c, rfl⟩ : ∃ q : Nat, c = (q : Int) := ⟨c.toNat, by ((try clear z3 z4 z5 d34 d35 d45 d34' d35' d45' z11 g3 g4 g5 g3' g4' g5' Ag Af A8 B3 Ab Ay Ad B1 A6 Av Aw Aa Az A9 B0 Ac B2 A5 Au A4 At Ax); omega)⟩
     simp only [vsAll, opA, dstOk, Nat.reduceLT, eq_self]
     refine vs_entL (Ent.nilBox 2 (spanF []) (fun id _ => [.sl id 2 0, i64 0, .lit (.slice none 0 0), flAV 3 (hdL f []).fl, .rsl l.length 5 (sdF l)]) (j := i11) (st' := 5) (n' := 1) (g := fun _ => [.lit (.slice none 0 0), i64 0, .lit (.slice none 0 0), flAV 3 (hdL f []).fl, .rsl l.length 5 (sdF l)]) (by simp only [vsAll, ↓reduceIte, eq_self, g3, Ag, Af]) (fun _ _ _ => rfl) (fun id q d hq hd => ?_) fun jf hjf => ?_)
     ·match d, hd with
      | 0, _ => exact .hit
      | 1, _ => exact .rfl
      | 2, _ => exact .rfl
      | 3, _ => exact .rfl
      | 4, _ => exact .rfl
     simp only [Hp.set_none] at hjf
     obtain ⟨A0, A7, Ae, A3, A1, A2, B4⟩ : ¬ jf = i3 ∧ ¬ jf = i4 ∧ ¬ jf = i5 ∧ ¬ jf = i11 ∧ ¬ jf = j17 ∧ ¬ jf = j18 ∧ H jf = none := by simp_all
     have Am : ¬ i3 = jf := fun e => A0 e.symm
     have Ar : ¬ i4 = jf := fun e => A7 e.symm
     have As : ¬ i5 = jf := fun e => Ae e.symm
     have B5 : ¬ i11 = jf := fun e => A3 e.symm
     have Ao : ¬ j17 = jf := fun e => A1 e.symm
     have An : ¬ j18 = jf := fun e => A2 e.symm
     skip
     refine vs_loop (σ := Nat × List (Int × Int) × List Int) (fun y => FlA y.2.1 y.2.2 ∧ y.2.1.length ≤ c ∧ y.1 ≤ 91 + 2 * y.2.1.length) (fun y => [(3, dwfAV i3 N b), (4, .ref i4 0 2 0 0), (7, fwAV i4 i5), (11, .ref i11 0 5 0 0), (12, i64 w), (17, .sl j17 1 y.2.2.length), (18, .sl j18 1 0), (160, i64 c), (161, i64 y.2.1.length)])
      (fun y => ((((((H.set i3 (.box 1 1 fun _ => [i64 y.1])).set i4 (.box 2 1 fun _ => [lkAV sm, lsAV so])).set i5 (.box 1 1 fun _ => [intsAV u])).set j17 (.row 1 y.2.2.length (intF y.2.2))).set j18 (.row 1 0 (intF []))).set jf (.row 2 y.2.1.length (spanF y.2.1))).set i11 (.box 5 1 fun _ => [.sl jf 2 y.2.1.length, i64 0, .lit (.slice none 0 0), flAV 3 (hdL f []).fl, .rsl l.length 5 (sdF l)])) (fun y => c - y.2.1.length) (a + 1, [], []) ⟨FlA.nil, Nat.zero_le _, by simp only [List.length_nil]; ((try clear z3 z4 z5 d34 d35 d45 d34' d35' d45' z11 g3 g4 g5 g3' g4' g5' Ag Af A8 B3 Ab Ay Ad B1 A6 Av Aw Aa Az A9 B0 Ac B2 A5 Au A4 At Ax A0 Am A7 Ar Ae As A3 B5 A1 Ao A2 An B4); omega)⟩ ?_ ?_ fun y hy => ?_
     ·simp only [vsAll, Nat.reduceEqDiff, ↓reduceIte, eq_self, Int.natCast_zero]
     ·simp only [List.length_nil]
      refine HSub_put_eq (by simp only [vsAll, ↓reduceIte, eq_self]) (HSub_put_eq (by simp only [vsAll, ↓reduceIte, eq_self, A3]) (HSub_put_le (o' := .row 1 0 fun _ => []) (by simp only [vsAll, ↓reduceIte, eq_self, Af, An]) (row_ext fun q hq => absurd hq (Nat.not_lt_zero q)) (HSub_put_le (o' := .row 1 0 fun _ => []) (by simp only [vsAll, ↓reduceIte, eq_self, Ag, Af, Ao]) (row_ext fun q hq => absurd hq (Nat.not_lt_zero q)) ?_)))
      (refine HSub_eqn fun jj => ?_; refine (Classical.em (jj = i11)).elim (fun E0 => by rw [E0]; first | (left; simp only [vsAll, ↓reduceIte, eq_self, z11, g3, g4, g5]; done) | (right; simp only [vsAll, binA, binLitA, intA, aggA, aggV, boolA, nilA2, isConst, unA, loadA, loadRow, partA, partOk, fieldAddrA, indexAddrA, indexA, fieldA, extractA, lenA, nilCheckA, boxA, boxZ, cellA, cellsA, fillA, okParts, buildSliceA, buildMutA, makeSliceA, partIdx, elemsA, lensA, ifaceA, convA, mmA, pickA, okAll, stAll, opsA, partsA, partsOk, opA, allocA, boxMutA, newCells, okCells, storeObj, appendA, guardV, taA, nM, mapUpA, rangeA, nextA, entryA, lookA, sliceA, sliceM, sliceS, boundsA, opO, okO, copyA, dstOk, nilA, quietOk, nilSliceOp, deferV, panA, resA, argFr, retA.eq_1, retA.eq_2, Nat.reduceAdd, Nat.reduceSub, Nat.reduceMul, Nat.reduceLT, Nat.reduceLeDiff, Nat.reduceEqDiff, Nat.reduceBEq, Int.reduceAdd, Int.reduceSub, Int.reduceMul, Int.reduceNeg, Int.reduceLE, Int.reduceLT, Int.reduceEq, Int.reduceNe, Int.reduceToNat, ↓reduceIte, reduceCtorEq, implies_true, forall_const, eq_self, ne_eq, wtAll, Try.ntmps3, Try.results3, z3, z4, z5, d34, d35, d45, d34', d35', d45', z11, g3, g4, g5, g3', g4', g5', Ag, Af, A8, B3, Ab, Ay, Ad, B1, A6, Av, Aw, Aa, Az, A9, B0, Ac, B2, A5, Au, A4, At, Ax, A0, Am, A7, Ar, Ae, As, A3, B5, A1, Ao, A2, An, B4]; done)) (fun E0 => ?_); refine (Classical.em (jj = jf)).elim (fun E1 => by rw [E1]; first | (left; simp only [vsAll, ↓reduceIte, eq_self, A0, A7, Ae, B4]; done) | (right; simp only [vsAll, binA, binLitA, intA, aggA, aggV, boolA, nilA2, isConst, unA, loadA, loadRow, partA, partOk, fieldAddrA, indexAddrA, indexA, fieldA, extractA, lenA, nilCheckA, boxA, boxZ, cellA, cellsA, fillA, okParts, buildSliceA, buildMutA, makeSliceA, partIdx, elemsA, lensA, ifaceA, convA, mmA, pickA, okAll, stAll, opsA, partsA, partsOk, opA, allocA, boxMutA, newCells, okCells, storeObj, appendA, guardV, taA, nM, mapUpA, rangeA, nextA, entryA, lookA, sliceA, sliceM, sliceS, boundsA, opO, okO, copyA, dstOk, nilA, quietOk, nilSliceOp, deferV, panA, resA, argFr, retA.eq_1, retA.eq_2, Nat.reduceAdd, Nat.reduceSub, Nat.reduceMul, Nat.reduceLT, Nat.reduceLeDiff, Nat.reduceEqDiff, Nat.reduceBEq, Int.reduceAdd, Int.reduceSub, Int.reduceMul, Int.reduceNeg, Int.reduceLE, Int.reduceLT, Int.reduceEq, Int.reduceNe, Int.reduceToNat, ↓reduceIte, reduceCtorEq, implies_true, forall_const, eq_self, ne_eq, wtAll, Try.ntmps3, Try.results3, z3, z4, z5, d34, d35, d45, d34', d35', d45', z11, g3, g4, g5, g3', g4', g5', Ag, Af, A8, B3, Ab, Ay, Ad, B1, A6, Av, Aw, Aa, Az, A9, B0, Ac, B2, A5, Au, A4, At, Ax, A0, Am, A7, Ar, Ae, As, A3, B5, A1, Ao, A2, An, B4]; done)) (fun E1 => ?_); refine (Classical.em (jj = j17)).elim (fun E2 => by rw [E2]; first | (left; simp only [vsAll, ↓reduceIte, eq_self, Ag]; done) | (right; simp only [vsAll, binA, binLitA, intA, aggA, aggV, boolA, nilA2, isConst, unA, loadA, loadRow, partA, partOk, fieldAddrA, indexAddrA, indexA, fieldA, extractA, lenA, nilCheckA, boxA, boxZ, cellA, cellsA, fillA, okParts, buildSliceA, buildMutA, makeSliceA, partIdx, elemsA, lensA, ifaceA, convA, mmA, pickA, okAll, stAll, opsA, partsA, partsOk, opA, allocA, boxMutA, newCells, okCells, storeObj, appendA, guardV, taA, nM, mapUpA, rangeA, nextA, entryA, lookA, sliceA, sliceM, sliceS, boundsA, opO, okO, copyA, dstOk, nilA, quietOk, nilSliceOp, deferV, panA, resA, argFr, retA.eq_1, retA.eq_2, Nat.reduceAdd, Nat.reduceSub, Nat.reduceMul, Nat.reduceLT, Nat.reduceLeDiff, Nat.reduceEqDiff, Nat.reduceBEq, Int.reduceAdd, Int.reduceSub, Int.reduceMul, Int.reduceNeg, Int.reduceLE, Int.reduceLT, Int.reduceEq, Int.reduceNe, Int.reduceToNat, ↓reduceIte, reduceCtorEq, implies_true, forall_const, eq_self, ne_eq, wtAll, Try.ntmps3, Try.results3, z3, z4, z5, d34, d35, d45, d34', d35', d45', z11, g3, g4, g5, g3', g4', g5', Ag, Af, A8, B3, Ab, Ay, Ad, B1, A6, Av, Aw, Aa, Az, A9, B0, Ac, B2, A5, Au, A4, At, Ax, A0, Am, A7, Ar, Ae, As, A3, B5, A1, Ao, A2, An, B4]; done)) (fun E2 => ?_); refine (Classical.em (jj = j18)).elim (fun E3 => by rw [E3]; first | (left; simp only [vsAll, ↓reduceIte, eq_self, Af]; done) | (right; simp only [vsAll, binA, binLitA, intA, aggA, aggV, boolA, nilA2, isConst, unA, loadA, loadRow, partA, partOk, fieldAddrA, indexAddrA, indexA, fieldA, extractA, lenA, nilCheckA, boxA, boxZ, cellA, cellsA, fillA, okParts, buildSliceA, buildMutA, makeSliceA, partIdx, elemsA, lensA, ifaceA, convA, mmA, pickA, okAll, stAll, opsA, partsA, partsOk, opA, allocA, boxMutA, newCells, okCells, storeObj, appendA, guardV, taA, nM, mapUpA, rangeA, nextA, entryA, lookA, sliceA, sliceM, sliceS, boundsA, opO, okO, copyA, dstOk, nilA, quietOk, nilSliceOp, deferV, panA, resA, argFr, retA.eq_1, retA.eq_2, Nat.reduceAdd, Nat.reduceSub, Nat.reduceMul, Nat.reduceLT, Nat.reduceLeDiff, Nat.reduceEqDiff, Nat.reduceBEq, Int.reduceAdd, Int.reduceSub, Int.reduceMul, Int.reduceNeg, Int.reduceLE, Int.reduceLT, Int.reduceEq, Int.reduceNe, Int.reduceToNat, ↓reduceIte, reduceCtorEq, implies_true, forall_const, eq_self, ne_eq, wtAll, Try.ntmps3, Try.results3, z3, z4, z5, d34, d35, d45, d34', d35', d45', z11, g3, g4, g5, g3', g4', g5', Ag, Af, A8, B3, Ab, Ay, Ad, B1, A6, Av, Aw, Aa, Az, A9, B0, Ac, B2, A5, Au, A4, At, Ax, A0, Am, A7, Ar, Ae, As, A3, B5, A1, Ao, A2, An, B4]; done)) (fun E3 => ?_); refine (Classical.em (jj = i5)).elim (fun E4 => by rw [E4]; first | (left; simp only [vsAll, ↓reduceIte, reduceCtorEq, eq_self]; done) | (right; simp only [vsAll, ↓reduceIte, eq_self, d35', g5', Ag, Af, As]; done)) (fun E4 => ?_); refine (Classical.em (jj = i4)).elim (fun E5 => by rw [E5]; first | (left; simp only [vsAll, ↓reduceIte, reduceCtorEq, eq_self, d45]; done) | (right; simp only [vsAll, ↓reduceIte, eq_self, d45, d34', g4', Ag, Af, Ar]; done)) (fun E5 => ?_); refine (Classical.em (jj = i3)).elim (fun E6 => by rw [E6]; first | (left; simp only [vsAll, ↓reduceIte, reduceCtorEq, eq_self, d34, d35]; done) | (right; simp only [vsAll, ↓reduceIte, eq_self, d34, d35, g3', Am]; done)) (fun E6 => ?_); right; simp only [vsAll, ↓reduceIte, eq_self, E0, E1, E2, E3, E4, E5, E6])
     ·obtain ⟨a, fl, cm⟩ := y
      obtain ⟨hf, hle, hal⟩ := hy
      simp only [] at hf hle hal
      have hcl := hf.len
      have hf4 : fl.length ≤ 4 := hf.n
      simp only [hcl]
      simp only [vsAll, binA, binLitA, intA, opA, dstOk, Nat.reduceLT, Nat.reduceEqDiff, ↓reduceIte, eq_self]
      refine condD (fun hd2 => ?_) (fun hd2 => ?_)
      ·simp only [vsAll, okAll, stAll, opsA, opA, dstOk, Nat.reduceLT, Nat.reduceEqDiff, ↓reduceIte, eq_self]
       refine callK (dwf_tri kb i3 a 13 _ (by ((try clear z3 z4 z5 d34 d35 d45 d34' d35' d45' z11 g3 g4 g5 g3' g4' g5' Ag Af A8 B3 Ab Ay Ad B1 A6 Av Aw Aa Az A9 B0 Ac B2 A5 Au A4 At Ax A0 Am A7 Ar Ae As A3 B5 A1 Ao A2 An B4); omega)) (by ((try clear z3 z4 z5 d34 d35 d45 d34' d35' d45' z11 g3 g4 g5 g3' g4' g5' Ag Af A8 B3 Ab Ay Ad B1 A6 Av Aw Aa Az A9 B0 Ac B2 A5 Au A4 At Ax A0 Am A7 Ar Ae As A3 B5 A1 Ao A2 An B4); omega)) (by simp only [vsAll, ↓reduceIte, eq_self, d34, d35, g3', Ag, Af, Am])) ?_
       rintro r H' ⟨dr, hdr, rfl, rfl⟩
       simp only [vsAll, okAll, stAll, opsA, opA, dstOk, Nat.reduceLT, Nat.reduceEqDiff, ↓reduceIte, eq_self]
       refine callK (dwf_tri kb i3 (a + 1) 5 _ (by ((try clear z3 z4 z5 d34 d35 d45 d34' d35' d45' z11 g3 g4 g5 g3' g4' g5' Ag Af A8 B3 Ab Ay Ad B1 A6 Av Aw Aa Az A9 B0 Ac B2 A5 Au A4 At Ax A0 Am A7 Ar Ae As A3 B5 A1 Ao A2 An B4); omega)) (by ((try clear z3 z4 z5 d34 d35 d45 d34' d35' d45' z11 g3 g4 g5 g3' g4' g5' Ag Af A8 B3 Ab Ay Ad B1 A6 Av Aw Aa Az A9 B0 Ac B2 A5 Au A4 At Ax A0 Am A7 Ar Ae As A3 B5 A1 Ao A2 An B4); omega)) (by simp only [vsAll, ↓reduceIte, eq_self])) ?_
       rintro r H' ⟨li, hli, rfl, rfl⟩
       simp only [vsAll, binA, binLitA, intA, loadA, loadRow, partA, partOk, okAll, stAll, opsA, opA, dstOk, nilSliceOp, Nat.reduceLT, Nat.reduceEqDiff, Nat.reduceBEq, ↓reduceIte, eq_self, wtAll, d45, d34', g4', Ag, Af, Ar]
       refine ⟨by simp only [InR_i64]; ((try clear z3 z4 z5 d34 d35 d45 d34' d35' d45' z11 g3 g4 g5 g3' g4' g5' Ag Af A8 B3 Ab Ay Ad B1 A6 Av Aw Aa Az A9 B0 Ac B2 A5 Au A4 At Ax A0 Am A7 Ar Ae As A3 B5 A1 Ao A2 An B4); omega), ?_⟩
       refine callK_pure (wlflow_tri ⟨sm, so⟩ dr (li - 2) _ ok hpos (by ((try clear z3 z4 z5 d34 d35 d45 d34' d35' d45' z11 g3 g4 g5 g3' g4' g5' Ag Af A8 B3 Ab Ay Ad B1 A6 Av Aw Aa Az A9 B0 Ac B2 A5 Au A4 At Ax A0 Am A7 Ar Ae As A3 B5 A1 Ao A2 An B4); omega)) (by ((try clear z3 z4 z5 d34 d35 d45 d34' d35' d45' z11 g3 g4 g5 g3' g4' g5' Ag Af A8 B3 Ab Ay Ad B1 A6 Av Aw Aa Az A9 B0 Ac B2 A5 Au A4 At Ax A0 Am A7 Ar Ae As A3 B5 A1 Ao A2 An B4); omega))) ?_
       simp only [vsAll, extractA, cellA, okAll, stAll, opsA, opA, allocA, newCells, okCells, storeObj, dstOk, nilSliceOp, Nat.reduceAdd, Nat.reduceLT, Nat.reduceEqDiff, Nat.reduceBEq, ↓reduceIte, eq_self, wtAll]
       intro i21 Bo; (try simp only [ite_none] at Bo)
       obtain ⟨Bh, Bn, Bi, Bj, Bm, Bk, Bl, Bp⟩ : ¬ i21 = i3 ∧ ¬ i21 = i4 ∧ ¬ i21 = i5 ∧ ¬ i21 = i11 ∧ ¬ i21 = j17 ∧ ¬ i21 = j18 ∧ ¬ i21 = jf ∧ H i21 = none := by simp_all
       have Bu : ¬ i3 = i21 := fun e => Bh e.symm
       have Bq : ¬ i4 = i21 := fun e => Bn e.symm
       have Br : ¬ i5 = i21 := fun e => Bi e.symm
       have Bw : ¬ i11 = i21 := fun e => Bj e.symm
       have Bt : ¬ j17 = i21 := fun e => Bm e.symm
       have Bv : ¬ j18 = i21 := fun e => Bk e.symm
       have Bs : ¬ jf = i21 := fun e => Bl e.symm
       skip
       have hfl := fl_bd ok hpos dr (li - 2)
       have hin := flB_in ok tr dr (li - 2)
       dsimp only [] at hin
       generalize hF : flV ⟨sm, so⟩ dr (li - 2) = F at *
       obtain ⟨F1, F2⟩ := F
       dsimp only [] at hfl hin ⊢
       refine callK_pure (flow_tri hs i4 i5 dr (li - 2) _ (by ((try clear z3 z4 z5 d34 d35 d45 d34' d35' d45' z11 g3 g4 g5 g3' g4' g5' Ag Af A8 B3 Ab Ay Ad B1 A6 Av Aw Aa Az A9 B0 Ac B2 A5 Au A4 At Ax A0 Am A7 Ar Ae As A3 B5 A1 Ao A2 An B4 Bo Bh Bu Bn Bq Bi Br Bj Bw Bm Bt Bk Bv Bl Bs Bp); omega)) (by ((try clear z3 z4 z5 d34 d35 d45 d34' d35' d45' z11 g3 g4 g5 g3' g4' g5' Ag Af A8 B3 Ab Ay Ad B1 A6 Av Aw Aa Az A9 B0 Ac B2 A5 Au A4 At Ax A0 Am A7 Ar Ae As A3 B5 A1 Ao A2 An B4 Bo Bh Bu Bn Bq Bi Br Bj Bw Bm Bt Bk Bv Bl Bs Bp); omega)) (x := lsAV so) (by simp only [vsAll, ↓reduceIte, eq_self, d45, d34', g4', Ag, Af, Ar, Bo]) (by simp only [vsAll, ↓reduceIte, eq_self, d35', g5', Ag, Af, As, Bo])) ?_
       generalize flS sm u dr (li - 2) sm.length = n at *
       have c1 : decide (n < F1) = false := decide_eq_false (by ((try clear z3 z4 z5 d34 d35 d45 d34' d35' d45' z11 g3 g4 g5 g3' g4' g5' Ag Af A8 B3 Ab Ay Ad B1 A6 Av Aw Aa Az A9 B0 Ac B2 A5 Au A4 At Ax A0 Am A7 Ar Ae As A3 B5 A1 Ao A2 An B4 Bo Bh Bu Bn Bq Bi Br Bj Bw Bm Bt Bk Bv Bl Bs Bp); omega))
       have c2 : decide (n > F2) = false := decide_eq_false (by ((try clear z3 z4 z5 d34 d35 d45 d34' d35' d45' z11 g3 g4 g5 g3' g4' g5' Ag Af A8 B3 Ab Ay Ad B1 A6 Av Aw Aa Az A9 B0 Ac B2 A5 Au A4 At Ax A0 Am A7 Ar Ae As A3 B5 A1 Ao A2 An B4 Bo Bh Bu Bn Bq Bi Br Bj Bw Bm Bt Bk Bv Bl Bs Bp); omega))
       simp only [vsAll, binA, binLitA, intA, loadA, loadRow, partA, partOk, fieldAddrA, cellA, cellsA, okParts, buildSliceA, partIdx, elemsA, lensA, pickA, partsA, partsOk, opA, newCells, okCells, storeObj, appendA, guardV, dstOk, nilSliceOp, Nat.reduceAdd, Nat.reduceMul, Nat.reduceLT, Nat.reduceLeDiff, Nat.reduceEqDiff, Nat.reduceBEq, ↓reduceIte, implies_true, eq_self, wtAll, g3, Ag, Af, A0, A3, B5, Ao, Bo, c1, c2]
       have ea := app_spans fl F1 F2 (fun i => [[i64 F1, i64 F2]].getD i []) rfl
       have ec := app_ints cm n (fun i => [[i64 n]].getD i []) rfl
       rw [hcl] at ec
       refine ⟨fun q hq => by (have : q = 0 := by ((try clear z3 z4 z5 d34 d35 d45 d34' d35' d45' z11 g3 g4 g5 g3' g4' g5' Ag Af A8 B3 Ab Ay Ad B1 A6 Av Aw Aa Az A9 B0 Ac B2 A5 Au A4 At Ax A0 Am A7 Ar Ae As A3 B5 A1 Ao A2 An B4 Bo Bh Bu Bn Bq Bi Br Bj Bw Bm Bt Bk Bv Bl Bs Bp); omega)); subst this; exact ⟨rfl, rfl, trivial⟩, by ((try clear z3 z4 z5 d34 d35 d45 d34' d35' d45' z11 g3 g4 g5 g3' g4' g5' Ag Af A8 B3 Ab Ay Ad B1 A6 Av Aw Aa Az A9 B0 Ac B2 A5 Au A4 At Ax A0 Am A7 Ar Ae As A3 B5 A1 Ao A2 An B4 Bo Bh Bu Bn Bq Bi Br Bj Bw Bm Bt Bk Bv Bl Bs Bp); omega), by ((try clear z3 z4 z5 d34 d35 d45 d34' d35' d45' z11 g3 g4 g5 g3' g4' g5' Ag Af A8 B3 Ab Ay Ad B1 A6 Av Aw Aa Az A9 B0 Ac B2 A5 Au A4 At Ax A0 Am A7 Ar Ae As A3 B5 A1 Ao A2 An B4 Bo Bh Bu Bn Bq Bi Br Bj Bw Bm Bt Bk Bv Bl Bs Bp); omega), fun q hq => by (have : q = 0 := by ((try clear z3 z4 z5 d34 d35 d45 d34' d35' d45' z11 g3 g4 g5 g3' g4' g5' Ag Af A8 B3 Ab Ay Ad B1 A6 Av Aw Aa Az A9 B0 Ac B2 A5 Au A4 At Ax A0 Am A7 Ar Ae As A3 B5 A1 Ao A2 An B4 Bo Bh Bu Bn Bq Bi Br Bj Bw Bm Bt Bk Bv Bl Bs Bp); omega)); subst this; exact ⟨rfl, trivial⟩, by ((try clear z3 z4 z5 d34 d35 d45 d34' d35' d45' z11 g3 g4 g5 g3' g4' g5' Ag Af A8 B3 Ab Ay Ad B1 A6 Av Aw Aa Az A9 B0 Ac B2 A5 Au A4 At Ax A0 Am A7 Ar Ae As A3 B5 A1 Ao A2 An B4 Bo Bh Bu Bn Bq Bi Br Bj Bw Bm Bt Bk Bv Bl Bs Bp); omega), by ((try clear z3 z4 z5 d34 d35 d45 d34' d35' d45' z11 g3 g4 g5 g3' g4' g5' Ag Af A8 B3 Ab Ay Ad B1 A6 Av Aw Aa Az A9 B0 Ac B2 A5 Au A4 At Ax A0 Am A7 Ar Ae As A3 B5 A1 Ao A2 An B4 Bo Bh Bu Bn Bq Bi Br Bj Bw Bm Bt Bk Bv Bl Bs Bp); omega), by simp only [InR_i64]; ((try clear z3 z4 z5 d34 d35 d45 d34' d35' d45' z11 g3 g4 g5 g3' g4' g5' Ag Af A8 B3 Ab Ay Ad B1 A6 Av Aw Aa Az A9 B0 Ac B2 A5 Au A4 At Ax A0 Am A7 Ar Ae As A3 B5 A1 Ao A2 An B4 Bo Bh Bu Bn Bq Bi Br Bj Bw Bm Bt Bk Bv Bl Bs Bp); omega), loop_next (a + 1 + 1, fl ++ [(F1, F2)], cm ++ [n]) ⟨hf.add (by ((try clear z3 z4 z5 d34 d35 d45 d34' d35' d45' z11 g3 g4 g5 g3' g4' g5' Ag Af A8 B3 Ab Ay Ad B1 A6 Av Aw Aa Az A9 B0 Ac B2 A5 Au A4 At Ax A0 Am A7 Ar Ae As A3 B5 A1 Ao A2 An B4 Bo Bh Bu Bn Bq Bi Br Bj Bw Bm Bt Bk Bv Bl Bs Bp); omega)) hfl.1 hin.1 hin.2 hfl.2, by simp only [List.length_append, List.length_cons, List.length_nil]; ((try clear z3 z4 z5 d34 d35 d45 d34' d35' d45' z11 g3 g4 g5 g3' g4' g5' Ag Af A8 B3 Ab Ay Ad B1 A6 Av Aw Aa Az A9 B0 Ac B2 A5 Au A4 At Ax A0 Am A7 Ar Ae As A3 B5 A1 Ao A2 An B4 Bo Bh Bu Bn Bq Bi Br Bj Bw Bm Bt Bk Bv Bl Bs Bp); omega), by show a + 1 + 1 ≤ _; simp only [List.length_append, List.length_cons, List.length_nil]; ((try clear z3 z4 z5 d34 d35 d45 d34' d35' d45' z11 g3 g4 g5 g3' g4' g5' Ag Af A8 B3 Ab Ay Ad B1 A6 Av Aw Aa Az A9 B0 Ac B2 A5 Au A4 At Ax A0 Am A7 Ar Ae As A3 B5 A1 Ao A2 An B4 Bo Bh Bu Bn Bq Bi Br Bj Bw Bm Bt Bk Bv Bl Bs Bp); omega)⟩ (by simp only [List.length_append, List.length_cons, List.length_nil]; ((try clear z3 z4 z5 d34 d35 d45 d34' d35' d45' z11 g3 g4 g5 g3' g4' g5' Ag Af A8 B3 Ab Ay Ad B1 A6 Av Aw Aa Az A9 B0 Ac B2 A5 Au A4 At Ax A0 Am A7 Ar Ae As A3 B5 A1 Ao A2 An B4 Bo Bh Bu Bn Bq Bi Br Bj Bw Bm Bt Bk Bv Bl Bs Bp); omega)) ?_ ?_⟩
       ·simp only [vsAll, Nat.reduceEqDiff, ↓reduceIte, eq_self, List.length_append, hcl, Int.natCast_add, Int.natCast_one]
       ·simp only [List.length_append, List.length_cons, List.length_nil, hcl, ← ea, ← ec]
        (refine HSub_eqn fun jj => ?_; refine (Classical.em (jj = i11)).elim (fun E0 => by rw [E0]; first | (left; simp only [vsAll, ↓reduceIte, reduceCtorEq, eq_self]; done) | (right; simp only [vsAll, ↓reduceIte, eq_self]; done)) (fun E0 => ?_); refine (Classical.em (jj = jf)).elim (fun E1 => by rw [E1]; first | (left; simp only [vsAll, ↓reduceIte, reduceCtorEq, eq_self, A3]; done) | (right; simp only [vsAll, ↓reduceIte, eq_self, A3, A1]; done)) (fun E1 => ?_); refine (Classical.em (jj = j17)).elim (fun E2 => by rw [E2]; first | (left; simp only [vsAll, ↓reduceIte, reduceCtorEq, eq_self, Ag, Af, Ao]; done) | (right; simp only [vsAll, ↓reduceIte, eq_self, Ag, Af, Ao]; done)) (fun E2 => ?_); refine (Classical.em (jj = j18)).elim (fun E3 => by rw [E3]; first | (left; simp only [vsAll, ↓reduceIte, reduceCtorEq, eq_self, Af, An]; done) | (right; simp only [vsAll, ↓reduceIte, eq_self, Af, An, Bo]; done)) (fun E3 => ?_); refine (Classical.em (jj = i5)).elim (fun E4 => by rw [E4]; first | (left; simp only [vsAll, ↓reduceIte, reduceCtorEq, eq_self, g5', Ag, Af, As]; done) | (right; simp only [vsAll, ↓reduceIte, eq_self, d35', g5', Ag, Af, As, Bo]; done)) (fun E4 => ?_); refine (Classical.em (jj = i4)).elim (fun E5 => by rw [E5]; first | (left; simp only [vsAll, ↓reduceIte, reduceCtorEq, eq_self, d45, g4', Ag, Af, Ar]; done) | (right; simp only [vsAll, ↓reduceIte, eq_self, d45, d34', g4', Ag, Af, Ar, Bo]; done)) (fun E5 => ?_); refine (Classical.em (jj = i3)).elim (fun E6 => by rw [E6]; first | (left; simp only [vsAll, ↓reduceIte, reduceCtorEq, eq_self, d34, d35, g3', Ag, Af, Am]; done) | (right; simp only [vsAll, ↓reduceIte, eq_self, d34, d35, g3', Ag, Af, Am, Bo]; done)) (fun E6 => ?_); refine (Classical.em (jj = i21)).elim (fun E7 => by rw [E7]; first | (left; simp only [vsAll, ↓reduceIte, eq_self, Bo]; done) | (right; simp only [vsAll, binA, binLitA, intA, aggA, aggV, boolA, nilA2, isConst, unA, loadA, loadRow, partA, partOk, fieldAddrA, indexAddrA, indexA, fieldA, extractA, lenA, nilCheckA, boxA, boxZ, cellA, cellsA, fillA, okParts, buildSliceA, buildMutA, makeSliceA, partIdx, elemsA, lensA, ifaceA, convA, mmA, pickA, okAll, stAll, opsA, partsA, partsOk, opA, allocA, boxMutA, newCells, okCells, storeObj, appendA, guardV, taA, nM, mapUpA, rangeA, nextA, entryA, lookA, sliceA, sliceM, sliceS, boundsA, opO, okO, copyA, dstOk, nilA, quietOk, nilSliceOp, deferV, panA, resA, argFr, retA.eq_1, retA.eq_2, Nat.reduceAdd, Nat.reduceSub, Nat.reduceMul, Nat.reduceLT, Nat.reduceLeDiff, Nat.reduceEqDiff, Nat.reduceBEq, Int.reduceAdd, Int.reduceSub, Int.reduceMul, Int.reduceNeg, Int.reduceLE, Int.reduceLT, Int.reduceEq, Int.reduceNe, Int.reduceToNat, ↓reduceIte, reduceCtorEq, implies_true, forall_const, eq_self, ne_eq, wtAll, Try.ntmps3, Try.results3, z3, z4, z5, d34, d35, d45, d34', d35', d45', z11, g3, g4, g5, g3', g4', g5', Ag, Af, A8, B3, Ab, Ay, Ad, B1, A6, Av, Aw, Aa, Az, A9, B0, Ac, B2, A5, Au, A4, At, Ax, A0, Am, A7, Ar, Ae, As, A3, B5, A1, Ao, A2, An, B4, Bo, Bh, Bu, Bn, Bq, Bi, Br, Bj, Bw, Bm, Bt, Bk, Bv, Bl, Bs, Bp]; done)) (fun E7 => ?_); right; simp only [vsAll, ↓reduceIte, eq_self, E0, E1, E2, E3, E4, E5, E6, E7])
      ·have hfc : fl.length = c := by ((try clear z3 z4 z5 d34 d35 d45 d34' d35' d45' z11 g3 g4 g5 g3' g4' g5' Ag Af A8 B3 Ab Ay Ad B1 A6 Av Aw Aa Az A9 B0 Ac B2 A5 Au A4 At Ax A0 Am A7 Ar Ae As A3 B5 A1 Ao A2 An B4); omega)
       simp only [vsAll, okAll, stAll, opsA, opA, dstOk, Nat.reduceLT, Nat.reduceEqDiff, ↓reduceIte, eq_self]
       refine callK (dwf_tri kb i3 a 3 _ (by ((try clear z3 z4 z5 d34 d35 d45 d34' d35' d45' z11 g3 g4 g5 g3' g4' g5' Ag Af A8 B3 Ab Ay Ad B1 A6 Av Aw Aa Az A9 B0 Ac B2 A5 Au A4 At Ax A0 Am A7 Ar Ae As A3 B5 A1 Ao A2 An B4); omega)) (by ((try clear z3 z4 z5 d34 d35 d45 d34' d35' d45' z11 g3 g4 g5 g3' g4' g5' Ag Af A8 B3 Ab Ay Ad B1 A6 Av Aw Aa Az A9 B0 Ac B2 A5 Au A4 At Ax A0 Am A7 Ar Ae As A3 B5 A1 Ao A2 An B4); omega)) (by simp only [vsAll, ↓reduceIte, eq_self, d34, d35, g3', Ag, Af, Am])) ?_
       rintro r H' ⟨c2, hc2, rfl, rfl⟩
       obtain ⟨c2, rfl⟩ : ∃ q : Nat, c2 = (q : Int) := ⟨c2.toNat, by ((try clear z3 z4 z5 d34 d35 d45 d34' d35' d45' z11 g3 g4 g5 g3' g4' g5' Ag Af A8 B3 Ab Ay Ad B1 A6 Av Aw Aa Az A9 B0 Ac B2 A5 Au A4 At Ax A0 Am A7 Ar Ae As A3 B5 A1 Ao A2 An B4); omega)⟩
       simp only [vsAll, binA, binLitA, intA, opA, dstOk, Nat.reduceLT, ↓reduceIte, eq_self]
       refine ⟨by simp only [InR_i64]; ((try clear z3 z4 z5 d34 d35 d45 d34' d35' d45' z11 g3 g4 g5 g3' g4' g5' Ag Af A8 B3 Ab Ay Ad B1 A6 Av Aw Aa Az A9 B0 Ac B2 A5 Au A4 At Ax A0 Am A7 Ar Ae As A3 B5 A1 Ao A2 An B4); omega), ?_⟩
       refine vs_entL (Ent.nilBox 4 (wsF []) (fun id _ => [.sl jf 2 fl.length, i64 0, .sl id 4 0, flAV 3 (hdL f []).fl, .rsl l.length 5 (sdF l)]) (j := i11) (st' := 5) (n' := 1) (g := fun _ => [.sl jf 2 fl.length, i64 0, .lit (.slice none 0 0), flAV 3 (hdL f []).fl, .rsl l.length 5 (sdF l)]) (by simp only [vsAll, ↓reduceIte, eq_self, g3]) (fun _ _ _ => rfl) (fun id q d hq hd => ?_) fun jw hjw => ?_)
       ·match d, hd with
        | 0, _ => exact .rfl
        | 1, _ => exact .rfl
        | 2, _ => exact .hit
        | 3, _ => exact .rfl
        | 4, _ => exact .rfl
       simp only [Hp.set_none] at hjw
       obtain ⟨Ah, Aq, Ap, Ai, Al, Aj, Ak, Bf⟩ : ¬ jw = i3 ∧ ¬ jw = i4 ∧ ¬ jw = i5 ∧ ¬ jw = i11 ∧ ¬ jw = j17 ∧ ¬ jw = j18 ∧ ¬ jw = jf ∧ H jw = none := by simp_all
       have B8 : ¬ i3 = jw := fun e => Ah e.symm
       have Be : ¬ i4 = jw := fun e => Aq e.symm
       have Bg : ¬ i5 = jw := fun e => Ap e.symm
       have Bd : ¬ i11 = jw := fun e => Ai e.symm
       have Bb : ¬ j17 = jw := fun e => Al e.symm
       have B9 : ¬ j18 = jw := fun e => Aj e.symm
       have Ba : ¬ jf = jw := fun e => Ak e.symm
       skip
       refine vs_loop (σ := Nat × List Wt × List Int) (fun y => WtA y.2.1 y.2.2 ∧ y.2.1.length ≤ c2 + 1 ∧ y.1 ≤ 101 + 5 * y.2.1.length) (fun y => [(3, dwfAV i3 N b), (11, .ref i11 0 5 0 0), (12, i64 w), (17, .sl j17 1 fl.length), (18, .sl j18 1 y.2.2.length), (206, i64 (c2 + 1 : Nat)), (207, i64 y.2.1.length)])
        (fun y => ((((((H.set i3 (.box 1 1 fun _ => [i64 y.1])).set j17 (.row 1 fl.length (intF cm))).set j18 (.row 1 y.2.2.length (intF y.2.2))).set jf (.row 2 fl.length (spanF fl))).set jw (.row 4 y.2.1.length (wsF y.2.1))).set i11 (.box 5 1 fun _ => [.sl jf 2 fl.length, i64 0, .sl jw 4 y.2.1.length, flAV 3 (hdL f []).fl, .rsl l.length 5 (sdF l)]))) (fun y => c2 + 1 - y.2.1.length) (a + 1, [], []) ⟨WtA.nil, Nat.zero_le _, by show a + 1 ≤ _; ((try clear z3 z4 z5 d34 d35 d45 d34' d35' d45' z11 g3 g4 g5 g3' g4' g5' Ag Af A8 B3 Ab Ay Ad B1 A6 Av Aw Aa Az A9 B0 Ac B2 A5 Au A4 At Ax A0 Am A7 Ar Ae As A3 B5 A1 Ao A2 An B4 Ah B8 Aq Be Ap Bg Ai Bd Al Bb Aj B9 Ak Ba Bf); omega)⟩ ?_ ?_ fun y hy => ?_
       ·simp only [vsAll, Nat.reduceEqDiff, ↓reduceIte, eq_self, Int.natCast_zero, Int.natCast_add, Int.natCast_one, Int.add_comm]
       ·simp only [List.length_nil]
        (refine HSub_eqn fun jj => ?_; refine (Classical.em (jj = i11)).elim (fun E0 => by rw [E0]; first | (left; simp only [vsAll, ↓reduceIte, reduceCtorEq, eq_self]; done) | (right; simp only [vsAll, ↓reduceIte, eq_self]; done)) (fun E0 => ?_); refine (Classical.em (jj = jw)).elim (fun E1 => by rw [E1]; first | (left; simp only [vsAll, ↓reduceIte, reduceCtorEq, eq_self, Ai]; done) | (right; simp only [vsAll, ↓reduceIte, eq_self, Ai]; done)) (fun E1 => ?_); refine (Classical.em (jj = jf)).elim (fun E2 => by rw [E2]; first | (left; simp only [vsAll, ↓reduceIte, reduceCtorEq, eq_self, A3, Ba]; done) | (right; simp only [vsAll, ↓reduceIte, eq_self, A0, A3, Ba]; done)) (fun E2 => ?_); refine (Classical.em (jj = j17)).elim (fun E3 => by rw [E3]; first | (left; simp only [vsAll, ↓reduceIte, reduceCtorEq, eq_self, Ag, Af, Ao, Bb]; done) | (right; simp only [vsAll, ↓reduceIte, eq_self, Ag, Af, Ao, Bb]; done)) (fun E3 => ?_); refine (Classical.em (jj = j18)).elim (fun E4 => by rw [E4]; first | (left; simp only [vsAll, ↓reduceIte, reduceCtorEq, eq_self, Af, An, B9]; done) | (right; simp only [vsAll, ↓reduceIte, eq_self, Af, An, B9]; done)) (fun E4 => ?_); refine (Classical.em (jj = i5)).elim (fun E5 => by rw [E5]; first | (left; simp only [vsAll, ↓reduceIte, eq_self, z5, d35', g5', Ag, Af, As, Bg]; done) | (right; simp only [vsAll, binA, binLitA, intA, aggA, aggV, boolA, nilA2, isConst, unA, loadA, loadRow, partA, partOk, fieldAddrA, indexAddrA, indexA, fieldA, extractA, lenA, nilCheckA, boxA, boxZ, cellA, cellsA, fillA, okParts, buildSliceA, buildMutA, makeSliceA, partIdx, elemsA, lensA, ifaceA, convA, mmA, pickA, okAll, stAll, opsA, partsA, partsOk, opA, allocA, boxMutA, newCells, okCells, storeObj, appendA, guardV, taA, nM, mapUpA, rangeA, nextA, entryA, lookA, sliceA, sliceM, sliceS, boundsA, opO, okO, copyA, dstOk, nilA, quietOk, nilSliceOp, deferV, panA, resA, argFr, retA.eq_1, retA.eq_2, Nat.reduceAdd, Nat.reduceSub, Nat.reduceMul, Nat.reduceLT, Nat.reduceLeDiff, Nat.reduceEqDiff, Nat.reduceBEq, Int.reduceAdd, Int.reduceSub, Int.reduceMul, Int.reduceNeg, Int.reduceLE, Int.reduceLT, Int.reduceEq, Int.reduceNe, Int.reduceToNat, ↓reduceIte, reduceCtorEq, implies_true, forall_const, eq_self, ne_eq, wtAll, Try.ntmps3, Try.results3, z3, z4, z5, d34, d35, d45, d34', d35', d45', z11, g3, g4, g5, g3', g4', g5', Ag, Af, A8, B3, Ab, Ay, Ad, B1, A6, Av, Aw, Aa, Az, A9, B0, Ac, B2, A5, Au, A4, At, Ax, A0, Am, A7, Ar, Ae, As, A3, B5, A1, Ao, A2, An, B4, Ah, B8, Aq, Be, Ap, Bg, Ai, Bd, Al, Bb, Aj, B9, Ak, Ba, Bf]; done)) (fun E5 => ?_); refine (Classical.em (jj = i4)).elim (fun E6 => by rw [E6]; first | (left; simp only [vsAll, ↓reduceIte, eq_self, z4, d34', g4', Ag, Af, Ar, Be]; done) | (right; simp only [vsAll, binA, binLitA, intA, aggA, aggV, boolA, nilA2, isConst, unA, loadA, loadRow, partA, partOk, fieldAddrA, indexAddrA, indexA, fieldA, extractA, lenA, nilCheckA, boxA, boxZ, cellA, cellsA, fillA, okParts, buildSliceA, buildMutA, makeSliceA, partIdx, elemsA, lensA, ifaceA, convA, mmA, pickA, okAll, stAll, opsA, partsA, partsOk, opA, allocA, boxMutA, newCells, okCells, storeObj, appendA, guardV, taA, nM, mapUpA, rangeA, nextA, entryA, lookA, sliceA, sliceM, sliceS, boundsA, opO, okO, copyA, dstOk, nilA, quietOk, nilSliceOp, deferV, panA, resA, argFr, retA.eq_1, retA.eq_2, Nat.reduceAdd, Nat.reduceSub, Nat.reduceMul, Nat.reduceLT, Nat.reduceLeDiff, Nat.reduceEqDiff, Nat.reduceBEq, Int.reduceAdd, Int.reduceSub, Int.reduceMul, Int.reduceNeg, Int.reduceLE, Int.reduceLT, Int.reduceEq, Int.reduceNe, Int.reduceToNat, ↓reduceIte, reduceCtorEq, implies_true, forall_const, eq_self, ne_eq, wtAll, Try.ntmps3, Try.results3, z3, z4, z5, d34, d35, d45, d34', d35', d45', z11, g3, g4, g5, g3', g4', g5', Ag, Af, A8, B3, Ab, Ay, Ad, B1, A6, Av, Aw, Aa, Az, A9, B0, Ac, B2, A5, Au, A4, At, Ax, A0, Am, A7, Ar, Ae, As, A3, B5, A1, Ao, A2, An, B4, Ah, B8, Aq, Be, Ap, Bg, Ai, Bd, Al, Bb, Aj, B9, Ak, Ba, Bf]; done)) (fun E6 => ?_); refine (Classical.em (jj = i3)).elim (fun E7 => by rw [E7]; first | (left; simp only [vsAll, ↓reduceIte, reduceCtorEq, eq_self, g3', Ag, Af, Am, B8]; done) | (right; simp only [vsAll, ↓reduceIte, eq_self, g3', Ag, Af, Am, B8]; done)) (fun E7 => ?_); right; simp only [vsAll, ↓reduceIte, eq_self, E0, E1, E2, E3, E4, E5, E6, E7])
       ·obtain ⟨a, ws, st⟩ := y
        obtain ⟨hws, hle3, hal3⟩ := hy
        simp only [] at hws hle3 hal3
        have hsl := hws.len
        have hw3 : ws.length ≤ 3 := hws.n
        simp only [hsl]
        simp only [vsAll, binA, binLitA, intA, opA, dstOk, Nat.reduceLT, Nat.reduceEqDiff, ↓reduceIte, eq_self]
        refine condD (fun hd3 => ?_) (fun hd3 => ?_)
        ·simp only [vsAll, okAll, stAll, opsA, opA, dstOk, Nat.reduceLT, Nat.reduceEqDiff, ↓reduceIte, eq_self]
         refine callK (dwf_tri kb i3 a 12 _ (by ((try clear z3 z4 z5 d34 d35 d45 d34' d35' d45' z11 g3 g4 g5 g3' g4' g5' Ag Af A8 B3 Ab Ay Ad B1 A6 Av Aw Aa Az A9 B0 Ac B2 A5 Au A4 At Ax A0 Am A7 Ar Ae As A3 B5 A1 Ao A2 An B4 Ah B8 Aq Be Ap Bg Ai Bd Al Bb Aj B9 Ak Ba Bf); omega)) (by ((try clear z3 z4 z5 d34 d35 d45 d34' d35' d45' z11 g3 g4 g5 g3' g4' g5' Ag Af A8 B3 Ab Ay Ad B1 A6 Av Aw Aa Az A9 B0 Ac B2 A5 Au A4 At Ax A0 Am A7 Ar Ae As A3 B5 A1 Ao A2 An B4 Ah B8 Aq Be Ap Bg Ai Bd Al Bb Aj B9 Ak Ba Bf); omega)) (by simp only [vsAll, ↓reduceIte, eq_self, g3', Ag, Af, Am, B8])) ?_
         rintro r H' ⟨lo, hlo, rfl, rfl⟩
         simp only [vsAll, okAll, stAll, opsA, opA, dstOk, Nat.reduceLT, Nat.reduceEqDiff, ↓reduceIte, eq_self]
         refine callK (dwf_tri kb i3 (a + 1) 4 _ (by ((try clear z3 z4 z5 d34 d35 d45 d34' d35' d45' z11 g3 g4 g5 g3' g4' g5' Ag Af A8 B3 Ab Ay Ad B1 A6 Av Aw Aa Az A9 B0 Ac B2 A5 Au A4 At Ax A0 Am A7 Ar Ae As A3 B5 A1 Ao A2 An B4 Ah B8 Aq Be Ap Bg Ai Bd Al Bb Aj B9 Ak Ba Bf); omega)) (by ((try clear z3 z4 z5 d34 d35 d45 d34' d35' d45' z11 g3 g4 g5 g3' g4' g5' Ag Af A8 B3 Ab Ay Ad B1 A6 Av Aw Aa Az A9 B0 Ac B2 A5 Au A4 At Ax A0 Am A7 Ar Ae As A3 B5 A1 Ao A2 An B4 Ah B8 Aq Be Ap Bg Ai Bd Al Bb Aj B9 Ak Ba Bf); omega)) (by simp only [vsAll, ↓reduceIte, eq_self])) ?_
         rintro r H' ⟨mo, hmo, rfl, rfl⟩
         simp only [vsAll, opA, dstOk, nilSliceOp, Nat.reduceLT, Nat.reduceEqDiff, Nat.reduceBEq, ↓reduceIte, eq_self]
         refine vs_draw2 [0, 0, 0, 0, 0, 0, 1, 0, 3, 0, 5, 6, 6, 7, 0, 0, 0, 0, 0, 9, 10, 10, 11, 8, 13, 15] [([0, 1, 2, 3, 4, 5, 7, 9, 14, 15, 16, 17, 18], [1], 6), ([], [1], 8), ([], [1], 10), ([11, 12], [], 13), ([23], [], 19), ([20, 21], [], 22), ([], [], 24), ([], [], 25)] [] (by decide +kernel) ?_
         simp only [vsAll, binA, binLitA, intA, loadA, loadRow, partA, partOk, fieldAddrA, okAll, stAll, opsA, opA, dstOk, Nat.reduceLT, Nat.reduceEqDiff, ↓reduceIte, eq_self, wtAll, g3]
         refine ⟨by simp only [InR_i64]; ((try clear z3 z4 z5 d34 d35 d45 d34' d35' d45' z11 g3 g4 g5 g3' g4' g5' Ag Af A8 B3 Ab Ay Ad B1 A6 Av Aw Aa Az A9 B0 Ac B2 A5 Au A4 At Ax A0 Am A7 Ar Ae As A3 B5 A1 Ao A2 An B4 Ah B8 Aq Be Ap Bg Ai Bd Al Bb Aj B9 Ak Ba Bf); omega), by simp only [InR_i64]; ((try clear z3 z4 z5 d34 d35 d45 d34' d35' d45' z11 g3 g4 g5 g3' g4' g5' Ag Af A8 B3 Ab Ay Ad B1 A6 Av Aw Aa Az A9 B0 Ac B2 A5 Au A4 At Ax A0 Am A7 Ar Ae As A3 B5 A1 Ao A2 An B4 Ah B8 Aq Be Ap Bg Ai Bd Al Bb Aj B9 Ak Ba Bf); omega), ?_⟩
         refine callK_pure (spanf_tri _ _ _) ?_
         simp only [vsAll, loadA, loadRow, partA, partOk, okAll, stAll, opsA, opA, dstOk, Nat.reduceLT, Nat.reduceEqDiff, ↓reduceIte, eq_self, wtAll, g3]
         refine callK (dwf_tri kb i3 (a + 1 + 1) 4 _ (by ((try clear z3 z4 z5 d34 d35 d45 d34' d35' d45' z11 g3 g4 g5 g3' g4' g5' Ag Af A8 B3 Ab Ay Ad B1 A6 Av Aw Aa Az A9 B0 Ac B2 A5 Au A4 At Ax A0 Am A7 Ar Ae As A3 B5 A1 Ao A2 An B4 Ah B8 Aq Be Ap Bg Ai Bd Al Bb Aj B9 Ak Ba Bf); omega)) (by ((try clear z3 z4 z5 d34 d35 d45 d34' d35' d45' z11 g3 g4 g5 g3' g4' g5' Ag Af A8 B3 Ab Ay Ad B1 A6 Av Aw Aa Az A9 B0 Ac B2 A5 Au A4 At Ax A0 Am A7 Ar Ae As A3 B5 A1 Ao A2 An B4 Ah B8 Aq Be Ap Bg Ai Bd Al Bb Aj B9 Ak Ba Bf); omega)) (by simp only [vsAll, ↓reduceIte, eq_self])) ?_
         rintro r H' ⟨ti, hti, rfl, rfl⟩
         simp only [vsAll, loadA, loadRow, partA, partOk, okAll, stAll, opsA, opA, dstOk, Nat.reduceLT, Nat.reduceEqDiff, ↓reduceIte, eq_self, wtAll, g3]
         refine callK (dwf_tri kb i3 (a + 1 + 1 + 1) 4 _ (by ((try clear z3 z4 z5 d34 d35 d45 d34' d35' d45' z11 g3 g4 g5 g3' g4' g5' Ag Af A8 B3 Ab Ay Ad B1 A6 Av Aw Aa Az A9 B0 Ac B2 A5 Au A4 At Ax A0 Am A7 Ar Ae As A3 B5 A1 Ao A2 An B4 Ah B8 Aq Be Ap Bg Ai Bd Al Bb Aj B9 Ak Ba Bf); omega)) (by ((try clear z3 z4 z5 d34 d35 d45 d34' d35' d45' z11 g3 g4 g5 g3' g4' g5' Ag Af A8 B3 Ab Ay Ad B1 A6 Av Aw Aa Az A9 B0 Ac B2 A5 Au A4 At Ax A0 Am A7 Ar Ae As A3 B5 A1 Ao A2 An B4 Ah B8 Aq Be Ap Bg Ai Bd Al Bb Aj B9 Ak Ba Bf); omega)) (by simp only [vsAll, ↓reduceIte, eq_self])) ?_
         rintro r H' ⟨re, hre, rfl, rfl⟩
         simp only [vsAll, loadA, loadRow, partA, partOk, fieldAddrA, cellA, cellsA, fillA, okParts, buildSliceA, partIdx, elemsA, lensA, okAll, stAll, opsA, partsA, partsOk, opA, appendA, dstOk, Nat.reduceAdd, Nat.reduceMul, Nat.reduceLT, Nat.reduceLeDiff, Nat.reduceEqDiff, ↓reduceIte, eq_self, wtAll, g3, Ah, Ai]
         refine ⟨fun q hq => by (have : q = 0 := by ((try clear z3 z4 z5 d34 d35 d45 d34' d35' d45' z11 g3 g4 g5 g3' g4' g5' Ag Af A8 B3 Ab Ay Ad B1 A6 Av Aw Aa Az A9 B0 Ac B2 A5 Au A4 At Ax A0 Am A7 Ar Ae As A3 B5 A1 Ao A2 An B4 Ah B8 Aq Be Ap Bg Ai Bd Al Bb Aj B9 Ak Ba Bf); omega)); subst this; exact ⟨rfl, rfl, rfl, rfl, trivial⟩, by ((try clear z3 z4 z5 d34 d35 d45 d34' d35' d45' z11 g3 g4 g5 g3' g4' g5' Ag Af A8 B3 Ab Ay Ad B1 A6 Av Aw Aa Az A9 B0 Ac B2 A5 Au A4 At Ax A0 Am A7 Ar Ae As A3 B5 A1 Ao A2 An B4 Ah B8 Aq Be Ap Bg Ai Bd Al Bb Aj B9 Ak Ba Bf); omega), by ((try clear z3 z4 z5 d34 d35 d45 d34' d35' d45' z11 g3 g4 g5 g3' g4' g5' Ag Af A8 B3 Ab Ay Ad B1 A6 Av Aw Aa Az A9 B0 Ac B2 A5 Au A4 At Ax A0 Am A7 Ar Ae As A3 B5 A1 Ao A2 An B4 Ah B8 Aq Be Ap Bg Ai Bd Al Bb Aj B9 Ak Ba Bf); omega), ?_⟩
         refine callK (dwf_tri kb i3 (a + 1 + 1 + 1 + 1) (mo + 1) _ (by ((try clear z3 z4 z5 d34 d35 d45 d34' d35' d45' z11 g3 g4 g5 g3' g4' g5' Ag Af A8 B3 Ab Ay Ad B1 A6 Av Aw Aa Az A9 B0 Ac B2 A5 Au A4 At Ax A0 Am A7 Ar Ae As A3 B5 A1 Ao A2 An B4 Ah B8 Aq Be Ap Bg Ai Bd Al Bb Aj B9 Ak Ba Bf); omega)) (by ((try clear z3 z4 z5 d34 d35 d45 d34' d35' d45' z11 g3 g4 g5 g3' g4' g5' Ag Af A8 B3 Ab Ay Ad B1 A6 Av Aw Aa Az A9 B0 Ac B2 A5 Au A4 At Ax A0 Am A7 Ar Ae As A3 B5 A1 Ao A2 An B4 Ah B8 Aq Be Ap Bg Ai Bd Al Bb Aj B9 Ak Ba Bf); omega)) (by simp only [vsAll, ↓reduceIte, eq_self, B8])) ?_
         rintro r H' ⟨sv, hsv, rfl, rfl⟩
         simp only [vsAll, binA, binLitA, intA, cellA, cellsA, okParts, buildSliceA, partIdx, elemsA, lensA, partsA, partsOk, opA, newCells, okCells, storeObj, appendA, dstOk, nilSliceOp, Nat.reduceAdd, Nat.reduceMul, Nat.reduceLT, Nat.reduceLeDiff, Nat.reduceEqDiff, Nat.reduceBEq, ↓reduceIte, eq_self, wtAll, g3, Af, An, Bd, B9]
         have ew := app_lF (fun x : Wt => x.cs) wt0 ws ⟨lo, lo + mo, ti, re⟩ (fun i => [[i64 lo, i64 (lo + mo), i64 ti, i64 re]].getD i []) rfl
         have es := app_ints st (lo + sv) (fun i => [[i64 (lo + sv)]].getD i []) rfl
         rw [hsl] at es
         have ew : appF ws.length 1 (wsF ws) (fun i => [[i64 lo, i64 (lo + mo), i64 ti, i64 re]].getD i []) = wsF (ws ++ [⟨lo, lo + mo, ti, re⟩]) := ew
         refine ⟨by simp only [InR_i64]; ((try clear z3 z4 z5 d34 d35 d45 d34' d35' d45' z11 g3 g4 g5 g3' g4' g5' Ag Af A8 B3 Ab Ay Ad B1 A6 Av Aw Aa Az A9 B0 Ac B2 A5 Au A4 At Ax A0 Am A7 Ar Ae As A3 B5 A1 Ao A2 An B4 Ah B8 Aq Be Ap Bg Ai Bd Al Bb Aj B9 Ak Ba Bf); omega), fun q hq => by (have : q = 0 := by ((try clear z3 z4 z5 d34 d35 d45 d34' d35' d45' z11 g3 g4 g5 g3' g4' g5' Ag Af A8 B3 Ab Ay Ad B1 A6 Av Aw Aa Az A9 B0 Ac B2 A5 Au A4 At Ax A0 Am A7 Ar Ae As A3 B5 A1 Ao A2 An B4 Ah B8 Aq Be Ap Bg Ai Bd Al Bb Aj B9 Ak Ba Bf); omega)); subst this; exact ⟨rfl, trivial⟩, by ((try clear z3 z4 z5 d34 d35 d45 d34' d35' d45' z11 g3 g4 g5 g3' g4' g5' Ag Af A8 B3 Ab Ay Ad B1 A6 Av Aw Aa Az A9 B0 Ac B2 A5 Au A4 At Ax A0 Am A7 Ar Ae As A3 B5 A1 Ao A2 An B4 Ah B8 Aq Be Ap Bg Ai Bd Al Bb Aj B9 Ak Ba Bf); omega), by ((try clear z3 z4 z5 d34 d35 d45 d34' d35' d45' z11 g3 g4 g5 g3' g4' g5' Ag Af A8 B3 Ab Ay Ad B1 A6 Av Aw Aa Az A9 B0 Ac B2 A5 Au A4 At Ax A0 Am A7 Ar Ae As A3 B5 A1 Ao A2 An B4 Ah B8 Aq Be Ap Bg Ai Bd Al Bb Aj B9 Ak Ba Bf); omega), by simp only [InR_i64]; ((try clear z3 z4 z5 d34 d35 d45 d34' d35' d45' z11 g3 g4 g5 g3' g4' g5' Ag Af A8 B3 Ab Ay Ad B1 A6 Av Aw Aa Az A9 B0 Ac B2 A5 Au A4 At Ax A0 Am A7 Ar Ae As A3 B5 A1 Ao A2 An B4 Ah B8 Aq Be Ap Bg Ai Bd Al Bb Aj B9 Ak Ba Bf); omega), loop_next (a + 1 + 1 + 1 + 1 + 1, ws ++ [⟨lo, lo + mo, ti, re⟩], st ++ [lo + sv]) ⟨hws.add (by ((try clear z3 z4 z5 d34 d35 d45 d34' d35' d45' z11 g3 g4 g5 g3' g4' g5' Ag Af A8 B3 Ab Ay Ad B1 A6 Av Aw Aa Az A9 B0 Ac B2 A5 Au A4 At Ax A0 Am A7 Ar Ae As A3 B5 A1 Ao A2 An B4 Ah B8 Aq Be Ap Bg Ai Bd Al Bb Aj B9 Ak Ba Bf); omega)) (by ((try clear z3 z4 z5 d34 d35 d45 d34' d35' d45' z11 g3 g4 g5 g3' g4' g5' Ag Af A8 B3 Ab Ay Ad B1 A6 Av Aw Aa Az A9 B0 Ac B2 A5 Au A4 At Ax A0 Am A7 Ar Ae As A3 B5 A1 Ao A2 An B4 Ah B8 Aq Be Ap Bg Ai Bd Al Bb Aj B9 Ak Ba Bf); omega)) (by ((try clear z3 z4 z5 d34 d35 d45 d34' d35' d45' z11 g3 g4 g5 g3' g4' g5' Ag Af A8 B3 Ab Ay Ad B1 A6 Av Aw Aa Az A9 B0 Ac B2 A5 Au A4 At Ax A0 Am A7 Ar Ae As A3 B5 A1 Ao A2 An B4 Ah B8 Aq Be Ap Bg Ai Bd Al Bb Aj B9 Ak Ba Bf); omega)) (by ((try clear z3 z4 z5 d34 d35 d45 d34' d35' d45' z11 g3 g4 g5 g3' g4' g5' Ag Af A8 B3 Ab Ay Ad B1 A6 Av Aw Aa Az A9 B0 Ac B2 A5 Au A4 At Ax A0 Am A7 Ar Ae As A3 B5 A1 Ao A2 An B4 Ah B8 Aq Be Ap Bg Ai Bd Al Bb Aj B9 Ak Ba Bf); omega)) (by ((try clear z3 z4 z5 d34 d35 d45 d34' d35' d45' z11 g3 g4 g5 g3' g4' g5' Ag Af A8 B3 Ab Ay Ad B1 A6 Av Aw Aa Az A9 B0 Ac B2 A5 Au A4 At Ax A0 Am A7 Ar Ae As A3 B5 A1 Ao A2 An B4 Ah B8 Aq Be Ap Bg Ai Bd Al Bb Aj B9 Ak Ba Bf); omega)), by simp only [List.length_append, List.length_cons, List.length_nil]; ((try clear z3 z4 z5 d34 d35 d45 d34' d35' d45' z11 g3 g4 g5 g3' g4' g5' Ag Af A8 B3 Ab Ay Ad B1 A6 Av Aw Aa Az A9 B0 Ac B2 A5 Au A4 At Ax A0 Am A7 Ar Ae As A3 B5 A1 Ao A2 An B4 Ah B8 Aq Be Ap Bg Ai Bd Al Bb Aj B9 Ak Ba Bf); omega), by show a + 1 + 1 + 1 + 1 + 1 ≤ _; simp only [List.length_append, List.length_cons, List.length_nil]; ((try clear z3 z4 z5 d34 d35 d45 d34' d35' d45' z11 g3 g4 g5 g3' g4' g5' Ag Af A8 B3 Ab Ay Ad B1 A6 Av Aw Aa Az A9 B0 Ac B2 A5 Au A4 At Ax A0 Am A7 Ar Ae As A3 B5 A1 Ao A2 An B4 Ah B8 Aq Be Ap Bg Ai Bd Al Bb Aj B9 Ak Ba Bf); omega)⟩ (by simp only [List.length_append, List.length_cons, List.length_nil]; ((try clear z3 z4 z5 d34 d35 d45 d34' d35' d45' z11 g3 g4 g5 g3' g4' g5' Ag Af A8 B3 Ab Ay Ad B1 A6 Av Aw Aa Az A9 B0 Ac B2 A5 Au A4 At Ax A0 Am A7 Ar Ae As A3 B5 A1 Ao A2 An B4 Ah B8 Aq Be Ap Bg Ai Bd Al Bb Aj B9 Ak Ba Bf); omega)) ?_ ?_⟩
         ·simp only [vsAll, Nat.reduceEqDiff, ↓reduceIte, eq_self, List.length_append, hsl, Int.natCast_add, Int.natCast_one]
         ·simp only [List.length_append, List.length_cons, List.length_nil, hsl, ← ew, ← es]
          (refine HSub_eqn fun jj => ?_; refine (Classical.em (jj = i11)).elim (fun E0 => by rw [E0]; first | (left; simp only [vsAll, ↓reduceIte, reduceCtorEq, eq_self]; done) | (right; simp only [vsAll, ↓reduceIte, eq_self]; done)) (fun E0 => ?_); refine (Classical.em (jj = jw)).elim (fun E1 => by rw [E1]; first | (left; simp only [vsAll, ↓reduceIte, reduceCtorEq, eq_self, Ai]; done) | (right; simp only [vsAll, ↓reduceIte, eq_self, Ah, Ai, Aj]; done)) (fun E1 => ?_); refine (Classical.em (jj = jf)).elim (fun E2 => by rw [E2]; first | (left; simp only [vsAll, ↓reduceIte, reduceCtorEq, eq_self, A3, Ba]; done) | (right; simp only [vsAll, ↓reduceIte, eq_self, A0, A3, A2, Ba]; done)) (fun E2 => ?_); refine (Classical.em (jj = j17)).elim (fun E3 => by rw [E3]; first | (left; simp only [vsAll, ↓reduceIte, reduceCtorEq, eq_self, Ag, Af, Ao, Bb]; done) | (right; simp only [vsAll, ↓reduceIte, eq_self, Ag, Af, Ao, Bb]; done)) (fun E3 => ?_); refine (Classical.em (jj = j18)).elim (fun E4 => by rw [E4]; first | (left; simp only [vsAll, ↓reduceIte, reduceCtorEq, eq_self, Af, An, B9]; done) | (right; simp only [vsAll, ↓reduceIte, eq_self, Af, An, B9]; done)) (fun E4 => ?_); refine (Classical.em (jj = i3)).elim (fun E5 => by rw [E5]; first | (left; simp only [vsAll, ↓reduceIte, reduceCtorEq, eq_self, g3', Ag, Af, Am, B8]; done) | (right; simp only [vsAll, ↓reduceIte, eq_self, g3', Ag, Af, Am, B8]; done)) (fun E5 => ?_); right; simp only [vsAll, ↓reduceIte, eq_self, E0, E1, E2, E3, E4, E5])
        ·have hwc : ws.length = c2 + 1 := by ((try clear z3 z4 z5 d34 d35 d45 d34' d35' d45' z11 g3 g4 g5 g3' g4' g5' Ag Af A8 B3 Ab Ay Ad B1 A6 Av Aw Aa Az A9 B0 Ac B2 A5 Au A4 At Ax A0 Am A7 Ar Ae As A3 B5 A1 Ao A2 An B4 Ah B8 Aq Be Ap Bg Ai Bd Al Bb Aj B9 Ak Ba Bf); omega)
         simp only [vsAll, okAll, stAll, opsA, opA, dstOk, Nat.reduceLT, Nat.reduceEqDiff, ↓reduceIte, eq_self]
         refine callK (dwf_tri kb i3 a 30 _ (by ((try clear z3 z4 z5 d34 d35 d45 d34' d35' d45' z11 g3 g4 g5 g3' g4' g5' Ag Af A8 B3 Ab Ay Ad B1 A6 Av Aw Aa Az A9 B0 Ac B2 A5 Au A4 At Ax A0 Am A7 Ar Ae As A3 B5 A1 Ao A2 An B4 Ah B8 Aq Be Ap Bg Ai Bd Al Bb Aj B9 Ak Ba Bf); omega)) (by ((try clear z3 z4 z5 d34 d35 d45 d34' d35' d45' z11 g3 g4 g5 g3' g4' g5' Ag Af A8 B3 Ab Ay Ad B1 A6 Av Aw Aa Az A9 B0 Ac B2 A5 Au A4 At Ax A0 Am A7 Ar Ae As A3 B5 A1 Ao A2 An B4 Ah B8 Aq Be Ap Bg Ai Bd Al Bb Aj B9 Ak Ba Bf); omega)) (by simp only [vsAll, ↓reduceIte, eq_self, g3', Ag, Af, Am, B8])) ?_
         rintro r H' ⟨v, hv, rfl, rfl⟩
         simp only [vsAll, binA, binLitA, intA, fieldAddrA, cellA, cellsA, opA, newCells, okCells, storeObj, dstOk, Nat.reduceAdd, Nat.reduceLT, Nat.reduceLeDiff, Nat.reduceEqDiff, ↓reduceIte, eq_self, wtAll, g3]
         refine ⟨by simp only [InR_i64]; ((try clear z3 z4 z5 d34 d35 d45 d34' d35' d45' z11 g3 g4 g5 g3' g4' g5' Ag Af A8 B3 Ab Ay Ad B1 A6 Av Aw Aa Az A9 B0 Ac B2 A5 Au A4 At Ax A0 Am A7 Ar Ae As A3 B5 A1 Ao A2 An B4 Ah B8 Aq Be Ap Bg Ai Bd Al Bb Aj B9 Ak Ba Bf); omega), ?_⟩
         refine cutG_ent (Ent.of [(11, .ref i11 0 5 0 0), (12, i64 w), (17, .sl j17 1 fl.length), (18, .sl j18 1 ws.length)] (by simp only [vsAll, Nat.reduceEqDiff, ↓reduceIte, eq_self]) (H' := ((((H.set j17 (.row 1 fl.length (intF cm))).set j18 (.row 1 ws.length (intF st))).set jf (.row 2 fl.length (spanF fl))).set jw (.row 4 ws.length (wsF ws))).set i11 (.box 5 1 fun _ => [.sl jf 2 fl.length, i64 ((w : Int) + v), .sl jw 4 ws.length, flAV 3 (hdL f []).fl, .rsl l.length 5 (sdF l)])) (by (refine HSub_eqn fun jj => ?_; refine (Classical.em (jj = i11)).elim (fun E0 => by rw [E0]; first | (left; simp only [vsAll, ↓reduceIte, reduceCtorEq, eq_self]; done) | (right; simp only [vsAll, ↓reduceIte, eq_self]; done)) (fun E0 => ?_); refine (Classical.em (jj = jw)).elim (fun E1 => by rw [E1]; first | (left; simp only [vsAll, ↓reduceIte, reduceCtorEq, eq_self, Ai]; done) | (right; simp only [vsAll, ↓reduceIte, eq_self, Ah, Ai]; done)) (fun E1 => ?_); refine (Classical.em (jj = jf)).elim (fun E2 => by rw [E2]; first | (left; simp only [vsAll, ↓reduceIte, reduceCtorEq, eq_self, A3, Ba]; done) | (right; simp only [vsAll, ↓reduceIte, eq_self, A0, A3, Ba]; done)) (fun E2 => ?_); refine (Classical.em (jj = j17)).elim (fun E3 => by rw [E3]; first | (left; simp only [vsAll, ↓reduceIte, reduceCtorEq, eq_self, Ag, Af, Ao, Bb]; done) | (right; simp only [vsAll, ↓reduceIte, eq_self, Ag, Af, Ao, Bb]; done)) (fun E3 => ?_); refine (Classical.em (jj = j18)).elim (fun E4 => by rw [E4]; first | (left; simp only [vsAll, ↓reduceIte, reduceCtorEq, eq_self, Af, An, B9]; done) | (right; simp only [vsAll, ↓reduceIte, eq_self, Af, An, B9]; done)) (fun E4 => ?_); refine (Classical.em (jj = i3)).elim (fun E5 => by rw [E5]; first | (left; simp only [vsAll, ↓reduceIte, eq_self, z3, g3', Ag, Af, Am, B8]; done) | (right; simp only [vsAll, binA, binLitA, intA, aggA, aggV, boolA, nilA2, isConst, unA, loadA, loadRow, partA, partOk, fieldAddrA, indexAddrA, indexA, fieldA, extractA, lenA, nilCheckA, boxA, boxZ, cellA, cellsA, fillA, okParts, buildSliceA, buildMutA, makeSliceA, partIdx, elemsA, lensA, ifaceA, convA, mmA, pickA, okAll, stAll, opsA, partsA, partsOk, opA, allocA, boxMutA, newCells, okCells, storeObj, appendA, guardV, taA, nM, mapUpA, rangeA, nextA, entryA, lookA, sliceA, sliceM, sliceS, boundsA, opO, okO, copyA, dstOk, nilA, quietOk, nilSliceOp, deferV, panA, resA, argFr, retA.eq_1, retA.eq_2, Nat.reduceAdd, Nat.reduceSub, Nat.reduceMul, Nat.reduceLT, Nat.reduceLeDiff, Nat.reduceEqDiff, Nat.reduceBEq, Int.reduceAdd, Int.reduceSub, Int.reduceMul, Int.reduceNeg, Int.reduceLE, Int.reduceLT, Int.reduceEq, Int.reduceNe, Int.reduceToNat, ↓reduceIte, reduceCtorEq, implies_true, forall_const, eq_self, ne_eq, wtAll, Try.ntmps3, Try.results3, z3, z4, z5, d34, d35, d45, d34', d35', d45', z11, g3, g4, g5, g3', g4', g5', Ag, Af, A8, B3, Ab, Ay, Ad, B1, A6, Av, Aw, Aa, Az, A9, B0, Ac, B2, A5, Au, A4, At, Ax, A0, Am, A7, Ar, Ae, As, A3, B5, A1, Ao, A2, An, B4, Ah, B8, Aq, Be, Ap, Bg, Ai, Bd, Al, Bb, Aj, B9, Ak, Ba, Bf]; done)) (fun E5 => ?_); right; simp only [vsAll, ↓reduceIte, eq_self, E0, E1, E2, E3, E4, E5])) ?_)
         refine cutG_ent (Ent.freezeBox (s' := Fr.of [(11, .ref i11 0 5 0 0), (12, i64 w), (17, .sl j17 1 fl.length), (18, .sl j18 1 ws.length)]) (id := jf) (st := 2) (n := fl.length) (f := spanF fl) (j := i11) (st' := 5) (n' := 1) (g := fun _ => [.sl jf 2 fl.length, i64 ((w : Int) + v), .sl jw 4 ws.length, flAV 3 (hdL f []).fl, .rsl l.length 5 (sdF l)]) (g' := fun _ => [spansAV fl, i64 ((w : Int) + v), .sl jw 4 ws.length, flAV 3 (hdL f []).fl, .rsl l.length 5 (sdF l)]) (by simp only [vsAll, ↓reduceIte, eq_self, A3, Ba]) (Hp.set_same _ _ _) (fun t => .rfl) (fun _ _ => rfl) (fun q d hq hd => ?_) ?_)
         ·match d, hd with
          | 0, _ => exact .hit
          | 1, _ => exact .rfl
          | 2, _ => exact .rfl
          | 3, _ => exact .rfl
          | 4, _ => exact .rfl
         refine cutG_ent (Ent.freezeBox (s' := Fr.of [(11, .ref i11 0 5 0 0), (12, i64 w), (17, .sl j17 1 fl.length), (18, .sl j18 1 ws.length)]) (id := jw) (st := 4) (n := ws.length) (f := wsF ws) (j := i11) (st' := 5) (n' := 1) (g := fun _ => [spansAV fl, i64 ((w : Int) + v), .sl jw 4 ws.length, flAV 3 (hdL f []).fl, .rsl l.length 5 (sdF l)]) (g' := fun _ => [spansAV fl, i64 ((w : Int) + v), Pm.wsAV ws, flAV 3 (hdL f []).fl, .rsl l.length 5 (sdF l)]) (by simp [Hp.set, Hp.del, Ai, Ak]) (Hp.set_same _ _ _) (fun t => .rfl) (fun _ _ => rfl) (fun q d hq hd => ?_) ?_)
         ·match d, hd with
          | 0, _ => exact .rfl
          | 1, _ => exact .rfl
          | 2, _ => exact .hit
          | 3, _ => exact .rfl
          | 4, _ => exact .rfl
         refine cutG_ent (Ent.freeze (id := j17) (st := 1) (n := fl.length) (f := intF cm) (s' := Fr.of [(11, .ref i11 0 5 0 0), (12, i64 w), (17, intsAV cm), (18, .sl j18 1 ws.length)]) (by simp [Hp.set, Hp.del, A6, Ao, Bb, At]) (fun t => ?_) ?_)
         ·simp only [Fr.of]
          by_cases e11 : t = 11
          ·left; rw [if_pos e11, if_pos e11]
          rw [if_neg e11, if_neg e11]
          by_cases e12 : t = 12
          ·left; rw [if_pos e12, if_pos e12]
          rw [if_neg e12, if_neg e12]
          by_cases e17 : t = 17
          ·right; rw [if_pos e17, if_pos e17]; exact ⟨rfl, by show AV.rsl cm.length 1 (intF cm) = _; rw [hcl]⟩
          ·left; rw [if_neg e17, if_neg e17]
         refine cutG_ent (Ent.freeze (id := j18) (st := 1) (n := ws.length) (f := intF st) (s' := Fr.of [(11, .ref i11 0 5 0 0), (12, i64 w), (17, intsAV cm), (18, intsAV st)]) (by simp [Hp.set, Hp.del, A5, An, B9, A4]) (fun t => ?_) ?_)
         ·simp only [Fr.of]
          by_cases e11 : t = 11
          ·left; rw [if_pos e11, if_pos e11]
          rw [if_neg e11, if_neg e11]
          by_cases e12 : t = 12
          ·left; rw [if_pos e12, if_pos e12]
          rw [if_neg e12, if_neg e12]
          by_cases e17 : t = 17
          ·left; rw [if_pos e17, if_pos e17]
          rw [if_neg e17, if_neg e17]
          by_cases e18 : t = 18
          ·right; rw [if_pos e18, if_pos e18]; exact ⟨rfl, by show AV.rsl st.length 1 (intF st) = _; rw [hsl]⟩
          ·left; rw [if_neg e18, if_neg e18]
         refine cutG_of (⟨fl, (w : Int) + v, ws, hdL f l⟩, w, cm, st, i11) ⟨afp_of hd hw hf hws (by ((try clear z3 z4 z5 d34 d35 d45 d34' d35' d45' z11 g3 g4 g5 g3' g4' g5' Ag Af A8 B3 Ab Ay Ad B1 A6 Av Aw Aa Az A9 B0 Ac B2 A5 Au A4 At Ax A0 Am A7 Ar Ae As A3 B5 A1 Ao A2 An B4 Ah B8 Aq Be Ap Bg Ai Bd Al Bb Aj B9 Ak Ba Bf); omega)), z11⟩ (by simp only [vsAll, Nat.reduceEqDiff, ↓reduceIte, eq_self]) rfl (HSub_eqn fun jj => ?_)
         by_cases e11 : jj = i11
         ·right; subst e11; simp [Hp.set, Hp.del, Av, Au]; rfl
         by_cases e1 : jj = jw
         ·left; subst e1; simp [Hp.set, e11, Bf]
         by_cases e2 : jj = jf
         ·left; subst e2; simp [Hp.set, e11, B4]
         by_cases e3 : jj = j17
         ·left; subst e3; simp [Hp.set, e11, Aw]
         by_cases e4 : jj = j18
         ·left; subst e4; simp [Hp.set, e11, Ax]
         right; simp [Hp.set, Hp.del, e1, e2, e3, e4, e11]
    ·obtain ⟨p, w, cm, st, i11⟩ := y
     obtain ⟨hp, z11⟩ := hy
     simp only [] at hp z11
     have kn := hp.ok.near
     obtain ⟨e1, e2, e3, e4, e5, e6⟩ := water_ok hp.ok (List.length_pos_of_mem hp.told)
     have eW : waterV p.ho = spansL (allA p.ho) := if_pos e1
     have hin : inW (waterV p.ho) w (waterV p.ho).length = true := by rw [eW]; exact in_water hp.told
     refine wps_cutG8 (m := mset [30]) (σ := Unit) (fun _ => FinP p w cm st)
      (fun _ => [(11, .ref i11 0 5 0 0), (12, i64 (w : Nat)), (17, intsAV cm), (18, intsAV st), (32, intsAV (fewP p)), (34, spansAV (playV p (fewP p)))])
      (fun _ => H.set i11 (.box 5 1 fun _ => p.cs)) (fun _ => []) ?_ fun y hy => ?_
     ·have ho : (H.set i11 (.box 5 1 fun _ => p.cs)) i11 = some (.box 5 1 fun _ => p.cs) := Hp.set_same _ _ _
      skip
      simp only [vsAll, loadA, loadRow, partA, partOk, fieldAddrA, okAll, stAll, opsA, opA, dstOk, Nat.reduceAdd, Nat.reduceLT, ↓reduceIte, eq_self, wtAll, Try.ntmps3]
      refine callK_pure (wwater_tri p.ho _ kn.ho) ?_
      rw [e1]
      simp only [vsAll, extractA, lenA, opA, dstOk, nilSliceOp, Nat.reduceAdd, Nat.reduceLT, Nat.reduceEqDiff, Nat.reduceBEq, ↓reduceIte, eq_self, wtAll]
      generalize waterV p.ho = L at *
      refine vs_loop (σ := Nat) (fun i => i ≤ L.length) (fun i => [(11, .ref i11 0 5 0 0), (12, i64 (w : Nat)), (17, intsAV cm), (18, intsAV st), (27, i64 0), (28, boo (inW L w i)), (249, spansAV L), (250, i64 L.length), (251, i64 i)])
       (fun i => H.set i11 (.box 5 1 fun _ => p.cs)) (fun i => L.length - i) 0 (Nat.zero_le _) ?_ HSub_rfl fun i hi => ?_
      ·simp only [vsAll, Nat.reduceEqDiff, ↓reduceIte, eq_self, Int.natCast_zero]
       exact .refl _
      ·simp only [vsAll, binA, binLitA, intA, opA, dstOk, Nat.reduceLT, Nat.reduceEqDiff, ↓reduceIte, eq_self]
       refine condD (fun hd => ?_) (fun hd => ?_)
       ·have hil : i < L.length := by ((try clear z11); omega)
        simp only [vsAll, binA, binLitA, intA, loadA, loadRow, partA, partOk, fieldAddrA, indexAddrA, cellA, pickA, opA, allocA, newCells, okCells, storeObj, guardV, dstOk, nilSliceOp, Nat.reduceAdd, Nat.reduceLT, Nat.reduceEqDiff, Nat.reduceBEq, ↓reduceIte, implies_true, eq_self, wtAll, spanF_at]
        refine ⟨⟨by ((try clear z11); omega), by ((try clear z11); omega)⟩, hil, ?_⟩
        intro i30 Bz; (try simp only [ite_none] at Bz)
        have en : inW L w (i + 1) = (inW L w i || (decide ((L.getD i (0, 0)).1 ≤ w) && decide (w ≤ (L.getD i (0, 0)).2))) := rfl
        refine ⟨fun g => ⟨g, fun g2 => by rw [g, g2]; rfl⟩, by simp only [InR_i64]; ((try clear z11 Bz); omega), loop_next (i + 1) hil (by ((try clear z11 Bz); omega)) ?_ (by (refine HSub_eqn fun jj => ?_; refine (Classical.em (jj = i30)).elim (fun E0 => by rw [E0]; first | (left; simp only [vsAll, ↓reduceIte, eq_self, Bz]; done) | (right; simp only [vsAll, binA, binLitA, intA, aggA, aggV, boolA, nilA2, isConst, unA, loadA, loadRow, partA, partOk, fieldAddrA, indexAddrA, indexA, fieldA, extractA, lenA, nilCheckA, boxA, boxZ, cellA, cellsA, fillA, okParts, buildSliceA, buildMutA, makeSliceA, partIdx, elemsA, lensA, ifaceA, convA, mmA, pickA, okAll, stAll, opsA, partsA, partsOk, opA, allocA, boxMutA, newCells, okCells, storeObj, appendA, guardV, taA, nM, mapUpA, rangeA, nextA, entryA, lookA, sliceA, sliceM, sliceS, boundsA, opO, okO, copyA, dstOk, nilA, quietOk, nilSliceOp, deferV, panA, resA, argFr, retA.eq_1, retA.eq_2, Nat.reduceAdd, Nat.reduceSub, Nat.reduceMul, Nat.reduceLT, Nat.reduceLeDiff, Nat.reduceEqDiff, Nat.reduceBEq, Int.reduceAdd, Int.reduceSub, Int.reduceMul, Int.reduceNeg, Int.reduceLE, Int.reduceLT, Int.reduceEq, Int.reduceNe, Int.reduceToNat, ↓reduceIte, reduceCtorEq, implies_true, forall_const, eq_self, ne_eq, wtAll, Try.ntmps3, Try.results3, z11, Bz]; done)) (fun E0 => ?_); right; simp only [vsAll, ↓reduceIte, eq_self, E0]))⟩
        simp only [vsAll, Nat.reduceEqDiff, ↓reduceIte, eq_self, en, Int.natCast_add, Int.natCast_one]
       ·have ei : i = L.length := by ((try clear z11); omega)
        subst ei
        rw [hin]
        simp only [vsAll, binA, binLitA, intA, unA, loadA, loadRow, partA, partOk, pickA, okAll, stAll, opsA, opA, guardV, dstOk, Nat.reduceLT, Nat.reduceEqDiff, ↓reduceIte, implies_true, eq_self, wtAll]
        refine callK_pure (few_tri p _ kn) ?_
        by_cases hE : fewE p = 0
        ·have F := fin_ok hp hE
         obtain ⟨fE, fV, fL, fl, fv, ft⟩ := F
         have d1 : decide (((playV p (fewP p)).length : Int) = (fewP p).length) = true := decide_eq_true (by rw [fV])
         have d2 : decide (((fewP p).length : Int) = cm.length) = true := decide_eq_true (by rw [fL, hp.cl])
         simp only [vsAll, binA, binLitA, intA, loadA, loadRow, partA, partOk, extractA, okAll, stAll, opsA, opA, dstOk, nilSliceOp, Nat.reduceAdd, Nat.reduceLT, Nat.reduceEqDiff, Nat.reduceBEq, ↓reduceIte, eq_self, wtAll, hE]
         refine callK_pure (wplay_tri p (fewP p) _ kn (by have := hp.nF; ((try clear z11); omega))) ?_
         rw [fE]
         simp only [vsAll, binA, binLitA, intA, extractA, lenA, pickA, opA, guardV, dstOk, nilSliceOp, Nat.reduceAdd, Nat.reduceLT, Nat.reduceEqDiff, Nat.reduceBEq, ↓reduceIte, implies_true, eq_self, wtAll, d1, d2]
         exact cutG_of () ⟨fE, fV, fL, fl, fv, ft⟩ (by simp only [vsAll, Nat.reduceEqDiff, ↓reduceIte, eq_self]) rfl HSub_rfl
        ·have e4 := few_none (by have := hp.ok; rw [errE_ok this (by have := List.length_pos_of_mem hp.told; ((try clear z11); omega))]) hE
         have eP : fewP p = [] := if_neg hE
         have eN : fewN p = 0 := if_neg hE
         simp only [vsAll, binA, binLitA, intA, extractA, lenA, pickA, opA, guardV, dstOk, nilSliceOp, Nat.reduceAdd, Nat.reduceLT, Nat.reduceEqDiff, Nat.reduceBEq, Int.reduceEq, ↓reduceIte, implies_true, eq_self, wtAll, e4, eP, eN, Int.natCast_zero]
         refine gcall (boo true) (fun g => ⟨by simp only [vsAll, opA], by simp only [okAll, opsA], awakeA_tri _⟩) ?_
         simp only [vsAll, pickA, opA, dstOk, nilSliceOp, Nat.reduceLT, Nat.reduceEqDiff, Nat.reduceBEq, ↓reduceIte, implies_true, eq_self]
         rw [CutG_ret]
         simp only [vsAll, resA, retA.eq_1, ↓reduceIte, eq_self, Try.results3]
         exact dropR_pure rfl (by (repeat (first | exact HSub_rfl | refine HSub_put_eq (by simp only [vsAll, binA, binLitA, intA, aggA, aggV, boolA, nilA2, isConst, unA, loadA, loadRow, partA, partOk, fieldAddrA, indexAddrA, indexA, fieldA, extractA, lenA, nilCheckA, boxA, boxZ, cellA, cellsA, fillA, okParts, buildSliceA, buildMutA, makeSliceA, partIdx, elemsA, lensA, ifaceA, convA, mmA, pickA, okAll, stAll, opsA, partsA, partsOk, opA, allocA, boxMutA, newCells, okCells, storeObj, appendA, guardV, taA, nM, mapUpA, rangeA, nextA, entryA, lookA, sliceA, sliceM, sliceS, boundsA, opO, okO, copyA, dstOk, nilA, quietOk, nilSliceOp, deferV, panA, resA, argFr, retA.eq_1, retA.eq_2, Nat.reduceAdd, Nat.reduceSub, Nat.reduceMul, Nat.reduceLT, Nat.reduceLeDiff, Nat.reduceEqDiff, Nat.reduceBEq, Int.reduceAdd, Int.reduceSub, Int.reduceMul, Int.reduceNeg, Int.reduceLE, Int.reduceLT, Int.reduceEq, Int.reduceNe, Int.reduceToNat, ↓reduceIte, reduceCtorEq, implies_true, forall_const, eq_self, ne_eq, wtAll, Try.ntmps3, Try.results3, z11]) ?_ | refine HSub_drop2 (by simp only [eq_self, z11]) ?_ | refine HSub_keep_eq (by simp only [vsAll, binA, binLitA, intA, aggA, aggV, boolA, nilA2, isConst, unA, loadA, loadRow, partA, partOk, fieldAddrA, indexAddrA, indexA, fieldA, extractA, lenA, nilCheckA, boxA, boxZ, cellA, cellsA, fillA, okParts, buildSliceA, buildMutA, makeSliceA, partIdx, elemsA, lensA, ifaceA, convA, mmA, pickA, okAll, stAll, opsA, partsA, partsOk, opA, allocA, boxMutA, newCells, okCells, storeObj, appendA, guardV, taA, nM, mapUpA, rangeA, nextA, entryA, lookA, sliceA, sliceM, sliceS, boundsA, opO, okO, copyA, dstOk, nilA, quietOk, nilSliceOp, deferV, panA, resA, argFr, retA.eq_1, retA.eq_2, Nat.reduceAdd, Nat.reduceSub, Nat.reduceMul, Nat.reduceLT, Nat.reduceLeDiff, Nat.reduceEqDiff, Nat.reduceBEq, Int.reduceAdd, Int.reduceSub, Int.reduceMul, Int.reduceNeg, Int.reduceLE, Int.reduceLT, Int.reduceEq, Int.reduceNe, Int.reduceToNat, ↓reduceIte, reduceCtorEq, implies_true, forall_const, eq_self, ne_eq, wtAll, Try.ntmps3, Try.results3, z11]) ?_)))
     ·obtain ⟨fE, fV, fL, fl, fv, ft⟩ := hy
      have nF := hp.nF
      have nW := hp.ok.nW
      have esl := hp.sl
      have hcl := hp.cl
      refine wps_cutG (m := mset [317, 320]) (σ := Nat × Nat) (fun y => (¬ y.1 = i11 ∧ ¬ i11 = y.1 ∧ H y.1 = none) ∧ (¬ y.2 = i11 ∧ ¬ i11 = y.2 ∧ H y.2 = none) ∧ ¬ y.1 = y.2 ∧ ¬ y.2 = y.1)
       (fun y => [(11, .ref i11 0 5 0 0), (12, i64 (w : Nat)), (17, intsAV cm), (18, intsAV st), (32, intsAV (fewP p)), (34, spansAV (playV p (fewP p))), (36, .sl y.1 1 p.ws.length), (37, .sl y.2 1 p.ws.length)])
       (fun y => ((H.set i11 (.box 5 1 fun _ => p.cs)).set y.1 (.row 1 p.ws.length (wnF p (fewP p) 0 0))).set y.2 (.row 1 p.ws.length (idF p (fewP p) 0 0))) (fun _ => []) ?_ fun y hy => ?_
      ·refine vs_draw3 [2, 5] [([0, 0, 1, 0, 0, 3, 2, 4], [([0, 1, 3, 4], [], 2), ([6], [], 5)], [7]), ([0, 0, 3, 0, 0, 1, 4, 4], [([0, 1, 3, 4], [], 5), ([], [], 2)], [6, 7])] (by decide +kernel) fun q hq => ?_
       rcases List.mem_cons.1 hq with rfl | hq
       ·skip
        simp only [vsAll, lenA, makeSliceA, opA, dstOk, Nat.reduceLT, Nat.reduceEqDiff, Nat.reduceBEq, ↓reduceIte, eq_self, wtAll, Try.ntmps3]
        refine ⟨by ((try clear z11); omega), by ((try clear z11); omega), by ((try clear z11); omega), ?_⟩
        intro ja Bx; (try simp only [ite_none] at Bx)
        refine ⟨by ((try clear z11 Bx); omega), by ((try clear z11 Bx); omega), by ((try clear z11 Bx); omega), ?_⟩
        intro jb By; (try simp only [ite_none] at By)
        obtain ⟨q1, q2, q3, q4, q5⟩ : ¬ ja = i11 ∧ H ja = none ∧ ¬ jb = i11 ∧ H jb = none ∧ ¬ jb = ja := by simp_all
        have q1' : ¬ i11 = ja := fun e => q1 e.symm
        have q3' : ¬ i11 = jb := fun e => q3 e.symm
        have q5' : ¬ ja = jb := fun e => q5 e.symm
        skip
        refine cutG_of (ja, jb) ⟨⟨q1, q1', q2⟩, ⟨q3, q3', q4⟩, q5', q5⟩ (by simp only [vsAll, Nat.reduceEqDiff, ↓reduceIte, eq_self, esl]) rfl ?_
        refine HSub_put_le (o' := .row 1 st.length fun _ => [i64 0]) (by simp only [vsAll, ↓reduceIte, eq_self]) (by rw [esl]; exact row_ext fun q hq => by unfold idF; rw [wnV_zero]; rfl) (HSub_put_le (o' := .row 1 st.length fun _ => [i64 0]) (by simp only [vsAll, ↓reduceIte, eq_self, By]) (by rw [esl]; exact row_ext fun q hq => by unfold wnF; rw [wnV_zero]; rfl) ?_)
        (repeat (first | exact HSub_rfl | refine HSub_put_eq (by simp only [vsAll, ↓reduceIte, eq_self, Bx, By]) ?_ | refine HSub_drop2 (by simp only [eq_self, z11, Bx, By]) ?_ | refine HSub_keep_eq (by simp only [vsAll, binA, binLitA, intA, aggA, aggV, boolA, nilA2, isConst, unA, loadA, loadRow, partA, partOk, fieldAddrA, indexAddrA, indexA, fieldA, extractA, lenA, nilCheckA, boxA, boxZ, cellA, cellsA, fillA, okParts, buildSliceA, buildMutA, makeSliceA, partIdx, elemsA, lensA, ifaceA, convA, mmA, pickA, okAll, stAll, opsA, partsA, partsOk, opA, allocA, boxMutA, newCells, okCells, storeObj, appendA, guardV, taA, nM, mapUpA, rangeA, nextA, entryA, lookA, sliceA, sliceM, sliceS, boundsA, opO, okO, copyA, dstOk, nilA, quietOk, nilSliceOp, deferV, panA, resA, argFr, retA.eq_1, retA.eq_2, Nat.reduceAdd, Nat.reduceSub, Nat.reduceMul, Nat.reduceLT, Nat.reduceLeDiff, Nat.reduceEqDiff, Nat.reduceBEq, Int.reduceAdd, Int.reduceSub, Int.reduceMul, Int.reduceNeg, Int.reduceLE, Int.reduceLT, Int.reduceEq, Int.reduceNe, Int.reduceToNat, ↓reduceIte, reduceCtorEq, implies_true, forall_const, eq_self, ne_eq, wtAll, Try.ntmps3, Try.results3, z11, Bx, By, q1, q2, q3, q4, q5, q1', q3', q5']) ?_))
       ·rw [List.mem_singleton] at hq
        subst hq
        skip
        simp only [vsAll, lenA, makeSliceA, opA, dstOk, Nat.reduceLT, Nat.reduceEqDiff, Nat.reduceBEq, ↓reduceIte, eq_self, wtAll, Try.ntmps3]
        refine ⟨by ((try clear z11); omega), by ((try clear z11); omega), by ((try clear z11); omega), ?_⟩
        intro jb By; (try simp only [ite_none] at By)
        refine ⟨by ((try clear z11 By); omega), by ((try clear z11 By); omega), by ((try clear z11 By); omega), ?_⟩
        intro ja Bx; (try simp only [ite_none] at Bx)
        obtain ⟨q1, q2, q3, q4, q5⟩ : ¬ ja = i11 ∧ H ja = none ∧ ¬ jb = i11 ∧ H jb = none ∧ ¬ ja = jb := by simp_all
        have q1' : ¬ i11 = ja := fun e => q1 e.symm
        have q3' : ¬ i11 = jb := fun e => q3 e.symm
        have q5' : ¬ jb = ja := fun e => q5 e.symm
        skip
        refine cutG_of (ja, jb) ⟨⟨q1, q1', q2⟩, ⟨q3, q3', q4⟩, q5, q5'⟩ (by simp only [vsAll, Nat.reduceEqDiff, ↓reduceIte, eq_self, esl]) rfl ?_
        refine HSub_put_le (o' := .row 1 st.length fun _ => [i64 0]) (by simp only [vsAll, ↓reduceIte, eq_self, Bx]) (by rw [esl]; exact row_ext fun q hq => by unfold idF; rw [wnV_zero]; rfl) (HSub_put_le (o' := .row 1 st.length fun _ => [i64 0]) (by simp only [vsAll, ↓reduceIte, eq_self]) (by rw [esl]; exact row_ext fun q hq => by unfold wnF; rw [wnV_zero]; rfl) ?_)
        (repeat (first | exact HSub_rfl | refine HSub_put_eq (by simp only [vsAll, ↓reduceIte, eq_self, By, Bx]) ?_ | refine HSub_drop2 (by simp only [eq_self, z11, By, Bx]) ?_ | refine HSub_keep_eq (by simp only [vsAll, binA, binLitA, intA, aggA, aggV, boolA, nilA2, isConst, unA, loadA, loadRow, partA, partOk, fieldAddrA, indexAddrA, indexA, fieldA, extractA, lenA, nilCheckA, boxA, boxZ, cellA, cellsA, fillA, okParts, buildSliceA, buildMutA, makeSliceA, partIdx, elemsA, lensA, ifaceA, convA, mmA, pickA, okAll, stAll, opsA, partsA, partsOk, opA, allocA, boxMutA, newCells, okCells, storeObj, appendA, guardV, taA, nM, mapUpA, rangeA, nextA, entryA, lookA, sliceA, sliceM, sliceS, boundsA, opO, okO, copyA, dstOk, nilA, quietOk, nilSliceOp, deferV, panA, resA, argFr, retA.eq_1, retA.eq_2, Nat.reduceAdd, Nat.reduceSub, Nat.reduceMul, Nat.reduceLT, Nat.reduceLeDiff, Nat.reduceEqDiff, Nat.reduceBEq, Int.reduceAdd, Int.reduceSub, Int.reduceMul, Int.reduceNeg, Int.reduceLE, Int.reduceLT, Int.reduceEq, Int.reduceNe, Int.reduceToNat, ↓reduceIte, reduceCtorEq, implies_true, forall_const, eq_self, ne_eq, wtAll, Try.ntmps3, Try.results3, z11, By, Bx, q1, q2, q3, q4, q5, q1', q3', q5']) ?_))
      ·obtain ⟨ja, jb⟩ := y
       obtain ⟨⟨a1, a1', a2⟩, ⟨b1, b1', b2⟩, c1, c1'⟩ := hy
       simp only [] at a1 a1' a2 b1 b1' b2 c1 c1'
       generalize hl : fewP p = l at *
       refine wps_vs (m := mset []) ?_
       skip
       simp only [vsAll, lenA, opA, dstOk, Nat.reduceLT, Nat.reduceEqDiff, ↓reduceIte, eq_self, wtAll, Try.ntmps3]
       have hfl : ∀ i, i < l.length → l.getD i 0 = l.getD i (-1) := fun i hi => (fl i hi).2.2
       refine vs_loop (σ := Nat) (fun h => h ≤ l.length) (fun h => [(11, .ref i11 0 5 0 0), (12, i64 (trV p l w (fun i => cm.getD i 0) (fun i => st.getD i 0) h)), (17, intsAV cm), (18, intsAV st), (34, spansAV (playV p l)), (36, .sl ja 1 p.ws.length), (37, .sl jb 1 p.ws.length), (321, intsAV l), (322, i64 l.length), (323, i64 h)])
        (fun h => ((H.set i11 (.box 5 1 fun _ => p.cs)).set ja (.row 1 p.ws.length (wnF p l h 0))).set jb (.row 1 p.ws.length (idF p l h 0))) (fun h => l.length - h) 0 (Nat.zero_le _) ?_ HSub_rfl fun h hh => ?_
       ·simp only [vsAll, Nat.reduceEqDiff, ↓reduceIte, eq_self, Int.natCast_zero]
        exact .refl _
       ·simp only [vsAll, binA, binLitA, intA, opA, dstOk, Nat.reduceLT, Nat.reduceEqDiff, ↓reduceIte, eq_self]
        refine condD (fun hd => ?_) (fun hd => ?_)
        ·have hil : h < l.length := by ((try clear z11 a1 a1' a2 b1 b1' b2 c1 c1'); omega)
         have hlh := fl h hil
         have hvh := fv h hil
         have hth := ft h hil
         have hch := hp.c h (by ((try clear z11 a1 a1' a2 b1 b1' b2 c1 c1'); omega))
         have har := af_rng hp h (by ((try clear z11 a1 a1' a2 b1 b1' b2 c1 c1'); omega))
         have har2 := af_rng hp (h + 1) (by ((try clear z11 a1 a1' a2 b1 b1' b2 c1 c1'); omega))
         unfold afV at har har2
         rw [hl] at har har2
         have eE : trV p l w (fun i => cm.getD i 0) (fun i => st.getD i 0) (h + 1) = max 0 (trV p l w (fun i => cm.getD i 0) (fun i => st.getD i 0) h + cm.getD h 0 - trS p l (fun i => st.getD i 0) h) := rfl
         have eT : trS p l (fun i => st.getD i 0) h = if l.getD h (-1) < 0 then 0 else max 0 (st.getD (l.getD h (-1)).toNat 0 - (p.wt (l.getD h (-1)).toNat).ti * (wornV p l (l.getD h (-1)).toNat h : Nat)) := rfl
         unfold afV at hth
         rw [hl] at hth
         rw [← hlh.2.2] at eT
         simp only [vsAll, binA, binLitA, intA, loadA, loadRow, partA, partOk, indexAddrA, lenA, pickA, opA, guardV, dstOk, nilSliceOp, Nat.reduceLT, Nat.reduceEqDiff, ↓reduceIte, implies_true, eq_self, wtAll, intF_at]
         generalize trV p l w (fun i => cm.getD i 0) (fun i => st.getD i 0) h = V at *
         generalize hEE : trV p l w (fun i => cm.getD i 0) (fun i => st.getD i 0) (h + 1) = E at *
         generalize trS p l (fun i => st.getD i 0) h = T at *
         generalize hlw : l.getD h 0 = lw at *
         refine ⟨⟨by ((try clear z11 a1 a1' a2 b1 b1' b2 c1 c1'); omega), by ((try clear z11 a1 a1' a2 b1 b1' b2 c1 c1'); omega)⟩, hil, ⟨by ((try clear z11 a1 a1' a2 b1 b1' b2 c1 c1'); omega), by ((try clear z11 a1 a1' a2 b1 b1' b2 c1 c1'); omega)⟩, by ((try clear z11 a1 a1' a2 b1 b1' b2 c1 c1'); omega), by simp only [InR_i64]; ((try clear z11 a1 a1' a2 b1 b1' b2 c1 c1'); omega), condV (fun hw => ?_) (fun hw => ?_)⟩
         ·rw [Bool.and_eq_true, decide_eq_true_eq, decide_eq_true_eq] at hw
          rw [if_neg (by ((try clear z11 a1 a1' a2 b1 b1' b2 c1 c1'); omega))] at eT
          obtain ⟨q, rfl⟩ : ∃ q : Nat, lw = (q : Int) := ⟨lw.toNat, by ((try clear z11 a1 a1' a2 b1 b1' b2 c1 c1'); omega)⟩
          have hq : q < p.ws.length := by ((try clear z11 a1 a1' a2 b1 b1' b2 c1 c1'); omega)
          have hsq := hp.s q hq
          have hwq := (hp.ok.w q hq)
          have ewi : p.ws.getD q wt0 = p.wt q := rfl
          rw [ewi] at hwq
          obtain ⟨_, ⟨ht0, ht1⟩, _⟩ := hwq
          have hwn : (wnV p l h 0 q).1 = wornV p l q h := by rw [wnV_zero]; rfl
          have hwl : wornV p l q h ≤ h := (doneW_le _ _ _ _).1
          simp only [Int.toNat_natCast] at eT
          have hm1 : 0 ≤ (p.wt q).ti * (wornV p l q h : Nat) := Int.mul_nonneg ht0 (by ((try clear z11 a1 a1' a2 b1 b1' b2 c1 c1'); omega))
          have hm2 : (p.wt q).ti * (wornV p l q h : Nat) ≤ 20 * 4 := Int.mul_le_mul ht1 (by ((try clear z11 a1 a1' a2 b1 b1' b2 c1 c1'); omega)) (by ((try clear z11 a1 a1' a2 b1 b1' b2 c1 c1'); omega)) (by decide)
          refine vs_draw 19 (by decide +kernel) ?_
          simp only [vsAll, binA, binLitA, intA, loadA, loadRow, partA, partOk, fieldAddrA, indexAddrA, lenA, mmA, okAll, stAll, opsA, opA, dstOk, nilSliceOp, Nat.reduceLT, Nat.reduceEqDiff, ↓reduceIte, eq_self, wtAll, a1', b1', c1, intF_at, wnF_at, wsF_at, ewi, hwn]
          generalize (p.wt q).ti * (wornV p l q h : Nat) = Z at *
          have eX : max 0 (V + cm.getD h 0 - max 0 (st.getD q 0 - Z)) = E := by rw [eE, eT]
          refine ⟨⟨by ((try clear z11 a1 a1' a2 b1 b1' b2 c1 c1'); omega), by ((try clear z11 a1 a1' a2 b1 b1' b2 c1 c1'); omega)⟩, by ((try clear z11 a1 a1' a2 b1 b1' b2 c1 c1'); omega), ⟨by ((try clear z11 a1 a1' a2 b1 b1' b2 c1 c1'); omega), by ((try clear z11 a1 a1' a2 b1 b1' b2 c1 c1'); omega)⟩, hq, ⟨by ((try clear z11 a1 a1' a2 b1 b1' b2 c1 c1'); omega), by ((try clear z11 a1 a1' a2 b1 b1' b2 c1 c1'); omega)⟩, hq, by simp only [InR_i64]; ((try clear z11 a1 a1' a2 b1 b1' b2 c1 c1'); omega), by simp only [InR_i64]; ((try clear z11 a1 a1' a2 b1 b1' b2 c1 c1'); omega), by simp only [InR_i64]; ((try clear z11 a1 a1' a2 b1 b1' b2 c1 c1'); omega), ?_⟩
          refine vs_loop (σ := Nat) (fun i => i ≤ p.ws.length) (fun i => [(11, .ref i11 0 5 0 0), (12, i64 E), (17, intsAV cm), (18, intsAV st), (34, spansAV (playV p l)), (36, .sl ja 1 p.ws.length), (37, .sl jb 1 p.ws.length), (38, i64 h), (39, i64 (q : Int)), (321, intsAV l), (322, i64 l.length), (323, i64 h), (363, intsAV st), (364, i64 p.ws.length), (365, i64 i)])
           (fun i => ((H.set i11 (.box 5 1 fun _ => p.cs)).set ja (.row 1 p.ws.length (wnF p l h i))).set jb (.row 1 p.ws.length (idF p l h i))) (fun i => p.ws.length - i) 0 (Nat.zero_le _) ?_ HSub_rfl fun i hi => ?_
          ·simp only [vsAll, Nat.reduceEqDiff, ↓reduceIte, eq_self, Int.natCast_zero, eX, esl]
           exact AV.Le.of_eq (by show _ = AV.rsl st.length 1 (intF st); rw [esl])
          ·simp only [vsAll, binA, binLitA, intA, opA, dstOk, Nat.reduceLT, Nat.reduceEqDiff, ↓reduceIte, eq_self]
           refine condD (fun hd2 => ?_) (fun hd2 => ?_)
           ·have hiw : i < p.ws.length := by ((try clear z11 a1 a1' a2 b1 b1' b2 c1 c1'); omega)
            have enew := wnV_new p l h i
            have eat := wnV_at p l h i
            have hdn := doneW_le (p.wt i).re l (i : Nat) h
            have ewi2 : p.ws.getD i wt0 = p.wt i := rfl
            have hup : ∀ (f : Nat → List AV) (v : List AV), updF p.ws.length i f v i = v := fun f v => by rw [updF_at hiw hiw, if_pos rfl]
            rw [← hlh.2.2] at enew
            generalize doneW (p.wt i).re l (i : Nat) h = D at *
            obtain ⟨a, c⟩ := D
            simp only [vsAll, binA, binLitA, intA, opA, dstOk, nilSliceOp, Nat.reduceLT, Nat.reduceEqDiff, ↓reduceIte, eq_self]
            refine condD (fun hq1 => ?_) (fun hq1 => ?_)
            ·have hs1 : wnV p l h (i + 1) i = if (p.wt i).re ≤ 0 then (0, 0) else (a + 1, 0) := by
              rw [enew, decide_eq_true hq1.symm]; rfl
             simp only [vsAll, binA, binLitA, intA, loadA, loadRow, partA, partOk, indexAddrA, cellA, cellsA, opA, newCells, okCells, storeObj, dstOk, Nat.reduceLT, Nat.reduceEqDiff, ↓reduceIte, eq_self, wtAll, c1, c1', wnF_at, idF_at, eat]
             refine ⟨⟨by ((try clear z11 a1 a1' a2 b1 b1' b2 c1 c1'); omega), by ((try clear z11 a1 a1' a2 b1 b1' b2 c1 c1'); omega)⟩, hiw, by simp only [InR_i64]; ((try clear z11 a1 a1' a2 b1 b1' b2 c1 c1'); omega), ⟨by ((try clear z11 a1 a1' a2 b1 b1' b2 c1 c1'); omega), by ((try clear z11 a1 a1' a2 b1 b1' b2 c1 c1'); omega)⟩, hiw, ⟨by ((try clear z11 a1 a1' a2 b1 b1' b2 c1 c1'); omega), by ((try clear z11 a1 a1' a2 b1 b1' b2 c1 c1'); omega)⟩, hiw, ?_⟩
             refine vs_draw 11 (by decide +kernel) ?_
             simp only [vsAll, binA, binLitA, intA, loadA, loadRow, partA, partOk, fieldAddrA, indexAddrA, opA, dstOk, Nat.reduceLT, Nat.reduceEqDiff, ↓reduceIte, eq_self, wtAll, a1', b1', hup, wsF_at, ewi2]
             refine ⟨⟨by ((try clear z11 a1 a1' a2 b1 b1' b2 c1 c1'); omega), by ((try clear z11 a1 a1' a2 b1 b1' b2 c1 c1'); omega)⟩, hiw, ⟨by ((try clear z11 a1 a1' a2 b1 b1' b2 c1 c1'); omega), by ((try clear z11 a1 a1' a2 b1 b1' b2 c1 c1'); omega)⟩, hiw, condD (fun hq2 => ?_) (fun hq2 => ?_)⟩
             ·rw [if_pos (by ((try clear z11 a1 a1' a2 b1 b1' b2 c1 c1'); omega))] at hs1
              simp only [vsAll, binA, binLitA, intA, indexAddrA, cellA, cellsA, opA, newCells, okCells, storeObj, dstOk, Nat.reduceLT, Nat.reduceEqDiff, ↓reduceIte, eq_self, wtAll, c1]
              refine ⟨⟨by ((try clear z11 a1 a1' a2 b1 b1' b2 c1 c1'); omega), by ((try clear z11 a1 a1' a2 b1 b1' b2 c1 c1'); omega)⟩, hiw, by simp only [InR_i64]; ((try clear z11 a1 a1' a2 b1 b1' b2 c1 c1'); omega), loop_next (i + 1) hiw (by ((try clear z11 a1 a1' a2 b1 b1' b2 c1 c1'); omega)) ?_ ?_⟩
              ·simp only [vsAll, Nat.reduceEqDiff, ↓reduceIte, eq_self, Int.natCast_add, Int.natCast_one]
              ·refine HSub_put_le (o' := .row 1 p.ws.length (updF p.ws.length i (idF p l h i) [i64 0])) (by simp only [vsAll, ↓reduceIte, eq_self, c1']; try rfl) (row_ext (id_upd hiw (fun _ _ _ => rfl) (by rw [hs1]; rfl))) (HSub_put_le (o' := .row 1 p.ws.length (updF p.ws.length i (updF p.ws.length i (wnF p l h i) [i64 ((a : Int) + 1)]) [i64 0])) (by simp only [vsAll, ↓reduceIte, eq_self, hup]; try rfl) (row_ext (wn_upd hiw (fun q hq e => by rw [updF_at hiw hq, if_neg e]) (by rw [hs1]; rfl))) ?_)
               (refine HSub_eqn fun jj => ?_; refine (Classical.em (jj = ja)).elim (fun E0 => by rw [E0]; first | (left; simp only [vsAll, ↓reduceIte, eq_self, a1, a2]; done) | (right; simp only [vsAll, binA, binLitA, intA, aggA, aggV, boolA, nilA2, isConst, unA, loadA, loadRow, partA, partOk, fieldAddrA, indexAddrA, indexA, fieldA, extractA, lenA, nilCheckA, boxA, boxZ, cellA, cellsA, fillA, okParts, buildSliceA, buildMutA, makeSliceA, partIdx, elemsA, lensA, ifaceA, convA, mmA, pickA, okAll, stAll, opsA, partsA, partsOk, opA, allocA, boxMutA, newCells, okCells, storeObj, appendA, guardV, taA, nM, mapUpA, rangeA, nextA, entryA, lookA, sliceA, sliceM, sliceS, boundsA, opO, okO, copyA, dstOk, nilA, quietOk, nilSliceOp, deferV, panA, resA, argFr, retA.eq_1, retA.eq_2, Nat.reduceAdd, Nat.reduceSub, Nat.reduceMul, Nat.reduceLT, Nat.reduceLeDiff, Nat.reduceEqDiff, Nat.reduceBEq, Int.reduceAdd, Int.reduceSub, Int.reduceMul, Int.reduceNeg, Int.reduceLE, Int.reduceLT, Int.reduceEq, Int.reduceNe, Int.reduceToNat, ↓reduceIte, reduceCtorEq, implies_true, forall_const, eq_self, ne_eq, wtAll, Try.ntmps3, Try.results3, z11, a1, a1', a2, b1, b1', b2, c1, c1']; done)) (fun E0 => ?_); refine (Classical.em (jj = jb)).elim (fun E1 => by rw [E1]; first | (left; simp only [vsAll, ↓reduceIte, eq_self, b1, b2]; done) | (right; simp only [vsAll, binA, binLitA, intA, aggA, aggV, boolA, nilA2, isConst, unA, loadA, loadRow, partA, partOk, fieldAddrA, indexAddrA, indexA, fieldA, extractA, lenA, nilCheckA, boxA, boxZ, cellA, cellsA, fillA, okParts, buildSliceA, buildMutA, makeSliceA, partIdx, elemsA, lensA, ifaceA, convA, mmA, pickA, okAll, stAll, opsA, partsA, partsOk, opA, allocA, boxMutA, newCells, okCells, storeObj, appendA, guardV, taA, nM, mapUpA, rangeA, nextA, entryA, lookA, sliceA, sliceM, sliceS, boundsA, opO, okO, copyA, dstOk, nilA, quietOk, nilSliceOp, deferV, panA, resA, argFr, retA.eq_1, retA.eq_2, Nat.reduceAdd, Nat.reduceSub, Nat.reduceMul, Nat.reduceLT, Nat.reduceLeDiff, Nat.reduceEqDiff, Nat.reduceBEq, Int.reduceAdd, Int.reduceSub, Int.reduceMul, Int.reduceNeg, Int.reduceLE, Int.reduceLT, Int.reduceEq, Int.reduceNe, Int.reduceToNat, ↓reduceIte, reduceCtorEq, implies_true, forall_const, eq_self, ne_eq, wtAll, Try.ntmps3, Try.results3, z11, a1, a1', a2, b1, b1', b2, c1, c1']; done)) (fun E1 => ?_); refine (Classical.em (jj = i11)).elim (fun E2 => by rw [E2]; first | (left; simp only [vsAll, ↓reduceIte, reduceCtorEq, eq_self]; done) | (right; simp only [vsAll, ↓reduceIte, eq_self, a1', b1']; done)) (fun E2 => ?_); right; simp only [vsAll, ↓reduceIte, eq_self, E0, E1, E2])
             ·rw [if_neg (by ((try clear z11 a1 a1' a2 b1 b1' b2 c1 c1'); omega))] at hs1
              simp only [vsAll, binA, binLitA, intA, opA, dstOk, Nat.reduceLT, Nat.reduceEqDiff, ↓reduceIte, eq_self]
              refine ⟨by simp only [InR_i64]; ((try clear z11 a1 a1' a2 b1 b1' b2 c1 c1'); omega), loop_next (i + 1) hiw (by ((try clear z11 a1 a1' a2 b1 b1' b2 c1 c1'); omega)) ?_ ?_⟩
              ·simp only [vsAll, Nat.reduceEqDiff, ↓reduceIte, eq_self, Int.natCast_add, Int.natCast_one]
              ·refine HSub_put_le (o' := .row 1 p.ws.length (updF p.ws.length i (idF p l h i) [i64 0])) (by simp only [vsAll, ↓reduceIte, eq_self]; try rfl) (row_ext (id_upd hiw (fun _ _ _ => rfl) (by rw [hs1]; rfl))) (HSub_put_le (o' := .row 1 p.ws.length (updF p.ws.length i (wnF p l h i) [i64 ((a : Int) + 1)])) (by simp only [vsAll, ↓reduceIte, eq_self, c1]; try rfl) (row_ext (wn_upd hiw (fun _ _ _ => rfl) (by rw [hs1]; simp))) ?_)
               (refine HSub_eqn fun jj => ?_; refine (Classical.em (jj = ja)).elim (fun E0 => by rw [E0]; first | (left; simp only [vsAll, ↓reduceIte, eq_self, a1, a2]; done) | (right; simp only [vsAll, binA, binLitA, intA, aggA, aggV, boolA, nilA2, isConst, unA, loadA, loadRow, partA, partOk, fieldAddrA, indexAddrA, indexA, fieldA, extractA, lenA, nilCheckA, boxA, boxZ, cellA, cellsA, fillA, okParts, buildSliceA, buildMutA, makeSliceA, partIdx, elemsA, lensA, ifaceA, convA, mmA, pickA, okAll, stAll, opsA, partsA, partsOk, opA, allocA, boxMutA, newCells, okCells, storeObj, appendA, guardV, taA, nM, mapUpA, rangeA, nextA, entryA, lookA, sliceA, sliceM, sliceS, boundsA, opO, okO, copyA, dstOk, nilA, quietOk, nilSliceOp, deferV, panA, resA, argFr, retA.eq_1, retA.eq_2, Nat.reduceAdd, Nat.reduceSub, Nat.reduceMul, Nat.reduceLT, Nat.reduceLeDiff, Nat.reduceEqDiff, Nat.reduceBEq, Int.reduceAdd, Int.reduceSub, Int.reduceMul, Int.reduceNeg, Int.reduceLE, Int.reduceLT, Int.reduceEq, Int.reduceNe, Int.reduceToNat, ↓reduceIte, reduceCtorEq, implies_true, forall_const, eq_self, ne_eq, wtAll, Try.ntmps3, Try.results3, z11, a1, a1', a2, b1, b1', b2, c1, c1']; done)) (fun E0 => ?_); refine (Classical.em (jj = jb)).elim (fun E1 => by rw [E1]; first | (left; simp only [vsAll, ↓reduceIte, eq_self, b1, b2]; done) | (right; simp only [vsAll, binA, binLitA, intA, aggA, aggV, boolA, nilA2, isConst, unA, loadA, loadRow, partA, partOk, fieldAddrA, indexAddrA, indexA, fieldA, extractA, lenA, nilCheckA, boxA, boxZ, cellA, cellsA, fillA, okParts, buildSliceA, buildMutA, makeSliceA, partIdx, elemsA, lensA, ifaceA, convA, mmA, pickA, okAll, stAll, opsA, partsA, partsOk, opA, allocA, boxMutA, newCells, okCells, storeObj, appendA, guardV, taA, nM, mapUpA, rangeA, nextA, entryA, lookA, sliceA, sliceM, sliceS, boundsA, opO, okO, copyA, dstOk, nilA, quietOk, nilSliceOp, deferV, panA, resA, argFr, retA.eq_1, retA.eq_2, Nat.reduceAdd, Nat.reduceSub, Nat.reduceMul, Nat.reduceLT, Nat.reduceLeDiff, Nat.reduceEqDiff, Nat.reduceBEq, Int.reduceAdd, Int.reduceSub, Int.reduceMul, Int.reduceNeg, Int.reduceLE, Int.reduceLT, Int.reduceEq, Int.reduceNe, Int.reduceToNat, ↓reduceIte, reduceCtorEq, implies_true, forall_const, eq_self, ne_eq, wtAll, Try.ntmps3, Try.results3, z11, a1, a1', a2, b1, b1', b2, c1, c1']; done)) (fun E1 => ?_); refine (Classical.em (jj = i11)).elim (fun E2 => by rw [E2]; first | (left; simp only [vsAll, ↓reduceIte, reduceCtorEq, eq_self]; done) | (right; simp only [vsAll, ↓reduceIte, eq_self, a1', b1']; done)) (fun E2 => ?_); right; simp only [vsAll, ↓reduceIte, eq_self, E0, E1, E2])
            ·have hs1 : wnV p l h (i + 1) i = if (p.wt i).re ≤ ((c + 1 : Nat) : Int) then (0, c + 1) else (a, c + 1) := by
              rw [enew, decide_eq_false (fun e => hq1 e.symm)]; rfl
             simp only [vsAll, binA, binLitA, intA, loadA, loadRow, partA, partOk, indexAddrA, cellA, cellsA, opA, newCells, okCells, storeObj, dstOk, Nat.reduceLT, Nat.reduceEqDiff, ↓reduceIte, eq_self, wtAll, idF_at, eat]
             refine ⟨⟨by ((try clear z11 a1 a1' a2 b1 b1' b2 c1 c1'); omega), by ((try clear z11 a1 a1' a2 b1 b1' b2 c1 c1'); omega)⟩, hiw, by simp only [InR_i64]; ((try clear z11 a1 a1' a2 b1 b1' b2 c1 c1'); omega), ⟨by ((try clear z11 a1 a1' a2 b1 b1' b2 c1 c1'); omega), by ((try clear z11 a1 a1' a2 b1 b1' b2 c1 c1'); omega)⟩, hiw, ?_⟩
             refine vs_draw 11 (by decide +kernel) ?_
             simp only [vsAll, binA, binLitA, intA, loadA, loadRow, partA, partOk, fieldAddrA, indexAddrA, opA, dstOk, Nat.reduceLT, Nat.reduceEqDiff, ↓reduceIte, eq_self, wtAll, a1', b1', hup, wsF_at, ewi2]
             refine ⟨⟨by ((try clear z11 a1 a1' a2 b1 b1' b2 c1 c1'); omega), by ((try clear z11 a1 a1' a2 b1 b1' b2 c1 c1'); omega)⟩, hiw, ⟨by ((try clear z11 a1 a1' a2 b1 b1' b2 c1 c1'); omega), by ((try clear z11 a1 a1' a2 b1 b1' b2 c1 c1'); omega)⟩, hiw, condD (fun hq2 => ?_) (fun hq2 => ?_)⟩
             ·rw [if_pos (by ((try clear z11 a1 a1' a2 b1 b1' b2 c1 c1'); omega))] at hs1
              simp only [vsAll, binA, binLitA, intA, indexAddrA, cellA, cellsA, opA, newCells, okCells, storeObj, dstOk, Nat.reduceLT, Nat.reduceEqDiff, ↓reduceIte, eq_self, wtAll, c1]
              refine ⟨⟨by ((try clear z11 a1 a1' a2 b1 b1' b2 c1 c1'); omega), by ((try clear z11 a1 a1' a2 b1 b1' b2 c1 c1'); omega)⟩, hiw, by simp only [InR_i64]; ((try clear z11 a1 a1' a2 b1 b1' b2 c1 c1'); omega), loop_next (i + 1) hiw (by ((try clear z11 a1 a1' a2 b1 b1' b2 c1 c1'); omega)) ?_ ?_⟩
              ·simp only [vsAll, Nat.reduceEqDiff, ↓reduceIte, eq_self, Int.natCast_add, Int.natCast_one]
              ·refine HSub_put_le (o' := .row 1 p.ws.length (updF p.ws.length i (idF p l h i) [i64 ((c : Int) + 1)])) (by simp only [vsAll, ↓reduceIte, eq_self, c1']; try rfl) (row_ext (id_upd hiw (fun _ _ _ => rfl) (by rw [hs1]; simp))) (HSub_put_le (o' := .row 1 p.ws.length (updF p.ws.length i (wnF p l h i) [i64 0])) (by simp only [vsAll, ↓reduceIte, eq_self]; try rfl) (row_ext (wn_upd hiw (fun _ _ _ => rfl) (by rw [hs1]; rfl))) ?_)
               (refine HSub_eqn fun jj => ?_; refine (Classical.em (jj = ja)).elim (fun E0 => by rw [E0]; first | (left; simp only [vsAll, ↓reduceIte, eq_self, a1, a2]; done) | (right; simp only [vsAll, binA, binLitA, intA, aggA, aggV, boolA, nilA2, isConst, unA, loadA, loadRow, partA, partOk, fieldAddrA, indexAddrA, indexA, fieldA, extractA, lenA, nilCheckA, boxA, boxZ, cellA, cellsA, fillA, okParts, buildSliceA, buildMutA, makeSliceA, partIdx, elemsA, lensA, ifaceA, convA, mmA, pickA, okAll, stAll, opsA, partsA, partsOk, opA, allocA, boxMutA, newCells, okCells, storeObj, appendA, guardV, taA, nM, mapUpA, rangeA, nextA, entryA, lookA, sliceA, sliceM, sliceS, boundsA, opO, okO, copyA, dstOk, nilA, quietOk, nilSliceOp, deferV, panA, resA, argFr, retA.eq_1, retA.eq_2, Nat.reduceAdd, Nat.reduceSub, Nat.reduceMul, Nat.reduceLT, Nat.reduceLeDiff, Nat.reduceEqDiff, Nat.reduceBEq, Int.reduceAdd, Int.reduceSub, Int.reduceMul, Int.reduceNeg, Int.reduceLE, Int.reduceLT, Int.reduceEq, Int.reduceNe, Int.reduceToNat, ↓reduceIte, reduceCtorEq, implies_true, forall_const, eq_self, ne_eq, wtAll, Try.ntmps3, Try.results3, z11, a1, a1', a2, b1, b1', b2, c1, c1']; done)) (fun E0 => ?_); refine (Classical.em (jj = jb)).elim (fun E1 => by rw [E1]; first | (left; simp only [vsAll, ↓reduceIte, eq_self, b1, b2]; done) | (right; simp only [vsAll, binA, binLitA, intA, aggA, aggV, boolA, nilA2, isConst, unA, loadA, loadRow, partA, partOk, fieldAddrA, indexAddrA, indexA, fieldA, extractA, lenA, nilCheckA, boxA, boxZ, cellA, cellsA, fillA, okParts, buildSliceA, buildMutA, makeSliceA, partIdx, elemsA, lensA, ifaceA, convA, mmA, pickA, okAll, stAll, opsA, partsA, partsOk, opA, allocA, boxMutA, newCells, okCells, storeObj, appendA, guardV, taA, nM, mapUpA, rangeA, nextA, entryA, lookA, sliceA, sliceM, sliceS, boundsA, opO, okO, copyA, dstOk, nilA, quietOk, nilSliceOp, deferV, panA, resA, argFr, retA.eq_1, retA.eq_2, Nat.reduceAdd, Nat.reduceSub, Nat.reduceMul, Nat.reduceLT, Nat.reduceLeDiff, Nat.reduceEqDiff, Nat.reduceBEq, Int.reduceAdd, Int.reduceSub, Int.reduceMul, Int.reduceNeg, Int.reduceLE, Int.reduceLT, Int.reduceEq, Int.reduceNe, Int.reduceToNat, ↓reduceIte, reduceCtorEq, implies_true, forall_const, eq_self, ne_eq, wtAll, Try.ntmps3, Try.results3, z11, a1, a1', a2, b1, b1', b2, c1, c1']; done)) (fun E1 => ?_); refine (Classical.em (jj = i11)).elim (fun E2 => by rw [E2]; first | (left; simp only [vsAll, ↓reduceIte, reduceCtorEq, eq_self]; done) | (right; simp only [vsAll, ↓reduceIte, eq_self, a1', b1']; done)) (fun E2 => ?_); right; simp only [vsAll, ↓reduceIte, eq_self, E0, E1, E2])
             ·rw [if_neg (by ((try clear z11 a1 a1' a2 b1 b1' b2 c1 c1'); omega))] at hs1
              simp only [vsAll, binA, binLitA, intA, opA, dstOk, Nat.reduceLT, Nat.reduceEqDiff, ↓reduceIte, eq_self]
              refine ⟨by simp only [InR_i64]; ((try clear z11 a1 a1' a2 b1 b1' b2 c1 c1'); omega), loop_next (i + 1) hiw (by ((try clear z11 a1 a1' a2 b1 b1' b2 c1 c1'); omega)) ?_ ?_⟩
              ·simp only [vsAll, Nat.reduceEqDiff, ↓reduceIte, eq_self, Int.natCast_add, Int.natCast_one]
              ·refine HSub_put_le (o' := .row 1 p.ws.length (updF p.ws.length i (idF p l h i) [i64 ((c : Int) + 1)])) (by simp only [vsAll, ↓reduceIte, eq_self]; try rfl) (row_ext (id_upd hiw (fun _ _ _ => rfl) (by rw [hs1]; simp))) (HSub_put_le (o' := .row 1 p.ws.length (wnF p l h i)) (by simp only [vsAll, ↓reduceIte, eq_self, c1]) (row_ext fun q _ => wn_same (by rw [hs1, eat]) q) ?_)
               (refine HSub_eqn fun jj => ?_; refine (Classical.em (jj = ja)).elim (fun E0 => by rw [E0]; first | (left; simp only [vsAll, ↓reduceIte, eq_self, a1, a2]; done) | (right; simp only [vsAll, binA, binLitA, intA, aggA, aggV, boolA, nilA2, isConst, unA, loadA, loadRow, partA, partOk, fieldAddrA, indexAddrA, indexA, fieldA, extractA, lenA, nilCheckA, boxA, boxZ, cellA, cellsA, fillA, okParts, buildSliceA, buildMutA, makeSliceA, partIdx, elemsA, lensA, ifaceA, convA, mmA, pickA, okAll, stAll, opsA, partsA, partsOk, opA, allocA, boxMutA, newCells, okCells, storeObj, appendA, guardV, taA, nM, mapUpA, rangeA, nextA, entryA, lookA, sliceA, sliceM, sliceS, boundsA, opO, okO, copyA, dstOk, nilA, quietOk, nilSliceOp, deferV, panA, resA, argFr, retA.eq_1, retA.eq_2, Nat.reduceAdd, Nat.reduceSub, Nat.reduceMul, Nat.reduceLT, Nat.reduceLeDiff, Nat.reduceEqDiff, Nat.reduceBEq, Int.reduceAdd, Int.reduceSub, Int.reduceMul, Int.reduceNeg, Int.reduceLE, Int.reduceLT, Int.reduceEq, Int.reduceNe, Int.reduceToNat, ↓reduceIte, reduceCtorEq, implies_true, forall_const, eq_self, ne_eq, wtAll, Try.ntmps3, Try.results3, z11, a1, a1', a2, b1, b1', b2, c1, c1']; done)) (fun E0 => ?_); refine (Classical.em (jj = jb)).elim (fun E1 => by rw [E1]; first | (left; simp only [vsAll, ↓reduceIte, eq_self, b1, b2]; done) | (right; simp only [vsAll, binA, binLitA, intA, aggA, aggV, boolA, nilA2, isConst, unA, loadA, loadRow, partA, partOk, fieldAddrA, indexAddrA, indexA, fieldA, extractA, lenA, nilCheckA, boxA, boxZ, cellA, cellsA, fillA, okParts, buildSliceA, buildMutA, makeSliceA, partIdx, elemsA, lensA, ifaceA, convA, mmA, pickA, okAll, stAll, opsA, partsA, partsOk, opA, allocA, boxMutA, newCells, okCells, storeObj, appendA, guardV, taA, nM, mapUpA, rangeA, nextA, entryA, lookA, sliceA, sliceM, sliceS, boundsA, opO, okO, copyA, dstOk, nilA, quietOk, nilSliceOp, deferV, panA, resA, argFr, retA.eq_1, retA.eq_2, Nat.reduceAdd, Nat.reduceSub, Nat.reduceMul, Nat.reduceLT, Nat.reduceLeDiff, Nat.reduceEqDiff, Nat.reduceBEq, Int.reduceAdd, Int.reduceSub, Int.reduceMul, Int.reduceNeg, Int.reduceLE, Int.reduceLT, Int.reduceEq, Int.reduceNe, Int.reduceToNat, ↓reduceIte, reduceCtorEq, implies_true, forall_const, eq_self, ne_eq, wtAll, Try.ntmps3, Try.results3, z11, a1, a1', a2, b1, b1', b2, c1, c1']; done)) (fun E1 => ?_); refine (Classical.em (jj = i11)).elim (fun E2 => by rw [E2]; first | (left; simp only [vsAll, ↓reduceIte, reduceCtorEq, eq_self]; done) | (right; simp only [vsAll, ↓reduceIte, eq_self, a1', b1']; done)) (fun E2 => ?_); right; simp only [vsAll, ↓reduceIte, eq_self, E0, E1, E2])
           ·have ei : i = p.ws.length := by ((try clear z11 a1 a1' a2 b1 b1' b2 c1 c1'); omega)
            have cN : decide ((p.ws.length : Int) < p.ws.length) = false := decide_eq_false (by ((try clear z11 a1 a1' a2 b1 b1' b2 c1 c1'); omega))
            have c3 : decide (E > p.ca) = false := decide_eq_false (by ((try clear z11 a1 a1' a2 b1 b1' b2 c1 c1'); omega))
            have c4 : decide (E < watV p l true (h + 1)) = false := decide_eq_false (by ((try clear z11 a1 a1' a2 b1 b1' b2 c1 c1'); omega))
            have c5 : decide (E > watV p l false (h + 1)) = false := decide_eq_false (by ((try clear z11 a1 a1' a2 b1 b1' b2 c1 c1'); omega))
            subst ei
            simp only [vsAll, binA, binLitA, intA, loadA, loadRow, partA, partOk, fieldAddrA, indexAddrA, pickA, opA, guardV, dstOk, Nat.reduceLT, Nat.reduceEqDiff, ↓reduceIte, implies_true, forall_const, eq_self, wtAll, a1', b1', spanF_at, hvh, fV, c3, c4, c5]
            refine ⟨⟨by ((try clear z11 a1 a1' a2 b1 b1' b2 c1 c1'); omega), by ((try clear z11 a1 a1' a2 b1 b1' b2 c1 c1'); omega)⟩, hil, ⟨by ((try clear z11 a1 a1' a2 b1 b1' b2 c1 c1'); omega), by ((try clear z11 a1 a1' a2 b1 b1' b2 c1 c1'); omega)⟩, hil, by simp only [InR_i64]; ((try clear z11 a1 a1' a2 b1 b1' b2 c1 c1'); omega), loop_next (h + 1) hil (by ((try clear z11 a1 a1' a2 b1 b1' b2 c1 c1'); omega)) ?_ ?_⟩
            ·simp only [vsAll, Nat.reduceEqDiff, ↓reduceIte, eq_self, hEE, Int.natCast_add, Int.natCast_one]
            ·refine HSub_put_le (o' := .row 1 p.ws.length (idF p l h p.ws.length)) (by simp only [vsAll, ↓reduceIte, eq_self]) (row_ext (id_end p l h _)) (HSub_put_le (o' := .row 1 p.ws.length (wnF p l h p.ws.length)) (by simp only [vsAll, ↓reduceIte, eq_self, c1]) (row_ext (wn_end p l h _)) ?_)
             (refine HSub_eqn fun jj => ?_; refine (Classical.em (jj = ja)).elim (fun E0 => by rw [E0]; first | (left; simp only [vsAll, ↓reduceIte, eq_self, a1, a2]; done) | (right; simp only [vsAll, binA, binLitA, intA, aggA, aggV, boolA, nilA2, isConst, unA, loadA, loadRow, partA, partOk, fieldAddrA, indexAddrA, indexA, fieldA, extractA, lenA, nilCheckA, boxA, boxZ, cellA, cellsA, fillA, okParts, buildSliceA, buildMutA, makeSliceA, partIdx, elemsA, lensA, ifaceA, convA, mmA, pickA, okAll, stAll, opsA, partsA, partsOk, opA, allocA, boxMutA, newCells, okCells, storeObj, appendA, guardV, taA, nM, mapUpA, rangeA, nextA, entryA, lookA, sliceA, sliceM, sliceS, boundsA, opO, okO, copyA, dstOk, nilA, quietOk, nilSliceOp, deferV, panA, resA, argFr, retA.eq_1, retA.eq_2, Nat.reduceAdd, Nat.reduceSub, Nat.reduceMul, Nat.reduceLT, Nat.reduceLeDiff, Nat.reduceEqDiff, Nat.reduceBEq, Int.reduceAdd, Int.reduceSub, Int.reduceMul, Int.reduceNeg, Int.reduceLE, Int.reduceLT, Int.reduceEq, Int.reduceNe, Int.reduceToNat, ↓reduceIte, reduceCtorEq, implies_true, forall_const, eq_self, ne_eq, wtAll, Try.ntmps3, Try.results3, z11, a1, a1', a2, b1, b1', b2, c1, c1']; done)) (fun E0 => ?_); refine (Classical.em (jj = jb)).elim (fun E1 => by rw [E1]; first | (left; simp only [vsAll, ↓reduceIte, eq_self, b1, b2]; done) | (right; simp only [vsAll, binA, binLitA, intA, aggA, aggV, boolA, nilA2, isConst, unA, loadA, loadRow, partA, partOk, fieldAddrA, indexAddrA, indexA, fieldA, extractA, lenA, nilCheckA, boxA, boxZ, cellA, cellsA, fillA, okParts, buildSliceA, buildMutA, makeSliceA, partIdx, elemsA, lensA, ifaceA, convA, mmA, pickA, okAll, stAll, opsA, partsA, partsOk, opA, allocA, boxMutA, newCells, okCells, storeObj, appendA, guardV, taA, nM, mapUpA, rangeA, nextA, entryA, lookA, sliceA, sliceM, sliceS, boundsA, opO, okO, copyA, dstOk, nilA, quietOk, nilSliceOp, deferV, panA, resA, argFr, retA.eq_1, retA.eq_2, Nat.reduceAdd, Nat.reduceSub, Nat.reduceMul, Nat.reduceLT, Nat.reduceLeDiff, Nat.reduceEqDiff, Nat.reduceBEq, Int.reduceAdd, Int.reduceSub, Int.reduceMul, Int.reduceNeg, Int.reduceLE, Int.reduceLT, Int.reduceEq, Int.reduceNe, Int.reduceToNat, ↓reduceIte, reduceCtorEq, implies_true, forall_const, eq_self, ne_eq, wtAll, Try.ntmps3, Try.results3, z11, a1, a1', a2, b1, b1', b2, c1, c1']; done)) (fun E1 => ?_); refine (Classical.em (jj = i11)).elim (fun E2 => by rw [E2]; first | (left; simp only [vsAll, ↓reduceIte, reduceCtorEq, eq_self]; done) | (right; simp only [vsAll, ↓reduceIte, eq_self, a1', b1']; done)) (fun E2 => ?_); right; simp only [vsAll, ↓reduceIte, eq_self, E0, E1, E2])
         ·rw [Bool.and_eq_false_iff, decide_eq_false_iff_not, decide_eq_false_iff_not] at hw
          rw [if_pos (by ((try clear z11 a1 a1' a2 b1 b1' b2 c1 c1'); omega))] at eT
          have eX : max 0 (V + cm.getD h 0) = E := by rw [eE, eT, Int.sub_zero]
          simp only [vsAll, lenA, mmA, okAll, stAll, opsA, opA, dstOk, nilSliceOp, Nat.reduceLT, Nat.reduceEqDiff, ↓reduceIte, eq_self, wtAll]
          refine vs_loop (σ := Nat) (fun i => i ≤ p.ws.length) (fun i => [(11, .ref i11 0 5 0 0), (12, i64 E), (17, intsAV cm), (18, intsAV st), (34, spansAV (playV p l)), (36, .sl ja 1 p.ws.length), (37, .sl jb 1 p.ws.length), (38, i64 h), (39, i64 lw), (321, intsAV l), (322, i64 l.length), (323, i64 h), (363, intsAV st), (364, i64 p.ws.length), (365, i64 i)])
           (fun i => ((H.set i11 (.box 5 1 fun _ => p.cs)).set ja (.row 1 p.ws.length (wnF p l h i))).set jb (.row 1 p.ws.length (idF p l h i))) (fun i => p.ws.length - i) 0 (Nat.zero_le _) ?_ HSub_rfl fun i hi => ?_
          ·simp only [vsAll, Nat.reduceEqDiff, ↓reduceIte, eq_self, Int.natCast_zero, eX, esl]
           exact AV.Le.of_eq (by show _ = AV.rsl st.length 1 (intF st); rw [esl])
          ·simp only [vsAll, binA, binLitA, intA, opA, dstOk, Nat.reduceLT, Nat.reduceEqDiff, ↓reduceIte, eq_self]
           refine condD (fun hd2 => ?_) (fun hd2 => ?_)
           ·have hiw : i < p.ws.length := by ((try clear z11 a1 a1' a2 b1 b1' b2 c1 c1'); omega)
            have enew := wnV_new p l h i
            have eat := wnV_at p l h i
            have hdn := doneW_le (p.wt i).re l (i : Nat) h
            have ewi2 : p.ws.getD i wt0 = p.wt i := rfl
            have hup : ∀ (f : Nat → List AV) (v : List AV), updF p.ws.length i f v i = v := fun f v => by rw [updF_at hiw hiw, if_pos rfl]
            rw [← hlh.2.2] at enew
            generalize doneW (p.wt i).re l (i : Nat) h = D at *
            obtain ⟨a, c⟩ := D
            simp only [vsAll, binA, binLitA, intA, opA, dstOk, nilSliceOp, Nat.reduceLT, Nat.reduceEqDiff, ↓reduceIte, eq_self]
            refine condD (fun hq1 => ?_) (fun hq1 => ?_)
            ·have hs1 : wnV p l h (i + 1) i = if (p.wt i).re ≤ 0 then (0, 0) else (a + 1, 0) := by
              rw [enew, decide_eq_true hq1.symm]; rfl
             simp only [vsAll, binA, binLitA, intA, loadA, loadRow, partA, partOk, indexAddrA, cellA, cellsA, opA, newCells, okCells, storeObj, dstOk, Nat.reduceLT, Nat.reduceEqDiff, ↓reduceIte, eq_self, wtAll, c1, c1', wnF_at, idF_at, eat]
             refine ⟨⟨by ((try clear z11 a1 a1' a2 b1 b1' b2 c1 c1'); omega), by ((try clear z11 a1 a1' a2 b1 b1' b2 c1 c1'); omega)⟩, hiw, by simp only [InR_i64]; ((try clear z11 a1 a1' a2 b1 b1' b2 c1 c1'); omega), ⟨by ((try clear z11 a1 a1' a2 b1 b1' b2 c1 c1'); omega), by ((try clear z11 a1 a1' a2 b1 b1' b2 c1 c1'); omega)⟩, hiw, ⟨by ((try clear z11 a1 a1' a2 b1 b1' b2 c1 c1'); omega), by ((try clear z11 a1 a1' a2 b1 b1' b2 c1 c1'); omega)⟩, hiw, ?_⟩
             refine vs_draw 11 (by decide +kernel) ?_
             simp only [vsAll, binA, binLitA, intA, loadA, loadRow, partA, partOk, fieldAddrA, indexAddrA, opA, dstOk, Nat.reduceLT, Nat.reduceEqDiff, ↓reduceIte, eq_self, wtAll, a1', b1', hup, wsF_at, ewi2]
             refine ⟨⟨by ((try clear z11 a1 a1' a2 b1 b1' b2 c1 c1'); omega), by ((try clear z11 a1 a1' a2 b1 b1' b2 c1 c1'); omega)⟩, hiw, ⟨by ((try clear z11 a1 a1' a2 b1 b1' b2 c1 c1'); omega), by ((try clear z11 a1 a1' a2 b1 b1' b2 c1 c1'); omega)⟩, hiw, condD (fun hq2 => ?_) (fun hq2 => ?_)⟩
             ·rw [if_pos (by ((try clear z11 a1 a1' a2 b1 b1' b2 c1 c1'); omega))] at hs1
              simp only [vsAll, binA, binLitA, intA, indexAddrA, cellA, cellsA, opA, newCells, okCells, storeObj, dstOk, Nat.reduceLT, Nat.reduceEqDiff, ↓reduceIte, eq_self, wtAll, c1]
              refine ⟨⟨by ((try clear z11 a1 a1' a2 b1 b1' b2 c1 c1'); omega), by ((try clear z11 a1 a1' a2 b1 b1' b2 c1 c1'); omega)⟩, hiw, by simp only [InR_i64]; ((try clear z11 a1 a1' a2 b1 b1' b2 c1 c1'); omega), loop_next (i + 1) hiw (by ((try clear z11 a1 a1' a2 b1 b1' b2 c1 c1'); omega)) ?_ ?_⟩
              ·simp only [vsAll, Nat.reduceEqDiff, ↓reduceIte, eq_self, Int.natCast_add, Int.natCast_one]
              ·refine HSub_put_le (o' := .row 1 p.ws.length (updF p.ws.length i (idF p l h i) [i64 0])) (by simp only [vsAll, ↓reduceIte, eq_self, c1']; try rfl) (row_ext (id_upd hiw (fun _ _ _ => rfl) (by rw [hs1]; rfl))) (HSub_put_le (o' := .row 1 p.ws.length (updF p.ws.length i (updF p.ws.length i (wnF p l h i) [i64 ((a : Int) + 1)]) [i64 0])) (by simp only [vsAll, ↓reduceIte, eq_self, hup]; try rfl) (row_ext (wn_upd hiw (fun q hq e => by rw [updF_at hiw hq, if_neg e]) (by rw [hs1]; rfl))) ?_)
               (refine HSub_eqn fun jj => ?_; refine (Classical.em (jj = ja)).elim (fun E0 => by rw [E0]; first | (left; simp only [vsAll, ↓reduceIte, eq_self, a1, a2]; done) | (right; simp only [vsAll, binA, binLitA, intA, aggA, aggV, boolA, nilA2, isConst, unA, loadA, loadRow, partA, partOk, fieldAddrA, indexAddrA, indexA, fieldA, extractA, lenA, nilCheckA, boxA, boxZ, cellA, cellsA, fillA, okParts, buildSliceA, buildMutA, makeSliceA, partIdx, elemsA, lensA, ifaceA, convA, mmA, pickA, okAll, stAll, opsA, partsA, partsOk, opA, allocA, boxMutA, newCells, okCells, storeObj, appendA, guardV, taA, nM, mapUpA, rangeA, nextA, entryA, lookA, sliceA, sliceM, sliceS, boundsA, opO, okO, copyA, dstOk, nilA, quietOk, nilSliceOp, deferV, panA, resA, argFr, retA.eq_1, retA.eq_2, Nat.reduceAdd, Nat.reduceSub, Nat.reduceMul, Nat.reduceLT, Nat.reduceLeDiff, Nat.reduceEqDiff, Nat.reduceBEq, Int.reduceAdd, Int.reduceSub, Int.reduceMul, Int.reduceNeg, Int.reduceLE, Int.reduceLT, Int.reduceEq, Int.reduceNe, Int.reduceToNat, ↓reduceIte, reduceCtorEq, implies_true, forall_const, eq_self, ne_eq, wtAll, Try.ntmps3, Try.results3, z11, a1, a1', a2, b1, b1', b2, c1, c1']; done)) (fun E0 => ?_); refine (Classical.em (jj = jb)).elim (fun E1 => by rw [E1]; first | (left; simp only [vsAll, ↓reduceIte, eq_self, b1, b2]; done) | (right; simp only [vsAll, binA, binLitA, intA, aggA, aggV, boolA, nilA2, isConst, unA, loadA, loadRow, partA, partOk, fieldAddrA, indexAddrA, indexA, fieldA, extractA, lenA, nilCheckA, boxA, boxZ, cellA, cellsA, fillA, okParts, buildSliceA, buildMutA, makeSliceA, partIdx, elemsA, lensA, ifaceA, convA, mmA, pickA, okAll, stAll, opsA, partsA, partsOk, opA, allocA, boxMutA, newCells, okCells, storeObj, appendA, guardV, taA, nM, mapUpA, rangeA, nextA, entryA, lookA, sliceA, sliceM, sliceS, boundsA, opO, okO, copyA, dstOk, nilA, quietOk, nilSliceOp, deferV, panA, resA, argFr, retA.eq_1, retA.eq_2, Nat.reduceAdd, Nat.reduceSub, Nat.reduceMul, Nat.reduceLT, Nat.reduceLeDiff, Nat.reduceEqDiff, Nat.reduceBEq, Int.reduceAdd, Int.reduceSub, Int.reduceMul, Int.reduceNeg, Int.reduceLE, Int.reduceLT, Int.reduceEq, Int.reduceNe, Int.reduceToNat, ↓reduceIte, reduceCtorEq, implies_true, forall_const, eq_self, ne_eq, wtAll, Try.ntmps3, Try.results3, z11, a1, a1', a2, b1, b1', b2, c1, c1']; done)) (fun E1 => ?_); refine (Classical.em (jj = i11)).elim (fun E2 => by rw [E2]; first | (left; simp only [vsAll, ↓reduceIte, reduceCtorEq, eq_self]; done) | (right; simp only [vsAll, ↓reduceIte, eq_self, a1', b1']; done)) (fun E2 => ?_); right; simp only [vsAll, ↓reduceIte, eq_self, E0, E1, E2])
             ·rw [if_neg (by ((try clear z11 a1 a1' a2 b1 b1' b2 c1 c1'); omega))] at hs1
              simp only [vsAll, binA, binLitA, intA, opA, dstOk, Nat.reduceLT, Nat.reduceEqDiff, ↓reduceIte, eq_self]
              refine ⟨by simp only [InR_i64]; ((try clear z11 a1 a1' a2 b1 b1' b2 c1 c1'); omega), loop_next (i + 1) hiw (by ((try clear z11 a1 a1' a2 b1 b1' b2 c1 c1'); omega)) ?_ ?_⟩
              ·simp only [vsAll, Nat.reduceEqDiff, ↓reduceIte, eq_self, Int.natCast_add, Int.natCast_one]
              ·refine HSub_put_le (o' := .row 1 p.ws.length (updF p.ws.length i (idF p l h i) [i64 0])) (by simp only [vsAll, ↓reduceIte, eq_self]; try rfl) (row_ext (id_upd hiw (fun _ _ _ => rfl) (by rw [hs1]; rfl))) (HSub_put_le (o' := .row 1 p.ws.length (updF p.ws.length i (wnF p l h i) [i64 ((a : Int) + 1)])) (by simp only [vsAll, ↓reduceIte, eq_self, c1]; try rfl) (row_ext (wn_upd hiw (fun _ _ _ => rfl) (by rw [hs1]; simp))) ?_)
               (refine HSub_eqn fun jj => ?_; refine (Classical.em (jj = ja)).elim (fun E0 => by rw [E0]; first | (left; simp only [vsAll, ↓reduceIte, eq_self, a1, a2]; done) | (right; simp only [vsAll, binA, binLitA, intA, aggA, aggV, boolA, nilA2, isConst, unA, loadA, loadRow, partA, partOk, fieldAddrA, indexAddrA, indexA, fieldA, extractA, lenA, nilCheckA, boxA, boxZ, cellA, cellsA, fillA, okParts, buildSliceA, buildMutA, makeSliceA, partIdx, elemsA, lensA, ifaceA, convA, mmA, pickA, okAll, stAll, opsA, partsA, partsOk, opA, allocA, boxMutA, newCells, okCells, storeObj, appendA, guardV, taA, nM, mapUpA, rangeA, nextA, entryA, lookA, sliceA, sliceM, sliceS, boundsA, opO, okO, copyA, dstOk, nilA, quietOk, nilSliceOp, deferV, panA, resA, argFr, retA.eq_1, retA.eq_2, Nat.reduceAdd, Nat.reduceSub, Nat.reduceMul, Nat.reduceLT, Nat.reduceLeDiff, Nat.reduceEqDiff, Nat.reduceBEq, Int.reduceAdd, Int.reduceSub, Int.reduceMul, Int.reduceNeg, Int.reduceLE, Int.reduceLT, Int.reduceEq, Int.reduceNe, Int.reduceToNat, ↓reduceIte, reduceCtorEq, implies_true, forall_const, eq_self, ne_eq, wtAll, Try.ntmps3, Try.results3, z11, a1, a1', a2, b1, b1', b2, c1, c1']; done)) (fun E0 => ?_); refine (Classical.em (jj = jb)).elim (fun E1 => by rw [E1]; first | (left; simp only [vsAll, ↓reduceIte, eq_self, b1, b2]; done) | (right; simp only [vsAll, binA, binLitA, intA, aggA, aggV, boolA, nilA2, isConst, unA, loadA, loadRow, partA, partOk, fieldAddrA, indexAddrA, indexA, fieldA, extractA, lenA, nilCheckA, boxA, boxZ, cellA, cellsA, fillA, okParts, buildSliceA, buildMutA, makeSliceA, partIdx, elemsA, lensA, ifaceA, convA, mmA, pickA, okAll, stAll, opsA, partsA, partsOk, opA, allocA, boxMutA, newCells, okCells, storeObj, appendA, guardV, taA, nM, mapUpA, rangeA, nextA, entryA, lookA, sliceA, sliceM, sliceS, boundsA, opO, okO, copyA, dstOk, nilA, quietOk, nilSliceOp, deferV, panA, resA, argFr, retA.eq_1, retA.eq_2, Nat.reduceAdd, Nat.reduceSub, Nat.reduceMul, Nat.reduceLT, Nat.reduceLeDiff, Nat.reduceEqDiff, Nat.reduceBEq, Int.reduceAdd, Int.reduceSub, Int.reduceMul, Int.reduceNeg, Int.reduceLE, Int.reduceLT, Int.reduceEq, Int.reduceNe, Int.reduceToNat, ↓reduceIte, reduceCtorEq, implies_true, forall_const, eq_self, ne_eq, wtAll, Try.ntmps3, Try.results3, z11, a1, a1', a2, b1, b1', b2, c1, c1']; done)) (fun E1 => ?_); refine (Classical.em (jj = i11)).elim (fun E2 => by rw [E2]; first | (left; simp only [vsAll, ↓reduceIte, reduceCtorEq, eq_self]; done) | (right; simp only [vsAll, ↓reduceIte, eq_self, a1', b1']; done)) (fun E2 => ?_); right; simp only [vsAll, ↓reduceIte, eq_self, E0, E1, E2])
            ·have hs1 : wnV p l h (i + 1) i = if (p.wt i).re ≤ ((c + 1 : Nat) : Int) then (0, c + 1) else (a, c + 1) := by
              rw [enew, decide_eq_false (fun e => hq1 e.symm)]; rfl
             simp only [vsAll, binA, binLitA, intA, loadA, loadRow, partA, partOk, indexAddrA, cellA, cellsA, opA, newCells, okCells, storeObj, dstOk, Nat.reduceLT, Nat.reduceEqDiff, ↓reduceIte, eq_self, wtAll, idF_at, eat]
             refine ⟨⟨by ((try clear z11 a1 a1' a2 b1 b1' b2 c1 c1'); omega), by ((try clear z11 a1 a1' a2 b1 b1' b2 c1 c1'); omega)⟩, hiw, by simp only [InR_i64]; ((try clear z11 a1 a1' a2 b1 b1' b2 c1 c1'); omega), ⟨by ((try clear z11 a1 a1' a2 b1 b1' b2 c1 c1'); omega), by ((try clear z11 a1 a1' a2 b1 b1' b2 c1 c1'); omega)⟩, hiw, ?_⟩
             refine vs_draw 11 (by decide +kernel) ?_
             simp only [vsAll, binA, binLitA, intA, loadA, loadRow, partA, partOk, fieldAddrA, indexAddrA, opA, dstOk, Nat.reduceLT, Nat.reduceEqDiff, ↓reduceIte, eq_self, wtAll, a1', b1', hup, wsF_at, ewi2]
             refine ⟨⟨by ((try clear z11 a1 a1' a2 b1 b1' b2 c1 c1'); omega), by ((try clear z11 a1 a1' a2 b1 b1' b2 c1 c1'); omega)⟩, hiw, ⟨by ((try clear z11 a1 a1' a2 b1 b1' b2 c1 c1'); omega), by ((try clear z11 a1 a1' a2 b1 b1' b2 c1 c1'); omega)⟩, hiw, condD (fun hq2 => ?_) (fun hq2 => ?_)⟩
             ·rw [if_pos (by ((try clear z11 a1 a1' a2 b1 b1' b2 c1 c1'); omega))] at hs1
              simp only [vsAll, binA, binLitA, intA, indexAddrA, cellA, cellsA, opA, newCells, okCells, storeObj, dstOk, Nat.reduceLT, Nat.reduceEqDiff, ↓reduceIte, eq_self, wtAll, c1]
              refine ⟨⟨by ((try clear z11 a1 a1' a2 b1 b1' b2 c1 c1'); omega), by ((try clear z11 a1 a1' a2 b1 b1' b2 c1 c1'); omega)⟩, hiw, by simp only [InR_i64]; ((try clear z11 a1 a1' a2 b1 b1' b2 c1 c1'); omega), loop_next (i + 1) hiw (by ((try clear z11 a1 a1' a2 b1 b1' b2 c1 c1'); omega)) ?_ ?_⟩
              ·simp only [vsAll, Nat.reduceEqDiff, ↓reduceIte, eq_self, Int.natCast_add, Int.natCast_one]
              ·refine HSub_put_le (o' := .row 1 p.ws.length (updF p.ws.length i (idF p l h i) [i64 ((c : Int) + 1)])) (by simp only [vsAll, ↓reduceIte, eq_self, c1']; try rfl) (row_ext (id_upd hiw (fun _ _ _ => rfl) (by rw [hs1]; simp))) (HSub_put_le (o' := .row 1 p.ws.length (updF p.ws.length i (wnF p l h i) [i64 0])) (by simp only [vsAll, ↓reduceIte, eq_self]; try rfl) (row_ext (wn_upd hiw (fun _ _ _ => rfl) (by rw [hs1]; rfl))) ?_)
               (refine HSub_eqn fun jj => ?_; refine (Classical.em (jj = ja)).elim (fun E0 => by rw [E0]; first | (left; simp only [vsAll, ↓reduceIte, eq_self, a1, a2]; done) | (right; simp only [vsAll, binA, binLitA, intA, aggA, aggV, boolA, nilA2, isConst, unA, loadA, loadRow, partA, partOk, fieldAddrA, indexAddrA, indexA, fieldA, extractA, lenA, nilCheckA, boxA, boxZ, cellA, cellsA, fillA, okParts, buildSliceA, buildMutA, makeSliceA, partIdx, elemsA, lensA, ifaceA, convA, mmA, pickA, okAll, stAll, opsA, partsA, partsOk, opA, allocA, boxMutA, newCells, okCells, storeObj, appendA, guardV, taA, nM, mapUpA, rangeA, nextA, entryA, lookA, sliceA, sliceM, sliceS, boundsA, opO, okO, copyA, dstOk, nilA, quietOk, nilSliceOp, deferV, panA, resA, argFr, retA.eq_1, retA.eq_2, Nat.reduceAdd, Nat.reduceSub, Nat.reduceMul, Nat.reduceLT, Nat.reduceLeDiff, Nat.reduceEqDiff, Nat.reduceBEq, Int.reduceAdd, Int.reduceSub, Int.reduceMul, Int.reduceNeg, Int.reduceLE, Int.reduceLT, Int.reduceEq, Int.reduceNe, Int.reduceToNat, ↓reduceIte, reduceCtorEq, implies_true, forall_const, eq_self, ne_eq, wtAll, Try.ntmps3, Try.results3, z11, a1, a1', a2, b1, b1', b2, c1, c1']; done)) (fun E0 => ?_); refine (Classical.em (jj = jb)).elim (fun E1 => by rw [E1]; first | (left; simp only [vsAll, ↓reduceIte, eq_self, b1, b2]; done) | (right; simp only [vsAll, binA, binLitA, intA, aggA, aggV, boolA, nilA2, isConst, unA, loadA, loadRow, partA, partOk, fieldAddrA, indexAddrA, indexA, fieldA, extractA, lenA, nilCheckA, boxA, boxZ, cellA, cellsA, fillA, okParts, buildSliceA, buildMutA, makeSliceA, partIdx, elemsA, lensA, ifaceA, convA, mmA, pickA, okAll, stAll, opsA, partsA, partsOk, opA, allocA, boxMutA, newCells, okCells, storeObj, appendA, guardV, taA, nM, mapUpA, rangeA, nextA, entryA, lookA, sliceA, sliceM, sliceS, boundsA, opO, okO, copyA, dstOk, nilA, quietOk, nilSliceOp, deferV, panA, resA, argFr, retA.eq_1, retA.eq_2, Nat.reduceAdd, Nat.reduceSub, Nat.reduceMul, Nat.reduceLT, Nat.reduceLeDiff, Nat.reduceEqDiff, Nat.reduceBEq, Int.reduceAdd, Int.reduceSub, Int.reduceMul, Int.reduceNeg, Int.reduceLE, Int.reduceLT, Int.reduceEq, Int.reduceNe, Int.reduceToNat, ↓reduceIte, reduceCtorEq, implies_true, forall_const, eq_self, ne_eq, wtAll, Try.ntmps3, Try.results3, z11, a1, a1', a2, b1, b1', b2, c1, c1']; done)) (fun E1 => ?_); refine (Classical.em (jj = i11)).elim (fun E2 => by rw [E2]; first | (left; simp only [vsAll, ↓reduceIte, reduceCtorEq, eq_self]; done) | (right; simp only [vsAll, ↓reduceIte, eq_self, a1', b1']; done)) (fun E2 => ?_); right; simp only [vsAll, ↓reduceIte, eq_self, E0, E1, E2])
             ·rw [if_neg (by ((try clear z11 a1 a1' a2 b1 b1' b2 c1 c1'); omega))] at hs1
              simp only [vsAll, binA, binLitA, intA, opA, dstOk, Nat.reduceLT, Nat.reduceEqDiff, ↓reduceIte, eq_self]
              refine ⟨by simp only [InR_i64]; ((try clear z11 a1 a1' a2 b1 b1' b2 c1 c1'); omega), loop_next (i + 1) hiw (by ((try clear z11 a1 a1' a2 b1 b1' b2 c1 c1'); omega)) ?_ ?_⟩
              ·simp only [vsAll, Nat.reduceEqDiff, ↓reduceIte, eq_self, Int.natCast_add, Int.natCast_one]
              ·refine HSub_put_le (o' := .row 1 p.ws.length (updF p.ws.length i (idF p l h i) [i64 ((c : Int) + 1)])) (by simp only [vsAll, ↓reduceIte, eq_self]; try rfl) (row_ext (id_upd hiw (fun _ _ _ => rfl) (by rw [hs1]; simp))) (HSub_put_le (o' := .row 1 p.ws.length (wnF p l h i)) (by simp only [vsAll, ↓reduceIte, eq_self, c1]) (row_ext fun q _ => wn_same (by rw [hs1, eat]) q) ?_)
               (refine HSub_eqn fun jj => ?_; refine (Classical.em (jj = ja)).elim (fun E0 => by rw [E0]; first | (left; simp only [vsAll, ↓reduceIte, eq_self, a1, a2]; done) | (right; simp only [vsAll, binA, binLitA, intA, aggA, aggV, boolA, nilA2, isConst, unA, loadA, loadRow, partA, partOk, fieldAddrA, indexAddrA, indexA, fieldA, extractA, lenA, nilCheckA, boxA, boxZ, cellA, cellsA, fillA, okParts, buildSliceA, buildMutA, makeSliceA, partIdx, elemsA, lensA, ifaceA, convA, mmA, pickA, okAll, stAll, opsA, partsA, partsOk, opA, allocA, boxMutA, newCells, okCells, storeObj, appendA, guardV, taA, nM, mapUpA, rangeA, nextA, entryA, lookA, sliceA, sliceM, sliceS, boundsA, opO, okO, copyA, dstOk, nilA, quietOk, nilSliceOp, deferV, panA, resA, argFr, retA.eq_1, retA.eq_2, Nat.reduceAdd, Nat.reduceSub, Nat.reduceMul, Nat.reduceLT, Nat.reduceLeDiff, Nat.reduceEqDiff, Nat.reduceBEq, Int.reduceAdd, Int.reduceSub, Int.reduceMul, Int.reduceNeg, Int.reduceLE, Int.reduceLT, Int.reduceEq, Int.reduceNe, Int.reduceToNat, ↓reduceIte, reduceCtorEq, implies_true, forall_const, eq_self, ne_eq, wtAll, Try.ntmps3, Try.results3, z11, a1, a1', a2, b1, b1', b2, c1, c1']; done)) (fun E0 => ?_); refine (Classical.em (jj = jb)).elim (fun E1 => by rw [E1]; first | (left; simp only [vsAll, ↓reduceIte, eq_self, b1, b2]; done) | (right; simp only [vsAll, binA, binLitA, intA, aggA, aggV, boolA, nilA2, isConst, unA, loadA, loadRow, partA, partOk, fieldAddrA, indexAddrA, indexA, fieldA, extractA, lenA, nilCheckA, boxA, boxZ, cellA, cellsA, fillA, okParts, buildSliceA, buildMutA, makeSliceA, partIdx, elemsA, lensA, ifaceA, convA, mmA, pickA, okAll, stAll, opsA, partsA, partsOk, opA, allocA, boxMutA, newCells, okCells, storeObj, appendA, guardV, taA, nM, mapUpA, rangeA, nextA, entryA, lookA, sliceA, sliceM, sliceS, boundsA, opO, okO, copyA, dstOk, nilA, quietOk, nilSliceOp, deferV, panA, resA, argFr, retA.eq_1, retA.eq_2, Nat.reduceAdd, Nat.reduceSub, Nat.reduceMul, Nat.reduceLT, Nat.reduceLeDiff, Nat.reduceEqDiff, Nat.reduceBEq, Int.reduceAdd, Int.reduceSub, Int.reduceMul, Int.reduceNeg, Int.reduceLE, Int.reduceLT, Int.reduceEq, Int.reduceNe, Int.reduceToNat, ↓reduceIte, reduceCtorEq, implies_true, forall_const, eq_self, ne_eq, wtAll, Try.ntmps3, Try.results3, z11, a1, a1', a2, b1, b1', b2, c1, c1']; done)) (fun E1 => ?_); refine (Classical.em (jj = i11)).elim (fun E2 => by rw [E2]; first | (left; simp only [vsAll, ↓reduceIte, reduceCtorEq, eq_self]; done) | (right; simp only [vsAll, ↓reduceIte, eq_self, a1', b1']; done)) (fun E2 => ?_); right; simp only [vsAll, ↓reduceIte, eq_self, E0, E1, E2])
           ·have ei : i = p.ws.length := by ((try clear z11 a1 a1' a2 b1 b1' b2 c1 c1'); omega)
            have cN : decide ((p.ws.length : Int) < p.ws.length) = false := decide_eq_false (by ((try clear z11 a1 a1' a2 b1 b1' b2 c1 c1'); omega))
            have c3 : decide (E > p.ca) = false := decide_eq_false (by ((try clear z11 a1 a1' a2 b1 b1' b2 c1 c1'); omega))
            have c4 : decide (E < watV p l true (h + 1)) = false := decide_eq_false (by ((try clear z11 a1 a1' a2 b1 b1' b2 c1 c1'); omega))
            have c5 : decide (E > watV p l false (h + 1)) = false := decide_eq_false (by ((try clear z11 a1 a1' a2 b1 b1' b2 c1 c1'); omega))
            subst ei
            simp only [vsAll, binA, binLitA, intA, loadA, loadRow, partA, partOk, fieldAddrA, indexAddrA, pickA, opA, guardV, dstOk, Nat.reduceLT, Nat.reduceEqDiff, ↓reduceIte, implies_true, forall_const, eq_self, wtAll, a1', b1', spanF_at, hvh, fV, c3, c4, c5]
            refine ⟨⟨by ((try clear z11 a1 a1' a2 b1 b1' b2 c1 c1'); omega), by ((try clear z11 a1 a1' a2 b1 b1' b2 c1 c1'); omega)⟩, hil, ⟨by ((try clear z11 a1 a1' a2 b1 b1' b2 c1 c1'); omega), by ((try clear z11 a1 a1' a2 b1 b1' b2 c1 c1'); omega)⟩, hil, by simp only [InR_i64]; ((try clear z11 a1 a1' a2 b1 b1' b2 c1 c1'); omega), loop_next (h + 1) hil (by ((try clear z11 a1 a1' a2 b1 b1' b2 c1 c1'); omega)) ?_ ?_⟩
            ·simp only [vsAll, Nat.reduceEqDiff, ↓reduceIte, eq_self, hEE, Int.natCast_add, Int.natCast_one]
            ·refine HSub_put_le (o' := .row 1 p.ws.length (idF p l h p.ws.length)) (by simp only [vsAll, ↓reduceIte, eq_self]) (row_ext (id_end p l h _)) (HSub_put_le (o' := .row 1 p.ws.length (wnF p l h p.ws.length)) (by simp only [vsAll, ↓reduceIte, eq_self, c1]) (row_ext (wn_end p l h _)) ?_)
             (refine HSub_eqn fun jj => ?_; refine (Classical.em (jj = ja)).elim (fun E0 => by rw [E0]; first | (left; simp only [vsAll, ↓reduceIte, eq_self, a1, a2]; done) | (right; simp only [vsAll, binA, binLitA, intA, aggA, aggV, boolA, nilA2, isConst, unA, loadA, loadRow, partA, partOk, fieldAddrA, indexAddrA, indexA, fieldA, extractA, lenA, nilCheckA, boxA, boxZ, cellA, cellsA, fillA, okParts, buildSliceA, buildMutA, makeSliceA, partIdx, elemsA, lensA, ifaceA, convA, mmA, pickA, okAll, stAll, opsA, partsA, partsOk, opA, allocA, boxMutA, newCells, okCells, storeObj, appendA, guardV, taA, nM, mapUpA, rangeA, nextA, entryA, lookA, sliceA, sliceM, sliceS, boundsA, opO, okO, copyA, dstOk, nilA, quietOk, nilSliceOp, deferV, panA, resA, argFr, retA.eq_1, retA.eq_2, Nat.reduceAdd, Nat.reduceSub, Nat.reduceMul, Nat.reduceLT, Nat.reduceLeDiff, Nat.reduceEqDiff, Nat.reduceBEq, Int.reduceAdd, Int.reduceSub, Int.reduceMul, Int.reduceNeg, Int.reduceLE, Int.reduceLT, Int.reduceEq, Int.reduceNe, Int.reduceToNat, ↓reduceIte, reduceCtorEq, implies_true, forall_const, eq_self, ne_eq, wtAll, Try.ntmps3, Try.results3, z11, a1, a1', a2, b1, b1', b2, c1, c1']; done)) (fun E0 => ?_); refine (Classical.em (jj = jb)).elim (fun E1 => by rw [E1]; first | (left; simp only [vsAll, ↓reduceIte, eq_self, b1, b2]; done) | (right; simp only [vsAll, binA, binLitA, intA, aggA, aggV, boolA, nilA2, isConst, unA, loadA, loadRow, partA, partOk, fieldAddrA, indexAddrA, indexA, fieldA, extractA, lenA, nilCheckA, boxA, boxZ, cellA, cellsA, fillA, okParts, buildSliceA, buildMutA, makeSliceA, partIdx, elemsA, lensA, ifaceA, convA, mmA, pickA, okAll, stAll, opsA, partsA, partsOk, opA, allocA, boxMutA, newCells, okCells, storeObj, appendA, guardV, taA, nM, mapUpA, rangeA, nextA, entryA, lookA, sliceA, sliceM, sliceS, boundsA, opO, okO, copyA, dstOk, nilA, quietOk, nilSliceOp, deferV, panA, resA, argFr, retA.eq_1, retA.eq_2, Nat.reduceAdd, Nat.reduceSub, Nat.reduceMul, Nat.reduceLT, Nat.reduceLeDiff, Nat.reduceEqDiff, Nat.reduceBEq, Int.reduceAdd, Int.reduceSub, Int.reduceMul, Int.reduceNeg, Int.reduceLE, Int.reduceLT, Int.reduceEq, Int.reduceNe, Int.reduceToNat, ↓reduceIte, reduceCtorEq, implies_true, forall_const, eq_self, ne_eq, wtAll, Try.ntmps3, Try.results3, z11, a1, a1', a2, b1, b1', b2, c1, c1']; done)) (fun E1 => ?_); refine (Classical.em (jj = i11)).elim (fun E2 => by rw [E2]; first | (left; simp only [vsAll, ↓reduceIte, reduceCtorEq, eq_self]; done) | (right; simp only [vsAll, ↓reduceIte, eq_self, a1', b1']; done)) (fun E2 => ?_); right; simp only [vsAll, ↓reduceIte, eq_self, E0, E1, E2])
        ·have ei : h = l.length := by ((try clear z11 a1 a1' a2 b1 b1' b2 c1 c1'); omega)
         subst ei
         simp only [vsAll, okAll, stAll, opsA, opA, dstOk, Nat.reduceLT, ↓reduceIte, eq_self]
         refine callK_pure (awakeA_tri _) ?_
         simp only [vsAll, opA, dstOk, nilSliceOp, resA, retA.eq_1, Nat.reduceLT, ↓reduceIte, eq_self, Try.results3]
         exact dropR_pure rfl (by (repeat (first | exact HSub_rfl | refine HSub_put_eq (by simp only [vsAll, binA, binLitA, intA, aggA, aggV, boolA, nilA2, isConst, unA, loadA, loadRow, partA, partOk, fieldAddrA, indexAddrA, indexA, fieldA, extractA, lenA, nilCheckA, boxA, boxZ, cellA, cellsA, fillA, okParts, buildSliceA, buildMutA, makeSliceA, partIdx, elemsA, lensA, ifaceA, convA, mmA, pickA, okAll, stAll, opsA, partsA, partsOk, opA, allocA, boxMutA, newCells, okCells, storeObj, appendA, guardV, taA, nM, mapUpA, rangeA, nextA, entryA, lookA, sliceA, sliceM, sliceS, boundsA, opO, okO, copyA, dstOk, nilA, quietOk, nilSliceOp, deferV, panA, resA, argFr, retA.eq_1, retA.eq_2, Nat.reduceAdd, Nat.reduceSub, Nat.reduceMul, Nat.reduceLT, Nat.reduceLeDiff, Nat.reduceEqDiff, Nat.reduceBEq, Int.reduceAdd, Int.reduceSub, Int.reduceMul, Int.reduceNeg, Int.reduceLE, Int.reduceLT, Int.reduceEq, Int.reduceNe, Int.reduceToNat, ↓reduceIte, reduceCtorEq, implies_true, forall_const, eq_self, ne_eq, wtAll, Try.ntmps3, Try.results3, z11, a1, a1', a2, b1, b1', b2, c1, c1']) ?_ | refine HSub_drop2 (by simp only [eq_self, z11, a2, b2]) ?_ | refine HSub_keep_eq (by simp only [vsAll, binA, binLitA, intA, aggA, aggV, boolA, nilA2, isConst, unA, loadA, loadRow, partA, partOk, fieldAddrA, indexAddrA, indexA, fieldA, extractA, lenA, nilCheckA, boxA, boxZ, cellA, cellsA, fillA, okParts, buildSliceA, buildMutA, makeSliceA, partIdx, elemsA, lensA, ifaceA, convA, mmA, pickA, okAll, stAll, opsA, partsA, partsOk, opA, allocA, boxMutA, newCells, okCells, storeObj, appendA, guardV, taA, nM, mapUpA, rangeA, nextA, entryA, lookA, sliceA, sliceM, sliceS, boundsA, opO, okO, copyA, dstOk, nilA, quietOk, nilSliceOp, deferV, panA, resA, argFr, retA.eq_1, retA.eq_2, Nat.reduceAdd, Nat.reduceSub, Nat.reduceMul, Nat.reduceLT, Nat.reduceLeDiff, Nat.reduceEqDiff, Nat.reduceBEq, Int.reduceAdd, Int.reduceSub, Int.reduceMul, Int.reduceNeg, Int.reduceLE, Int.reduceLT, Int.reduceEq, Int.reduceNe, Int.reduceToNat, ↓reduceIte, reduceCtorEq, implies_true, forall_const, eq_self, ne_eq, wtAll, Try.ntmps3, Try.results3, z11, a1, a1', a2, b1, b1', b2, c1, c1']) ?_)))
end Go.Proofs.Ytclkjifgipcamaa
end
section
set_option linter.unusedVariables false
set_option linter.unusedSimpArgs false
set_option maxRecDepth 100000
namespace Go.Proofs.Ytclkjifgipcamaa
open Go.V Go.ChangeShapes Go.WideShapes Go.ChangeAt Go.RowKit
theorem Try.own : ownKnob Try.prog.godebug = none := by kernel_rfl
theorem u4 : Try.prog.underlying 4 = some .bool := by kernel_rfl
theorem u22 : Try.prog.underlying 22 = some (.slice 76) := by kernel_rfl
def iz : Value → Int
 | .int _ n => n
 | _ => 0
theorem by_rel {H : Type} {enc : TypeId × Value → H} {W : World} {sp : Nat → Bool} {held : Bool} {v : Value} {d : DataW H} {ps : List MemPlace} {base : Nat}
  (hv : Value.okWide Try.prog W .any base 22 v) (h : DataW.Trod enc Try.prog W 0 sp held 22 v d ps) : ∃ (N : Nat) (b : Nat → Int), OkB N b ∧ VRel (st0 W) (.rsl N 1 (byF b)) v := by
 obtain ⟨a, len, cap, rfl⟩ := okWide_slice u22 hv
 obtain ⟨fuel, h⟩ := h
 obtain ⟨n, g, hn, hl, hr⟩ := trod_slice_rel (d := 4) (e := 76) (ks := [.int .u16]) u22 (by decide +kernel) (by decide +kernel) (by decide) (show DataW.trod enc Try.prog W 0 sp held fuel 22 [.slice a len cap] = some (d, ps) from h)
 have key : ∀ i, i < n → ∃ z : Int, g i = [.int .u16 z] ∧ 0 ≤ z ∧ z ≤ 65535 := fun i hi => by
  obtain ⟨h1, h2⟩ := hl i hi
  match hg : g i, h1 with
  | [x], _ =>
    obtain ⟨z, rfl, hz⟩ := h2 0 (.int .u16) x rfl (by rw [hg]; rfl)
    refine ⟨z, rfl, ?_⟩
    simp [Lit.wf, IntKind.min, IntKind.max, IntKind.signed, IntKind.bits] at hz
    omega
 have hm : maxLen < 2 ^ 63 := by decide
 refine ⟨n, fun i => iz ((g i).getD 0 undef), ⟨by omega, fun i hi => ?_⟩, AV.Le.rsl (fun i hi => ?_) _ _ hr⟩
 ·obtain ⟨z, e, hz⟩ := key i hi
  simp only [e]; exact hz
 ·obtain ⟨z, e, hz⟩ := key i hi
  simp only [e]; simp only [byF, e]; rfl
end Go.Proofs.Ytclkjifgipcamaa
end
section
set_option linter.unusedVariables false
set_option linter.unusedSimpArgs false
set_option maxRecDepth 100000
namespace Go.Proofs.Ytclkjifgipcamaa
open Go.V Go.ChangeShapes Go.WideShapes Go.ChangeAt Go.RowKit
theorem topAfloat_lifted (os : Os) (started : os.Started) (H : Type) (enc : TypeId × Value → H) :
  ReturnsInHanded {} Try.checked os 3 .any (Rows.topAfloatSpec.pre6 enc Try.prog Try.f3 Rows.topAfloatRow.domain false) (Rows.topAfloatSpec.post enc Try.prog Try.f3 false true false false) := by
 refine returnsInHanded_of_change (C := Try.checked) Try.own started (by kernel_rfl) Try.func3
  (ChangeSpec.witness6 (enc := enc) (C := Try.checked) false ⟨#[], #[.slice none 0 0], []⟩ 8 (by kernel_rfl) (by kernel_rfl) (by kernel_rfl) (by kernel_rfl)) ?_
 intro W base args ds gs before hval hW hcnd _
 have hW' := hW
 obtain ⟨p, q, hA, hV, rfl, hfz, hnd⟩ := hW
 obtain ⟨rfl, rfl⟩ := trodVars_none hV
 rw [show Try.f3.params.toList = [22] from by kernel_rfl] at hA
 obtain ⟨v0, d0, rfl, rfl, h0⟩ := trodAll_one hA
 have hval : ∀ (j : Nat) t v, Try.f3.params[j]? = some t → (#[v0] : Array Value)[j]? = some v → Value.okWide Try.prog W .any base t v := hval
 rw [show Try.f3.params = #[22] from by kernel_rfl] at hval
 obtain ⟨N0, x0, b0, r0⟩ := by_rel (hval 0 22 v0 rfl rfl) h0
 refine (law_calls (W := W) (args := #[v0]) Try.func3 (by kernel_rfl) rfl (Tri.mono (afloat_law N0 x0 H0 b0) ?_) (fun p hp => by cases hp) ⟨rfl, fun k hk => match k, hk with | 0, _ => r0⟩).mono fun e W' he => ?_
 ·rintro r H' ⟨rfl, _⟩; rfl
 ·obtain ⟨rfl, hh, ho, hp⟩ := he
  exact ⟨_, rfl, law_post (d := 6) rfl (tb := 4) (by kernel_rfl) u4 (by decide +kernel) hW' rfl hh ho hp⟩

theorem topAfloat_holds : Rows.TopAfloatSaid :=
 OpenClaim.holds_of_wide (p := Try.pinned) (s := Rows.topAfloatSpec) (c := Rows.topAfloatRow) 3 Try.f3 rfl rfl rfl rfl rfl rfl rfl ⟨rfl, rfl, rfl, rfl, rfl⟩ rfl rfl rfl rfl rfl (by kernel_rfl) Try.func3 (by kernel_rfl)
  (of_decide_eq_true (by kernel_rfl)) (by unfold Func.isWrapper; first | (rw [if_pos (by decide +kernel)]; kernel_rfl) | (rw [if_neg (by decide +kernel)]; exact ⟨rfl, rfl⟩))
  (fun os started H enc _ => topAfloat_lifted os started H enc)

end Go.Proofs.Ytclkjifgipcamaa
end
