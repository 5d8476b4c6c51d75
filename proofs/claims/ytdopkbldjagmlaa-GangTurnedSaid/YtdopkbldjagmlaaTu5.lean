/- Helper lemmas of this claim, part 5. -/
import Derived.Test.YtdopkbldjagmlaaTu4
section
set_option linter.unusedVariables false
set_option linter.unusedSimpArgs false
set_option maxHeartbeats 4000000
set_option maxRecDepth 100000
namespace Go.Proofs.Ytdopkbldjagmlaa
open Go.V
/-- The table so far. -/
def tF (g : Gg) (c i : Nat) (v : Int) : Nat → List AV := fun q => [i64 (if q < i then tabV g c q else if q = i then v else 0)]
theorem tF_at (g : Gg) (c i : Nat) (v : Int) {q : Nat} (h : q < i) : tF g c i v q = [i64 (tabV g c q)] := by
 unfold tF
 rw [if_pos h]
theorem tF_now (g : Gg) (c i : Nat) (v : Int) : tF g c i v i = [i64 v] := by
 unfold tF
 rw [if_neg (Nat.lt_irrefl i), if_pos rfl]
theorem tF_upd (g : Gg) (c i : Nat) (v w : Int) : updF 32 i (tF g c i v) (i64 w :: List.drop 1 (tF g c i v i)) = tF g c i w := by
 funext q
 show (if q = i then i64 w :: List.drop 1 (tF g c i v i) else tF g c i v q) = _
 rw [tF_now]
 unfold tF
 by_cases e : q = i
 ·subst e
  rw [if_pos rfl, if_neg (Nat.lt_irrefl q), if_pos rfl]
  rfl
 ·rw [if_neg e, if_neg e, if_neg e]
theorem tF_upd2 (g : Gg) (c i : Nat) (v w : Int) : updF 32 i (tF g c i v) [i64 w] = tF g c i w := by
 have := tF_upd g c i v w
 rw [tF_now] at this
 exact this
theorem tF_ok (g : Gg) (c i : Nat) (v : Int) (q : Nat) : okCells (tF g c i v q) := by
 unfold tF
 exact ⟨rfl, trivial⟩
theorem tF_next (g : Gg) (c i : Nat) : tF g c i (tabV g c i) = tF g c (i + 1) 0 := by
 funext q
 unfold tF
 by_cases e : q = i
 ·subst e
  rw [if_neg (Nat.lt_irrefl q), if_pos rfl, if_pos (Nat.lt_succ_self q)]
 ·by_cases e2 : q < i
  ·rw [if_pos e2, if_pos (by omega)]
  ·rw [if_neg e2, if_neg e, if_neg (by omega)]
   split <;> rfl
theorem tF_zero (g : Gg) (c : Nat) : tF g c 0 0 = fun _ => [i64 0] := by
 funext q
 unfold tF
 rw [if_neg (Nat.not_lt_zero q)]
 split <;> rfl
def tabF (g : Gg) (c : Nat) : Nat → List AV := tF g c (2 ^ g.N) 0
abbrev tabA (g : Gg) (c : Nat) : AV := .arr 32 1 (tabF g c)
theorem table_tri (g : Gg) (c : Nat) (H : Hp) (k : OkG g) (hc : c < g.cw.length) : PTri Try.prog (fnA 70) [gP g, i64 c] H (tabA g c) := by
 have nS := k.nS
 have hN : g.N ≤ 5 := nS
 have hNe : g.N = g.sm.length := rfl
 have hpw : 2 ^ g.N ≤ 2 ^ 5 := Nat.pow_le_pow_right (by omega) hN
 have hp0 : 0 < 2 ^ g.N := Nat.two_pow_pos _
 refine Tri.drop ?_
 refine tri_v0 (fun _ => false) Try.func70 (by kernel_rfl) rfl (by simp only [List.length_append, List.length_cons, List.length_nil, Try.ntmps70]; decide) ?_
 simp only [vsAll, okAll, stAll, opsA, opA, allocA, dstOk, argFr, Nat.reduceLT, Nat.reduceEqDiff, ↓reduceIte, reduceCtorEq, eq_self, wtAll, Try.ntmps70]
 intro i4 hh_i4; (try simp only [Hp.set_none, ite_none] at hh_i4)
 refine callK_pure (knows_tri g c _ k hc) ?_
 simp only [vsAll, loadA, loadRow, partA, partOk, fieldAddrA, lenA, nilCheckA, okAll, stAll, opsA, opA, dstOk, nilSliceOp, argFr, Nat.reduceLT, ↓reduceIte, reduceCtorEq, eq_self, wtAll]
 refine callK_pure (every_tri g.sm.length _ nS) ?_
 have e21 : ((2 ^ g.sm.length - 1 : Nat) : Int) + 1 = ((2 ^ g.N : Nat) : Int) := by rw [hNe] at *; ((try clear hh_i4); omega)
 simp only [vsAll, binA, binLitA, intA, opA, dstOk, Nat.reduceLT, ↓reduceIte, eq_self, e21]
 refine ⟨by simp only [InR_u64]; ((try clear hh_i4); omega), ?_⟩
 refine vs_loop (σ := Nat) (fun i => i ≤ 2 ^ g.N) (fun i => [(0, gP g), (1, i64 c), (4, .ref i4 0 1 0 0), (5, knG g c), (6, .func (.func 82) [] []), (21, u64 ((2 ^ g.N : Nat) : Int)), (22, u64 (i : Nat))]) (fun i => H.set i4 (.box 1 32 (tF g c i 0))) (fun i => 2 ^ g.N - i) 0 (Nat.zero_le _) ?_ ?_ fun i hi => ?_
 ·simp only [vsAll, argFr, Nat.reduceEqDiff, ↓reduceIte, reduceCtorEq, eq_self, Int.natCast_zero]
 ·rw [tF_zero]
  (repeat (first | exact HSub_rfl | refine HSub_put_eq (by simp only [vsAll, ↓reduceIte, eq_self, reduceCtorEq, Nat.reduceEqDiff, hh_i4]) ?_ | refine HSub_drop2 (by simp only [vsAll, ↓reduceIte, eq_self, reduceCtorEq, Nat.reduceEqDiff, hh_i4]) ?_ | refine HSub_keep_eq (by simp only [vsAll, ↓reduceIte, eq_self, reduceCtorEq, Nat.reduceEqDiff, hh_i4]) ?_))
 ·simp only [vsAll, binA, binLitA, intA, opA, dstOk, Nat.reduceLT, Nat.reduceEqDiff, ↓reduceIte, reduceCtorEq, eq_self]
  refine condD (fun hd => ?_) (fun hd => ?_)
  ·have his : i < 2 ^ g.N := by ((try clear hh_i4); omega)
   have hi5 : i < 32 := lt32 hN his
   simp only [vsAll, binA, binLitA, intA, indexAddrA, cellA, cellsA, opA, newCells, okCells, storeObj, dstOk, nilSliceOp, Nat.reduceLT, Nat.reduceEqDiff, ↓reduceIte, reduceCtorEq, eq_self, wtAll]
   refine ⟨⟨by ((try clear hh_i4); omega), by ((try clear hh_i4); omega)⟩, by ((try clear hh_i4); omega), ?_⟩
   rw [Hp.set_set]
   rw [tF_upd g c i 0 10000]
   have hts := tb_start g c i
   refine condV (fun hc0 => ?_) (fun hc0 => ?_)
   ·have e0 : i = 0 := by rw [decide_eq_true_eq] at hc0; ((try clear hh_i4); omega)
    rw [if_pos e0] at hts
    simp only [vsAll, loadA, loadRow, partA, partOk, fieldAddrA, indexAddrA, lenA, nilCheckA, cellA, cellsA, opA, newCells, okCells, storeObj, dstOk, Nat.reduceLT, Nat.reduceEqDiff, ↓reduceIte, reduceCtorEq, eq_self, wtAll]
    refine ⟨⟨by ((try clear hh_i4); omega), by ((try clear hh_i4); omega)⟩, by ((try clear hh_i4); omega), ?_⟩
    have eh : tF g c i 0 = tF g c i (tbN g c i 0) := by rw [hts]
    rw [Hp.set_set, tF_upd g c i 10000 0, eh]
    refine vs_loop (σ := Nat) (fun j => j ≤ g.N) (fun j => [(0, gP g), (1, i64 c), (4, .ref i4 0 1 0 0), (5, knG g c), (6, .func (.func 82) [] []), (7, u64 (i : Nat)), (21, u64 ((2 ^ g.N : Nat) : Int)), (22, u64 (i : Nat)), (36, i64 g.N), (37, i64 j)]) (fun j => H.set i4 (.box 1 32 (tF g c i (tbN g c i j)))) (fun j => g.N - j) 0 (Nat.zero_le _) ?_ HSub_rfl fun j hj => ?_
    ·simp only [vsAll, Nat.reduceEqDiff, ↓reduceIte, reduceCtorEq, eq_self, hNe, Int.natCast_zero]
    ·simp only [vsAll, binA, binLitA, intA, opA, dstOk, Nat.reduceLT, Nat.reduceEqDiff, ↓reduceIte, reduceCtorEq, eq_self]
     refine condD (fun hd2 => ?_) (fun hd2 => ?_)
     ·have hjs : j < g.N := by ((try clear hh_i4); omega)
      have hts2 := tb_step k (i := j) hc his hjs
      simp only [vsAll, okAll, stAll, opsA, opA, dstOk, nilSliceOp, Nat.reduceLT, Nat.reduceEqDiff, ↓reduceIte, reduceCtorEq, eq_self]
      refine callK_pure (has_tri i j _ (by ((try clear hh_i4); omega)) (by ((try clear hh_i4); omega))) ?_
      simp only [vsAll, unA, opA, guardV, dstOk, Nat.reduceLT, Nat.reduceEqDiff, ↓reduceIte, reduceCtorEq, implies_true, eq_self]
      refine gcall (boo (knB g c j)) (fun q => ⟨by simp only [vsAll, opA, Nat.reduceEqDiff, ↓reduceIte, eq_self, q], by simp only [vsAll, okAll, opsA, opA, ↓reduceIte, eq_self, q], knows1_tri g c j _ k hc hjs⟩) ?_
      simp only [vsAll, unA, pickA, opA, guardV, dstOk, Nat.reduceLT, Nat.reduceEqDiff, ↓reduceIte, implies_true, eq_self]
      refine condV (fun hc1 => ?_) (fun hc1 => ?_)
      ·have en : ¬ ((i.testBit j = true ∧ knB g c j = true) ∧ tabV g c (dif i (2 ^ j)) < 10000 ∧ stT g (g.crew c).lo (tabV g c (dif i (2 ^ j))) j ≤ (g.seam j).fl) := by
        rintro ⟨⟨q1, q2⟩, _⟩
        rw [q1, q2] at hc1
        simp at hc1
       rw [if_neg en] at hts2
       rw [← hts2]
       simp only [vsAll, binA, binLitA, intA, opA, dstOk, Nat.reduceLT, Nat.reduceEqDiff, ↓reduceIte, reduceCtorEq, eq_self]
       refine ⟨by simp only [InR_i64]; ((try clear hh_i4); omega), loop_next (j + 1) (by ((try clear hh_i4); omega)) (by ((try clear hh_i4); omega)) ?_ HSub_rfl⟩
       simp only [vsAll, Nat.reduceEqDiff, ↓reduceIte, reduceCtorEq, eq_self, Int.natCast_add, Int.natCast_one]
      ·have hb1 : i.testBit j = true := by
        revert hc1
        cases i.testBit j <;> simp
       have hb2 : knB g c j = true := by
        revert hc1
        cases i.testBit j <;> cases knB g c j <;> simp
       have hbg : 0 ≤ begV g j := by
        have := hb2
        unfold knB at this
        rw [Bool.and_eq_true, decide_eq_true_eq] at this
        exact this.2
       have hdi := dif_pop i hi5 j (by ((try clear hh_i4); omega)) hb1
       have hdl : dif i (2 ^ j) < 2 ^ g.N := dif_lt his
       have htl := tab_le k hc hdl
       have ep : (1 : Int) * 2 ^ j = ((2 ^ j : Nat) : Int) := by rw [Int.one_mul]; simp
       have hpj : 2 ^ j ≤ 2 ^ 5 := Nat.pow_le_pow_right (by ((try clear hh_i4); omega)) (by ((try clear hh_i4); omega))
       have eS : g.sm.getD j sm0 = g.seam j := rfl
       have hnx := next_tri g (dif i (2 ^ j)) (tabV g c (dif i (2 ^ j))) c j false
       rw [show spd (g.crew c) false = (g.crew c).lo from rfl] at hnx
       have eta := tF_at g c i (tbN g c i j) hdi.2
       have hnow := tF_now g c i (tbN g c i j)
       simp only [vsAll]
       refine vs_draw2 [0, 0, 0, 0, 0, 0, 0, 0, 0, 0, 0, 1, 3] [([0, 1, 2, 3, 4, 5, 6, 7, 8, 9, 10], [3, 7, 9], 11), ([], [], 12)] [] (by decide +kernel) ?_
       simp only [vsAll, binA, binLitA, intA, opA, dstOk, Nat.reduceLT, Nat.reduceEqDiff, ↓reduceIte, reduceCtorEq, eq_self, ep]
       generalize 2 ^ j = Q at hdi hdl htl hpj hnx eta hts2 ep ⊢
       refine ⟨⟨by ((try clear hh_i4); omega), by ((try clear hh_i4); omega), by simp only [InR_u64]; ((try clear hh_i4); omega)⟩, ?_⟩
       refine qcall _ ⟨trivial, by simp only [vsAll, okAll, opsA, opA, Nat.reduceEqDiff, ↓reduceIte, eq_self], without_tri i Q _ (by ((try clear hh_i4); omega)) (by ((try clear hh_i4); omega))⟩ ?_
       simp only [vsAll, binA, binLitA, intA, opA, dstOk, Nat.reduceLT, Nat.reduceEqDiff, ↓reduceIte, reduceCtorEq, eq_self, ep]
       refine ⟨⟨by ((try clear hh_i4); omega), by ((try clear hh_i4); omega), by simp only [InR_u64]; ((try clear hh_i4); omega)⟩, ?_⟩
       refine qcall _ ⟨trivial, by simp only [vsAll, okAll, opsA, opA, Nat.reduceEqDiff, ↓reduceIte, eq_self], without_tri i Q _ (by ((try clear hh_i4); omega)) (by ((try clear hh_i4); omega))⟩ ?_
       simp only [vsAll, loadA, loadRow, partA, partOk, indexAddrA, cellA, cellsA, fillA, okParts, ifaceA, okAll, stAll, opsA, partsA, partsOk, opA, allocA, newCells, okCells, storeObj, dstOk, Nat.reduceAdd, Nat.reduceLT, Nat.reduceLeDiff, Nat.reduceEqDiff, ↓reduceIte, reduceCtorEq, eq_self, wtAll, eta]
       refine ⟨⟨by ((try clear hh_i4); omega), by ((try clear hh_i4); omega)⟩, by ((try clear hh_i4); omega), ?_⟩
       intro i9 hh_i9; (try simp only [ite_none] at hh_i9)
       simp only [vsAll, Nat.reduceLT, ↓reduceIte, eq_self, hh_i9, eta]
       refine ⟨⟨rcall _ ⟨trivial, by simp only [vsAll, okAll, opsA, opA, Nat.reduceEqDiff, ↓reduceIte, eq_self], without_tri i Q _ (by ((try clear hh_i4); (try clear hh_i9); omega)) (by ((try clear hh_i4); (try clear hh_i9); omega))⟩ (by simp only [vsAll, Nat.reduceEqDiff, ↓reduceIte, eq_self]), rcall _ ⟨trivial, by simp only [vsAll, okAll, opsA, opA, Nat.reduceEqDiff, ↓reduceIte, eq_self], without_tri i Q _ (by ((try clear hh_i4); (try clear hh_i9); omega)) (by ((try clear hh_i4); (try clear hh_i9); omega))⟩ (by simp only [vsAll, Nat.reduceEqDiff, ↓reduceIte, eq_self]), by ((try clear hh_i4); (try clear hh_i9); omega)⟩, ?_⟩
       refine callK_pure (hnx _ k (by ((try clear hh_i4); (try clear hh_i9); omega)) (by ((try clear hh_i4); (try clear hh_i9); omega)) hc hjs hbg) ?_
       simp only [vsAll, cellA, opA, allocA, newCells, okCells, storeObj, dstOk, Nat.reduceAdd, Nat.reduceLT, Nat.reduceEqDiff, ↓reduceIte, eq_self, wtAll]
       intro i10 hh_i10; (try simp only [ite_none] at hh_i10)
       refine vs_draw2 [0, 0, 0, 0, 0, 0, 0, 0, 0, 0, 0, 0, 0, 0, 0, 0, 0] [] [0, 1, 2, 3, 4, 5, 6, 7, 8, 9, 10, 11, 12, 13, 14, 15, 16] (by decide +kernel) ?_
       simp only [vsAll, binA, binLitA, intA, loadA, loadRow, partA, partOk, fieldAddrA, indexAddrA, nilCheckA, pickA, opA, guardV, dstOk, Nat.reduceLT, Nat.reduceEqDiff, ↓reduceIte, reduceCtorEq, implies_true, eq_self, wtAll, hh_i10, smF_at, eS]
       refine ⟨fun q => ⟨q, q, by ((try clear hh_i4); (try clear hh_i9); (try clear hh_i10); omega), by ((try clear hh_i4); (try clear hh_i9); (try clear hh_i10); omega)⟩, fun q => ⟨q, by ((try clear hh_i4); (try clear hh_i9); (try clear hh_i10); omega)⟩, ?_⟩
       rw [Hp.set_set, Hp.set_set]
       refine condV (fun hc2 => ?_) (fun hc2 => ?_)
       ·rw [Bool.and_eq_true, decide_eq_true_eq, decide_eq_true_eq] at hc2
        rw [if_pos ⟨⟨hb1, hb2⟩, hc2⟩] at hts2
        refine vs_draw2 [0, 0, 0, 0, 0, 0, 0, 0, 1] [([0, 1, 2, 3, 4, 5, 6, 7], [], 8)] [] (by decide +kernel) ?_
        simp only [vsAll, binA, binLitA, intA, loadA, loadRow, partA, partOk, fieldAddrA, indexAddrA, cellA, cellsA, mmA, okAll, stAll, opsA, opA, newCells, okCells, storeObj, dstOk, Nat.reduceLT, Nat.reduceEqDiff, ↓reduceIte, reduceCtorEq, eq_self, wtAll, hh_i9, hh_i10, hnow]
        rw [tF_upd2, ← hts2]
        refine ⟨⟨by ((try clear hh_i4); (try clear hh_i9); (try clear hh_i10); omega), by ((try clear hh_i4); (try clear hh_i9); (try clear hh_i10); omega)⟩, by ((try clear hh_i4); (try clear hh_i9); (try clear hh_i10); omega), ⟨by ((try clear hh_i4); (try clear hh_i9); (try clear hh_i10); omega), by ((try clear hh_i4); (try clear hh_i9); (try clear hh_i10); omega)⟩, by ((try clear hh_i4); (try clear hh_i9); (try clear hh_i10); omega), by simp only [InR_i64]; ((try clear hh_i4); (try clear hh_i9); (try clear hh_i10); omega), loop_next (j + 1) (by ((try clear hh_i4); (try clear hh_i9); (try clear hh_i10); omega)) (by ((try clear hh_i4); (try clear hh_i9); (try clear hh_i10); omega)) ?_ (by (repeat (first | exact HSub_rfl | refine HSub_put_eq (by simp only [vsAll, ↓reduceIte, eq_self]) ?_ | refine HSub_drop2 (by simp only [eq_self, hh_i4, hh_i9, hh_i10]) ?_ | refine HSub_keep_eq (by simp only [vsAll, ↓reduceIte, eq_self, reduceCtorEq, Nat.reduceEqDiff, hh_i4, hh_i9, hh_i10]) ?_)))⟩
        simp only [vsAll, Nat.reduceEqDiff, ↓reduceIte, reduceCtorEq, eq_self, Int.natCast_add, Int.natCast_one]
       ·rw [if_neg (by
         rintro ⟨_, q1, q2⟩
         rw [decide_eq_true q1, decide_eq_true q2] at hc2
         cases hc2)] at hts2
        rw [← hts2]
        simp only [vsAll, binA, binLitA, intA, opA, dstOk, Nat.reduceLT, Nat.reduceEqDiff, ↓reduceIte, reduceCtorEq, eq_self]
        refine ⟨by simp only [InR_i64]; ((try clear hh_i4); (try clear hh_i9); (try clear hh_i10); omega), loop_next (j + 1) (by ((try clear hh_i4); (try clear hh_i9); (try clear hh_i10); omega)) (by ((try clear hh_i4); (try clear hh_i9); (try clear hh_i10); omega)) ?_ (by (repeat (first | exact HSub_rfl | refine HSub_put_eq (by simp only [vsAll, ↓reduceIte, eq_self, hh_i9, hh_i10]) ?_ | refine HSub_drop2 (by simp only [eq_self, hh_i4, hh_i9, hh_i10]) ?_ | refine HSub_keep_eq (by simp only [vsAll, ↓reduceIte, eq_self, reduceCtorEq, Nat.reduceEqDiff, hh_i4, hh_i9, hh_i10]) ?_)))⟩
        simp only [vsAll, Nat.reduceEqDiff, ↓reduceIte, reduceCtorEq, eq_self, Int.natCast_add, Int.natCast_one]
     ·have ej : j = g.N := by ((try clear hh_i4); omega)
      subst ej
      rw [tb_end hN his, tF_next]
      simp only [vsAll, binA, binLitA, intA, opA, dstOk, Nat.reduceLT, Nat.reduceEqDiff, ↓reduceIte, reduceCtorEq, eq_self]
      refine ⟨by simp only [InR_u64]; ((try clear hh_i4); omega), loop_next (i + 1) (by ((try clear hh_i4); omega)) (by ((try clear hh_i4); omega)) ?_ HSub_rfl⟩
      simp only [vsAll, Nat.reduceEqDiff, ↓reduceIte, reduceCtorEq, eq_self, Int.natCast_add, Int.natCast_one]
   ·have e0 : ¬ i = 0 := by rw [decide_eq_false_iff_not] at hc0; ((try clear hh_i4); omega)
    rw [if_neg e0] at hts
    have eh : tF g c i 10000 = tF g c i (tbN g c i 0) := by rw [hts]
    rw [eh]
    simp only [vsAll, loadA, loadRow, partA, partOk, fieldAddrA, lenA, nilCheckA, opA, dstOk, Nat.reduceLT, ↓reduceIte, reduceCtorEq, eq_self, wtAll]
    refine vs_loop (σ := Nat) (fun j => j ≤ g.N) (fun j => [(0, gP g), (1, i64 c), (4, .ref i4 0 1 0 0), (5, knG g c), (6, .func (.func 82) [] []), (7, u64 (i : Nat)), (21, u64 ((2 ^ g.N : Nat) : Int)), (22, u64 (i : Nat)), (36, i64 g.N), (37, i64 j)]) (fun j => H.set i4 (.box 1 32 (tF g c i (tbN g c i j)))) (fun j => g.N - j) 0 (Nat.zero_le _) ?_ HSub_rfl fun j hj => ?_
    ·simp only [vsAll, Nat.reduceEqDiff, ↓reduceIte, reduceCtorEq, eq_self, hNe, Int.natCast_zero]
    ·simp only [vsAll, binA, binLitA, intA, opA, dstOk, Nat.reduceLT, Nat.reduceEqDiff, ↓reduceIte, reduceCtorEq, eq_self]
     refine condD (fun hd2 => ?_) (fun hd2 => ?_)
     ·have hjs : j < g.N := by ((try clear hh_i4); omega)
      have hts2 := tb_step k (i := j) hc his hjs
      simp only [vsAll, okAll, stAll, opsA, opA, dstOk, nilSliceOp, Nat.reduceLT, Nat.reduceEqDiff, ↓reduceIte, reduceCtorEq, eq_self]
      refine callK_pure (has_tri i j _ (by ((try clear hh_i4); omega)) (by ((try clear hh_i4); omega))) ?_
      simp only [vsAll, unA, opA, guardV, dstOk, Nat.reduceLT, Nat.reduceEqDiff, ↓reduceIte, reduceCtorEq, implies_true, eq_self]
      refine gcall (boo (knB g c j)) (fun q => ⟨by simp only [vsAll, opA, Nat.reduceEqDiff, ↓reduceIte, eq_self, q], by simp only [vsAll, okAll, opsA, opA, ↓reduceIte, eq_self, q], knows1_tri g c j _ k hc hjs⟩) ?_
      simp only [vsAll, unA, pickA, opA, guardV, dstOk, Nat.reduceLT, Nat.reduceEqDiff, ↓reduceIte, implies_true, eq_self]
      refine condV (fun hc1 => ?_) (fun hc1 => ?_)
      ·have en : ¬ ((i.testBit j = true ∧ knB g c j = true) ∧ tabV g c (dif i (2 ^ j)) < 10000 ∧ stT g (g.crew c).lo (tabV g c (dif i (2 ^ j))) j ≤ (g.seam j).fl) := by
        rintro ⟨⟨q1, q2⟩, _⟩
        rw [q1, q2] at hc1
        simp at hc1
       rw [if_neg en] at hts2
       rw [← hts2]
       simp only [vsAll, binA, binLitA, intA, opA, dstOk, Nat.reduceLT, Nat.reduceEqDiff, ↓reduceIte, reduceCtorEq, eq_self]
       refine ⟨by simp only [InR_i64]; ((try clear hh_i4); omega), loop_next (j + 1) (by ((try clear hh_i4); omega)) (by ((try clear hh_i4); omega)) ?_ HSub_rfl⟩
       simp only [vsAll, Nat.reduceEqDiff, ↓reduceIte, reduceCtorEq, eq_self, Int.natCast_add, Int.natCast_one]
      ·have hb1 : i.testBit j = true := by
        revert hc1
        cases i.testBit j <;> simp
       have hb2 : knB g c j = true := by
        revert hc1
        cases i.testBit j <;> cases knB g c j <;> simp
       have hbg : 0 ≤ begV g j := by
        have := hb2
        unfold knB at this
        rw [Bool.and_eq_true, decide_eq_true_eq] at this
        exact this.2
       have hdi := dif_pop i hi5 j (by ((try clear hh_i4); omega)) hb1
       have hdl : dif i (2 ^ j) < 2 ^ g.N := dif_lt his
       have htl := tab_le k hc hdl
       have ep : (1 : Int) * 2 ^ j = ((2 ^ j : Nat) : Int) := by rw [Int.one_mul]; simp
       have hpj : 2 ^ j ≤ 2 ^ 5 := Nat.pow_le_pow_right (by ((try clear hh_i4); omega)) (by ((try clear hh_i4); omega))
       have eS : g.sm.getD j sm0 = g.seam j := rfl
       have hnx := next_tri g (dif i (2 ^ j)) (tabV g c (dif i (2 ^ j))) c j false
       rw [show spd (g.crew c) false = (g.crew c).lo from rfl] at hnx
       have eta := tF_at g c i (tbN g c i j) hdi.2
       have hnow := tF_now g c i (tbN g c i j)
       simp only [vsAll]
       refine vs_draw2 [0, 0, 0, 0, 0, 0, 0, 0, 0, 0, 0, 1, 3] [([0, 1, 2, 3, 4, 5, 6, 7, 8, 9, 10], [3, 7, 9], 11), ([], [], 12)] [] (by decide +kernel) ?_
       simp only [vsAll, binA, binLitA, intA, opA, dstOk, Nat.reduceLT, Nat.reduceEqDiff, ↓reduceIte, reduceCtorEq, eq_self, ep]
       generalize 2 ^ j = Q at hdi hdl htl hpj hnx eta hts2 ep ⊢
       refine ⟨⟨by ((try clear hh_i4); omega), by ((try clear hh_i4); omega), by simp only [InR_u64]; ((try clear hh_i4); omega)⟩, ?_⟩
       refine qcall _ ⟨trivial, by simp only [vsAll, okAll, opsA, opA, Nat.reduceEqDiff, ↓reduceIte, eq_self], without_tri i Q _ (by ((try clear hh_i4); omega)) (by ((try clear hh_i4); omega))⟩ ?_
       simp only [vsAll, binA, binLitA, intA, opA, dstOk, Nat.reduceLT, Nat.reduceEqDiff, ↓reduceIte, reduceCtorEq, eq_self, ep]
       refine ⟨⟨by ((try clear hh_i4); omega), by ((try clear hh_i4); omega), by simp only [InR_u64]; ((try clear hh_i4); omega)⟩, ?_⟩
       refine qcall _ ⟨trivial, by simp only [vsAll, okAll, opsA, opA, Nat.reduceEqDiff, ↓reduceIte, eq_self], without_tri i Q _ (by ((try clear hh_i4); omega)) (by ((try clear hh_i4); omega))⟩ ?_
       simp only [vsAll, loadA, loadRow, partA, partOk, indexAddrA, cellA, cellsA, fillA, okParts, ifaceA, okAll, stAll, opsA, partsA, partsOk, opA, allocA, newCells, okCells, storeObj, dstOk, Nat.reduceAdd, Nat.reduceLT, Nat.reduceLeDiff, Nat.reduceEqDiff, ↓reduceIte, reduceCtorEq, eq_self, wtAll, eta]
       refine ⟨⟨by ((try clear hh_i4); omega), by ((try clear hh_i4); omega)⟩, by ((try clear hh_i4); omega), ?_⟩
       intro i9 hh_i9; (try simp only [ite_none] at hh_i9)
       simp only [vsAll, Nat.reduceLT, ↓reduceIte, eq_self, hh_i9, eta]
       refine ⟨⟨rcall _ ⟨trivial, by simp only [vsAll, okAll, opsA, opA, Nat.reduceEqDiff, ↓reduceIte, eq_self], without_tri i Q _ (by ((try clear hh_i4); (try clear hh_i9); omega)) (by ((try clear hh_i4); (try clear hh_i9); omega))⟩ (by simp only [vsAll, Nat.reduceEqDiff, ↓reduceIte, eq_self]), rcall _ ⟨trivial, by simp only [vsAll, okAll, opsA, opA, Nat.reduceEqDiff, ↓reduceIte, eq_self], without_tri i Q _ (by ((try clear hh_i4); (try clear hh_i9); omega)) (by ((try clear hh_i4); (try clear hh_i9); omega))⟩ (by simp only [vsAll, Nat.reduceEqDiff, ↓reduceIte, eq_self]), by ((try clear hh_i4); (try clear hh_i9); omega)⟩, ?_⟩
       refine callK_pure (hnx _ k (by ((try clear hh_i4); (try clear hh_i9); omega)) (by ((try clear hh_i4); (try clear hh_i9); omega)) hc hjs hbg) ?_
       simp only [vsAll, cellA, opA, allocA, newCells, okCells, storeObj, dstOk, Nat.reduceAdd, Nat.reduceLT, Nat.reduceEqDiff, ↓reduceIte, eq_self, wtAll]
       intro i10 hh_i10; (try simp only [ite_none] at hh_i10)
       refine vs_draw2 [0, 0, 0, 0, 0, 0, 0, 0, 0, 0, 0, 0, 0, 0, 0, 0, 0] [] [0, 1, 2, 3, 4, 5, 6, 7, 8, 9, 10, 11, 12, 13, 14, 15, 16] (by decide +kernel) ?_
       simp only [vsAll, binA, binLitA, intA, loadA, loadRow, partA, partOk, fieldAddrA, indexAddrA, nilCheckA, pickA, opA, guardV, dstOk, Nat.reduceLT, Nat.reduceEqDiff, ↓reduceIte, reduceCtorEq, implies_true, eq_self, wtAll, hh_i10, smF_at, eS]
       refine ⟨fun q => ⟨q, q, by ((try clear hh_i4); (try clear hh_i9); (try clear hh_i10); omega), by ((try clear hh_i4); (try clear hh_i9); (try clear hh_i10); omega)⟩, fun q => ⟨q, by ((try clear hh_i4); (try clear hh_i9); (try clear hh_i10); omega)⟩, ?_⟩
       rw [Hp.set_set, Hp.set_set]
       refine condV (fun hc2 => ?_) (fun hc2 => ?_)
       ·rw [Bool.and_eq_true, decide_eq_true_eq, decide_eq_true_eq] at hc2
        rw [if_pos ⟨⟨hb1, hb2⟩, hc2⟩] at hts2
        refine vs_draw2 [0, 0, 0, 0, 0, 0, 0, 0, 1] [([0, 1, 2, 3, 4, 5, 6, 7], [], 8)] [] (by decide +kernel) ?_
        simp only [vsAll, binA, binLitA, intA, loadA, loadRow, partA, partOk, fieldAddrA, indexAddrA, cellA, cellsA, mmA, okAll, stAll, opsA, opA, newCells, okCells, storeObj, dstOk, Nat.reduceLT, Nat.reduceEqDiff, ↓reduceIte, reduceCtorEq, eq_self, wtAll, hh_i9, hh_i10, hnow]
        rw [tF_upd2, ← hts2]
        refine ⟨⟨by ((try clear hh_i4); (try clear hh_i9); (try clear hh_i10); omega), by ((try clear hh_i4); (try clear hh_i9); (try clear hh_i10); omega)⟩, by ((try clear hh_i4); (try clear hh_i9); (try clear hh_i10); omega), ⟨by ((try clear hh_i4); (try clear hh_i9); (try clear hh_i10); omega), by ((try clear hh_i4); (try clear hh_i9); (try clear hh_i10); omega)⟩, by ((try clear hh_i4); (try clear hh_i9); (try clear hh_i10); omega), by simp only [InR_i64]; ((try clear hh_i4); (try clear hh_i9); (try clear hh_i10); omega), loop_next (j + 1) (by ((try clear hh_i4); (try clear hh_i9); (try clear hh_i10); omega)) (by ((try clear hh_i4); (try clear hh_i9); (try clear hh_i10); omega)) ?_ (by (repeat (first | exact HSub_rfl | refine HSub_put_eq (by simp only [vsAll, ↓reduceIte, eq_self]) ?_ | refine HSub_drop2 (by simp only [eq_self, hh_i4, hh_i9, hh_i10]) ?_ | refine HSub_keep_eq (by simp only [vsAll, ↓reduceIte, eq_self, reduceCtorEq, Nat.reduceEqDiff, hh_i4, hh_i9, hh_i10]) ?_)))⟩
        simp only [vsAll, Nat.reduceEqDiff, ↓reduceIte, reduceCtorEq, eq_self, Int.natCast_add, Int.natCast_one]
       ·rw [if_neg (by
         rintro ⟨_, q1, q2⟩
         rw [decide_eq_true q1, decide_eq_true q2] at hc2
         cases hc2)] at hts2
        rw [← hts2]
        simp only [vsAll, binA, binLitA, intA, opA, dstOk, Nat.reduceLT, Nat.reduceEqDiff, ↓reduceIte, reduceCtorEq, eq_self]
        refine ⟨by simp only [InR_i64]; ((try clear hh_i4); (try clear hh_i9); (try clear hh_i10); omega), loop_next (j + 1) (by ((try clear hh_i4); (try clear hh_i9); (try clear hh_i10); omega)) (by ((try clear hh_i4); (try clear hh_i9); (try clear hh_i10); omega)) ?_ (by (repeat (first | exact HSub_rfl | refine HSub_put_eq (by simp only [vsAll, ↓reduceIte, eq_self, hh_i9, hh_i10]) ?_ | refine HSub_drop2 (by simp only [eq_self, hh_i4, hh_i9, hh_i10]) ?_ | refine HSub_keep_eq (by simp only [vsAll, ↓reduceIte, eq_self, reduceCtorEq, Nat.reduceEqDiff, hh_i4, hh_i9, hh_i10]) ?_)))⟩
        simp only [vsAll, Nat.reduceEqDiff, ↓reduceIte, reduceCtorEq, eq_self, Int.natCast_add, Int.natCast_one]
     ·have ej : j = g.N := by ((try clear hh_i4); omega)
      subst ej
      rw [tb_end hN his, tF_next]
      simp only [vsAll, binA, binLitA, intA, opA, dstOk, Nat.reduceLT, Nat.reduceEqDiff, ↓reduceIte, reduceCtorEq, eq_self]
      refine ⟨by simp only [InR_u64]; ((try clear hh_i4); omega), loop_next (i + 1) (by ((try clear hh_i4); omega)) (by ((try clear hh_i4); omega)) ?_ HSub_rfl⟩
      simp only [vsAll, Nat.reduceEqDiff, ↓reduceIte, reduceCtorEq, eq_self, Int.natCast_add, Int.natCast_one]
  ·have ei : i = 2 ^ g.N := by ((try clear hh_i4); omega)
   subst ei
   simp only [vsAll, loadA, loadRow, opA, storeObj, dstOk, resA, retA.eq_1, Nat.reduceMul, Nat.reduceLT, Nat.reduceEqDiff, ↓reduceIte, reduceCtorEq, eq_self, wtAll, Try.results70]
   exact ⟨fun q _ => tF_ok g c _ _ q, dropR_pure rfl (by (repeat (first | exact HSub_rfl | refine HSub_put_eq (by simp only [vsAll, ↓reduceIte, eq_self, reduceCtorEq, Nat.reduceEqDiff, hh_i4]) ?_ | refine HSub_drop2 (by simp only [eq_self, hh_i4]) ?_ | refine HSub_keep_eq (by simp only [vsAll, ↓reduceIte, eq_self, reduceCtorEq, Nat.reduceEqDiff, hh_i4]) ?_)))⟩
end Go.Proofs.Ytdopkbldjagmlaa
end
section
set_option linter.unusedVariables false
set_option linter.unusedSimpArgs false
namespace Go.Proofs.Ytdopkbldjagmlaa
open Go.V
theorem rowOf_iff {S : Nat} {l : List Int} : RowOf S l ↔ l.Nodup ∧ ∀ x ∈ l, ∃ n : Nat, x = (n : Int) ∧ S.testBit n = true := by
 constructor
 ·intro h
  refine ⟨?_, fun x hx => ?_⟩
  ·refine List.pairwise_iff_getElem.2 fun i j hi hj hij e => ?_
   have := h.nd i j hij hj
   simp only [List.getD_eq_getElem?_getD, List.getElem?_eq_getElem hi, List.getElem?_eq_getElem hj, Option.getD_some] at this
   exact this e
  ·obtain ⟨i, hi, e⟩ := mem_at.1 hx
   obtain ⟨n, e2, hn⟩ := h.at_ i hi
   exact ⟨n, by rw [← e, e2], hn⟩
 ·rintro ⟨h1, h2⟩
  refine ⟨fun i hi => ?_, fun i j hij hj e => ?_⟩
  ·exact h2 _ (mem_getD l i 0 hi)
  ·have hi : i < l.length := by omega
   refine List.pairwise_iff_getElem.1 h1 i j hi hj hij ?_
   simp only [List.getD_eq_getElem?_getD, List.getElem?_eq_getElem hi, List.getElem?_eq_getElem hj, Option.getD_some] at e
   exact e
end Go.Proofs.Ytdopkbldjagmlaa
end
section
set_option linter.unusedVariables false
set_option linter.unusedSimpArgs false
set_option maxHeartbeats 4000000
set_option maxRecDepth 100000
namespace Go.Proofs.Ytdopkbldjagmlaa
open Go.V
abbrev onR (g : Gg) (c S i5 i6 : Nat) (yf : Fn) : AV := .func (.func 99) [] [.rptr 1 1 (fun _ => [u64 (S : Nat)]) 0 0, .rptr 1 1 (fun _ => [.func yf [] []]) 0 0, ggA g, .ref i5 0 1 0 0, bx c, .ref i6 0 1 0 0]
theorem cpRow (b : List Int) (z : Int) (i : Nat) (hi : i < b.length + 1) : appF b.length 1 (cpF 0 b.length (fun x => [AV.lit (Value.int IntKind.i64 0)]) 0 (intF b)) (fun i => [[AV.lit (Value.int IntKind.i64 z)]].getD i []) i = intF (b ++ [z]) i := by
 rw [appF_at (by omega)]
 simp only [intF, getD_snoc, cpF]
 by_cases e : i = b.length
 ·rw [if_neg (by omega), if_pos e, e, Nat.sub_self]; rfl
 ·rw [if_pos (by omega), if_neg e, if_pos (by omega)]; simp
theorem on_call {fv : AV} {b : List Int} {z : Int} {x : AV} {id1 : Nat} {X : Hp} {F : Nat → List AV} {R : Res → Hp → Prop} (hF : ∀ i, i < b.length + 1 → F i = intF (b ++ [z]) i) (h1 : X id1 = some (.row 1 (b.length + 1) F))
  (h : Tri Try.prog fv [intsAV (b ++ [z]), x] (X.del id1) R) :
  Tri Try.prog fv [.sl id1 1 (b.length + 1), x] X R := by
 refine tri_freezeD (args' := [intsAV (b ++ [z]), x]) h1 rfl (fun k hk => ?_) h
 match k, hk with
 | 0, _ =>
   have hl : (b ++ [z]).length = b.length + 1 := by simp
   show FrzD _ _ _ _ (AV.sl id1 1 (b.length + 1)) (AV.rsl (b ++ [z]).length 1 (intF (b ++ [z])))
   rw [hl]; exact .hit hF
 | 1, _ => exact .same _
theorem flat_nil {α : Type} {f : Nat → List α} {n : Nat} : (List.range n).flatMap f = [] ↔ ∀ j, j < n → f j = [] := by
 rw [List.flatMap_eq_nil_iff]
 exact ⟨fun h j hj => h j (List.mem_range.2 hj), fun h j hj => h j (List.mem_range.1 hj)⟩
theorem flat_head {α : Type} {f : Nat → List α} {i : Nat} {x : α} (h : ∀ j, j < i → f j = []) (hx : (f i).head? = some x) : ∀ n, i < n → ((List.range n).flatMap f).head? = some x
 | 0, hn => absurd hn (Nat.not_lt_zero i)
 | n + 1, hn => by
   rw [List.range_succ, List.flatMap_append]
   by_cases e : i = n
   ·subst e
    rw [flat_nil.2 h]
    simpa using hx
   ·rw [List.head?_append, flat_head h hx n (by omega)]
    rfl
theorem rowB_of {g : Gg} {S : Nat} (hS : S < 2 ^ g.N) {l : List Int} (h : RowOf S l) : rowB g l = true := by
 refine rowB_iff.2 ⟨fun i hi => ?_, fun i j hij hj => h.nd i j hij hj⟩
 obtain ⟨n, e, hn⟩ := h.at_ i hi
 have := bit_lt hS hn
 omega
theorem last_le {g : Gg} (k : OkG g) {c S : Nat} (hc : c < g.cw.length) (hS : S < 2 ^ g.N) {l : List Int} (h : RowOf S l) : 0 ≤ lastT g c l ∧ lastT g c l ≤ 400 := by
 have hr := rowB_of hS h
 have h1 := donN_le k (by have h := k.crew hc; unfold okC at h; omega) hr l.length (Nat.le_refl _) (sp := (g.crew c).lo)
 have h2 := row_len k hr
 unfold lastT
 omega
def onP (g : Gg) (c S n : Nat) (b : List Int) (H : Hp) (K : Hp → Prop) : Res → Hp → Prop := fun r H' => (rws g c S n b = [] ∧ r = .ret (boo true) ∧ H' = H) ∨ (rws g c S n b ≠ [] ∧ r = .ret (boo false) ∧ K H')
theorem rwOn_tri {g : Gg} (k : OkG g) {c S i5 i6 : Nat} (hc : c < g.cw.length) (hS : S < 2 ^ g.N) {yf : Fn} {H0 : Hp} {K : Hp → Prop} :
  ∀ (n : Nat) (b : List Int) (H : Hp), b.length + n = pop S → RowOf S b → rgtB g c b = true → H i5 = some (.box 1 1 fun _ => [knG g c]) → H i6 = some (.box 1 1 fun _ => [onR g c S i5 i6 yf]) → Go.V.HSub H H0 →
    (∀ l, (rws g c S n b).head? = some l → Tri Try.prog (.func yf [] []) [intsAV l, stA S (lastT g c l)] H0 fun r H' => r = .ret (boo false) ∧ K H') →
    Tri Try.prog (onR g c S i5 i6 yf) [intsAV b, stA (setL b) (lastT g c b)] H (onP g c S n b H K) := by
 have nS := k.nS
 have nC := k.nC
 have hN : g.N ≤ 5 := nS
 have hNe : g.N = g.sm.length := rfl
 have hS5 : S < 32 := lt32 hN hS
 intro n
 induction n with
 | zero =>
   intro b H hl hb hr h5 h6 hH hy
   have hf := (rowOf_full hS5 hb).2.2 (by omega)
   have e0 : rws g c S 0 b = [b] := rfl
   rw [e0] at hy
   have hy := hy b rfl
   refine Tri.drop ?_
   have e1 : dif S S = 0 := by
    refine Nat.eq_of_testBit_eq fun j => ?_
    rw [dif_bit, Nat.zero_testBit]
    cases S.testBit j <;> rfl
   refine tri_v0 (fun _ => false) Try.func99 (by kernel_rfl) rfl (by simp only [List.length_append, List.length_cons, List.length_nil, Try.ntmps99]; decide) ?_
   rw [hf]
   simp only [vsAll, binA, binLitA, intA, loadA, loadRow, partA, partOk, fieldAddrA, boxA, boxZ, okAll, stAll, opsA, opA, dstOk, nilSliceOp, argFr, Nat.reduceAdd, Nat.reduceLT, Nat.reduceEqDiff, ↓reduceIte, reduceCtorEq, eq_self, wtAll, Try.ntmps99]
   refine callK (Tri.less hH hy) ?_
   rintro r H' ⟨rfl, hk⟩
   simp only [vsAll, opA, dstOk, nilSliceOp, resA, retA.eq_1, Nat.reduceLT, ↓reduceIte, eq_self, Try.results99]
   exact ⟨H', HSub_rfl, .inr ⟨by rw [e0]; exact List.cons_ne_nil _ _, rfl, hk⟩⟩
 | succ n ih =>
   intro b H hl hb hr h5 h6 hH hy
   have hne : ¬ setL b = S := fun e => by
    have := (rowOf_full hS5 hb).2.1 e
    omega
   have hsb : setL b < 32 := setL_lt hS5 hb
   have dne : decide (((setL b : Nat) : Int) = ((S : Nat) : Int)) = false := decide_eq_false (by omega)
   have hlast := last_le k hc hS hb
   have hbl := row_len k (rowB_of hS hb)
   generalize hfl : (fun i : Nat => if goR g c S b i = true then rws g c S n (b ++ [(i : Int)]) else []) = fl
   have efl : rws g c S (n + 1) b = (List.range g.N).flatMap fl := by rw [← hfl]; rfl
   have hfi : ∀ i, fl i = if goR g c S b i = true then rws g c S n (b ++ [(i : Int)]) else [] := fun i => by rw [← hfl]
   rw [efl] at hy
   have eno : ∀ i, goR g c S b i = false → fl i = [] := fun i h => by rw [hfi, h]; rfl
   have hspl : spd (g.crew c) false = (g.crew c).lo := rfl
   have hst : ∀ i : Nat, i < g.N → lastT g c (b ++ [(i : Int)]) = stT g (g.crew c).lo (lastT g c b) i := fun i _ => by
    unfold lastT
    rw [List.length_append, List.length_cons, List.length_nil, donN_last, Int.toNat_natCast]
   have hse : ∀ i : Nat, setL (b ++ [(i : Int)]) = setL b ||| 2 ^ i := fun i => by rw [setL_snoc, Int.toNat_natCast]
   have hgo : ∀ i : Nat, goR g c S b i = ((dif S (setL b)).testBit i && (knB g c i && decide (lastT g c (b ++ [(i : Int)]) ≤ (g.seam i).fl))) := fun i => by
    rw [Bool.eq_iff_iff, goR_iff, rgt_snoc, dif_bit]
    have hbi : (setL b).testBit i = true ↔ (i : Int) ∈ b := rowOf_set hb
    have e2 : stT g (g.crew c).lo (donN g (g.crew c).lo b b.length) i = lastT g c (b ++ [(i : Int)]) := by
     unfold lastT
     rw [List.length_append, List.length_cons, List.length_nil, donN_last, Int.toNat_natCast]
    rw [Int.toNat_natCast, e2]
    simp only [Bool.and_eq_true, Bool.not_eq_true', decide_eq_true_eq]
    rw [← Bool.not_eq_true, hbi]
    constructor
    ·rintro ⟨a1, a2, _, a3, a4⟩; exact ⟨⟨a1, a2⟩, a3, a4⟩
    ·rintro ⟨⟨a1, a2⟩, a3, a4⟩; exact ⟨a1, a2, hr, a3, a4⟩
   refine Tri.drop ?_
   refine tri_v0 (mset [68]) Try.func99 (by kernel_rfl) rfl (by simp only [List.length_append, List.length_cons, List.length_nil, Try.ntmps99]; decide) ?_
   skip
   simp only [vsAll, binA, binLitA, intA, loadA, loadRow, partA, partOk, fieldAddrA, lenA, nilCheckA, boxA, boxZ, opA, dstOk, nilSliceOp, argFr, Nat.reduceAdd, Nat.reduceLT, Nat.reduceEqDiff, Nat.reduceBEq, ↓reduceIte, eq_self, wtAll, Try.ntmps99, dne]
   refine vs_loop (σ := Nat) (fun i => i ≤ g.N ∧ ∀ j, j < i → fl j = []) (fun i => [(0, intsAV b), (2, .rptr 1 1 (fun _ => [u64 (S : Nat)]) 0 0), (3, .rptr 1 1 (fun _ => [.func yf [] []]) 0 0), (4, ggA g), (5, .ref i5 0 1 0 0), (6, bx c), (7, .ref i6 0 1 0 0), (9, .rptr 1 2 (fun _ => stC (setL b) (lastT g c b)) 0 0), (27, i64 g.N), (28, i64 i)]) (fun _ => H) (fun i => g.N - i) 0 ⟨Nat.zero_le _, fun j hj => absurd hj (Nat.not_lt_zero j)⟩ ?_ HSub_rfl fun i hi => ?_
   ·simp only [vsAll, argFr, Nat.reduceEqDiff, ↓reduceIte, reduceCtorEq, eq_self, hNe, Int.natCast_zero]
   ·obtain ⟨hi, hall⟩ := hi
    simp only [vsAll, binA, binLitA, intA, opA, dstOk, Nat.reduceLT, Nat.reduceEqDiff, ↓reduceIte, reduceCtorEq, eq_self]
    refine condD (fun hd => ?_) (fun hd => ?_)
    ·have his : i < g.N := by ((try clear h5); (try clear h6); omega)
     have hdl : dif S (setL b) < 2 ^ 60 := Nat.lt_of_lt_of_le (dif_lt hS) (Nat.pow_le_pow_right (by decide) (by ((try clear h5); (try clear h6); omega)))
     have eng := eno i
     rw [hgo] at eng
     have hnxt : ∀ H, 0 ≤ begV g i → PTri Try.prog (fnA 97) [gP g, stA (setL b) (lastT g c b), i64 c, i64 i, slowA] H (stA (setL b ||| 2 ^ i) (lastT g c (b ++ [(i : Int)]))) := fun H hb => by
      rw [hst i his]
      exact next_tri g (setL b) (lastT g c b) c i false H k (by ((try clear h5); (try clear h6); omega)) (by ((try clear h5); (try clear h6); omega)) hc his hb
     simp only [vsAll, loadA, loadRow, partA, partOk, fieldAddrA, okAll, stAll, opsA, opA, dstOk, nilSliceOp, Nat.reduceLT, Nat.reduceEqDiff, Nat.reduceBEq, ↓reduceIte, reduceCtorEq, eq_self, wtAll]
     refine callK_pure (without_tri S (setL b) _ (by ((try clear h5); (try clear h6); omega)) (by ((try clear h5); (try clear h6); omega))) ?_
     simp only [vsAll, okAll, stAll, opsA, opA, dstOk, Nat.reduceLT, Nat.reduceEqDiff, ↓reduceIte, eq_self]
     refine callK_pure (has_tri _ i _ hdl (by ((try clear h5); (try clear h6); omega))) ?_
     simp only [vsAll, unA, loadA, loadRow, partA, partOk, opA, guardV, dstOk, Nat.reduceLT, Nat.reduceEqDiff, ↓reduceIte, reduceCtorEq, implies_true, eq_self, wtAll, h5]
     refine gcall (boo (knB g c i)) (fun g => ⟨by simp only [vsAll, opA, Nat.reduceEqDiff, ↓reduceIte, eq_self, g], by simp only [vsAll, okAll, opsA, opA, ↓reduceIte, eq_self, g], knows1_tri _ c i _ k hc his⟩) ?_
     simp only [vsAll, unA, pickA, opA, guardV, dstOk, Nat.reduceLT, Nat.reduceEqDiff, ↓reduceIte, implies_true, eq_self]
     refine condV (fun hc1 => ?_) (fun hc1 => ?_)
     ·have hf0 : fl i = [] := eng (by
       have : ((dif S (setL b)).testBit i && knB g c i) = false := by
        rw [Bool.and_eq_false_iff]
        revert hc1
        cases (dif S (setL b)).testBit i <;> cases knB g c i <;> simp
       rw [← Bool.and_assoc, this, Bool.false_and])
      simp only [vsAll, binA, binLitA, intA, opA, dstOk, Nat.reduceLT, Nat.reduceEqDiff, ↓reduceIte, reduceCtorEq, eq_self]
      refine ⟨by simp only [InR_i64]; ((try clear h5); (try clear h6); omega), loop_next (i + 1) ⟨by ((try clear h5); (try clear h6); omega), fun j hj => ?_⟩ (by ((try clear h5); (try clear h6); omega)) ?_ HSub_rfl⟩
      ·by_cases e : j = i
       ·subst e; exact hf0
       ·exact hall j (by ((try clear h5); (try clear h6); omega))
      ·simp only [vsAll, Nat.reduceEqDiff, ↓reduceIte, reduceCtorEq, eq_self, Int.natCast_add, Int.natCast_one]
     ·have hb1 : (dif S (setL b)).testBit i = true := by
       revert hc1
       cases (dif S (setL b)).testBit i <;> simp
      have hb2 : knB g c i = true := by
       revert hc1
       cases (dif S (setL b)).testBit i <;> cases knB g c i <;> simp
      have hbg : 0 ≤ begV g i := by
       unfold knB at hb2
       rw [Bool.and_eq_true, decide_eq_true_eq] at hb2
       exact hb2.2
      have hgi := hgo i
      rw [hb1, hb2] at hgi eng
      simp only [Bool.true_and] at hgi eng
      have eS : g.sm.getD i sm0 = g.seam i := rfl
      simp only [vsAll, loadA, loadRow, partA, partOk, fillA, okParts, ifaceA, okAll, stAll, opsA, partsA, partsOk, opA, dstOk, Nat.reduceLT, Nat.reduceEqDiff, ↓reduceIte, reduceCtorEq, eq_self, wtAll]
      refine callK_pure (hnxt _ hbg) ?_
      simp only [vsAll, cellA, opA, allocA, newCells, okCells, storeObj, dstOk, Nat.reduceAdd, Nat.reduceLT, Nat.reduceEqDiff, ↓reduceIte, eq_self, wtAll]
      intro i12 hh_i12; (try simp only [Hp.set_none, ite_none] at hh_i12)
      have a1 := ne_some hh_i12 h5
      have a2 := ne_some hh_i12 h6
      skip
      refine vs_draw2 [0, 0, 0, 0, 0, 0, 0, 0, 0, 0, 0, 0] [] [0, 1, 2, 3, 4, 5, 6, 7, 8, 9, 10, 11] (by decide +kernel) ?_
      simp only [vsAll, binA, binLitA, intA, loadA, loadRow, partA, partOk, fieldAddrA, indexAddrA, nilCheckA, opA, dstOk, Nat.reduceLT, Nat.reduceEqDiff, ↓reduceIte, reduceCtorEq, eq_self, wtAll, smF_at, eS]
      refine ⟨⟨by ((try clear h5); (try clear h6); (try clear hh_i12); (try clear a1); (try clear a2); omega), by ((try clear h5); (try clear h6); (try clear hh_i12); (try clear a1); (try clear a2); omega)⟩, by ((try clear h5); (try clear h6); (try clear hh_i12); (try clear a1); (try clear a2); omega), ?_⟩
      rw [Hp.set_set]
      refine condV (fun hc2 => ?_) (fun hc2 => ?_)
      ·have hf0 : fl i = [] := eng (by rw [decide_eq_true_eq] at hc2; exact decide_eq_false (by ((try clear h5); (try clear h6); (try clear hh_i12); (try clear a1); (try clear a2); omega)))
       simp only [vsAll, binA, binLitA, intA, opA, dstOk, Nat.reduceLT, Nat.reduceEqDiff, ↓reduceIte, reduceCtorEq, eq_self]
       refine ⟨by simp only [InR_i64]; ((try clear h5); (try clear h6); (try clear hh_i12); (try clear a1); (try clear a2); omega), loop_next (i + 1) ⟨by ((try clear h5); (try clear h6); (try clear hh_i12); (try clear a1); (try clear a2); omega), fun j hj => ?_⟩ (by ((try clear h5); (try clear h6); (try clear hh_i12); (try clear a1); (try clear a2); omega)) ?_ ?_⟩
       ·by_cases e : j = i
        ·subst e; exact hf0
        ·exact hall j (by ((try clear h5); (try clear h6); (try clear hh_i12); (try clear a1); (try clear a2); omega))
       ·simp only [vsAll, Nat.reduceEqDiff, ↓reduceIte, reduceCtorEq, eq_self, Int.natCast_add, Int.natCast_one]
       ·(repeat (first | exact HSub_rfl | refine HSub_put_eq (by simp only [vsAll, ↓reduceIte, eq_self, reduceCtorEq, Nat.reduceEqDiff, h5, h6, hh_i12, a1, a2]) ?_ | refine HSub_drop2 (by simp only [eq_self, hh_i12]) ?_ | refine HSub_keep_eq (by simp only [vsAll, ↓reduceIte, eq_self, reduceCtorEq, Nat.reduceEqDiff, h5, h6, hh_i12, a1, a2]) ?_))
      ·have hg1 : goR g c S b i = true := by
        rw [hgi]
        rw [decide_eq_false_iff_not] at hc2
        exact decide_eq_true (by ((try clear h5); (try clear h6); (try clear hh_i12); (try clear a1); (try clear a2); omega))
       have hfc : fl i = rws g c S n (b ++ [(i : Int)]) := by rw [hfi, hg1]; rfl
       obtain ⟨q1, q2, q3⟩ := goR_iff.1 hg1
       have hro : RowOf S (b ++ [(i : Int)]) := rowOf_snoc.2 ⟨hb, q1, q2⟩
       simp only [vsAll, binA, binLitA, intA, lenA, makeSliceA, opA, copyA, dstOk, nilSliceOp, Nat.reduceLT, Nat.reduceEqDiff, Nat.reduceBEq, ↓reduceIte, reduceCtorEq, eq_self, wtAll]
       refine ⟨by simp only [InR_i64]; ((try clear h5); (try clear h6); (try clear hh_i12); (try clear a1); (try clear a2); omega), by ((try clear h5); (try clear h6); (try clear hh_i12); (try clear a1); (try clear a2); omega), by ((try clear h5); (try clear h6); (try clear hh_i12); (try clear a1); (try clear a2); omega), by ((try clear h5); (try clear h6); (try clear hh_i12); (try clear a1); (try clear a2); omega), by ((try clear h5); (try clear h6); (try clear hh_i12); (try clear a1); (try clear a2); omega), ?_⟩
       intro i13 hh_i13; (try simp only [ite_none] at hh_i13)
       have a3 := ne_some hh_i13.2 h5
       have a4 := ne_some hh_i13.2 h6
       skip
       refine ⟨fun q hq => by simp only [vsAll, cellA, okCells, eq_self, intF_at], ?_⟩
       refine vs_draw2 [0, 0, 0, 0, 1, 0, 3, 4] [([0, 1, 2, 3, 5], [0, 5], 4), ([], [], 6)] [7] (by decide +kernel) ?_
       simp only [vsAll, loadA, loadRow, partA, partOk, cellA, cellsA, okParts, buildSliceA, partIdx, elemsA, lensA, okAll, stAll, opsA, partsA, partsOk, opA, appendA, dstOk, Nat.reduceMul, Nat.reduceLT, Nat.reduceLeDiff, Nat.reduceEqDiff, ↓reduceIte, reduceCtorEq, eq_self, wtAll, h6, a2, hh_i13, a4, Nat.min_self]
       refine ⟨fun q hq => by (have : q = 0 := by ((try clear h5); (try clear h6); (try clear hh_i12); (try clear a1); (try clear a2); (try clear hh_i13); (try clear a3); (try clear a4); omega)); subst this; simp only [vsAll, cellA, okCells, eq_self], by ((try clear h5); (try clear h6); (try clear hh_i12); (try clear a1); (try clear a2); (try clear hh_i13); (try clear a3); (try clear a4); omega), by ((try clear h5); (try clear h6); (try clear hh_i12); (try clear a1); (try clear a2); (try clear hh_i13); (try clear a3); (try clear a4); omega), ?_⟩
       rw [← hse, Hp.set_set, Hp.set_set]
       refine callK (on_call (b := b) (z := (i : Int)) (cpRow b i) (Hp.set_same _ _ _) (ih (b ++ [(i : Int)]) _ (by rw [List.length_append, List.length_cons, List.length_nil]; ((try clear h5); (try clear h6); (try clear hh_i12); (try clear a1); (try clear a2); (try clear hh_i13); (try clear a3); (try clear a4); omega)) hro q3 (by simp only [vsAll, ↓reduceIte, eq_self, h5, a1, a3, Hp.del_get]) (by simp only [vsAll, ↓reduceIte, eq_self, h6, a2, a4, Hp.del_get]) ?_ ?_)) ?_
       ·exact Go.V.HSub.trans (HSub_del hh_i13.2 (by (repeat (first | exact HSub_rfl | refine HSub_put_eq (by simp only [vsAll, ↓reduceIte, eq_self, reduceCtorEq, Nat.reduceEqDiff, h5, h6, hh_i12, a1, a2, hh_i13, a3, a4]) ?_ | refine HSub_drop2 (by simp only [eq_self, hh_i12, hh_i13]) ?_ | refine HSub_keep_eq (by simp only [vsAll, ↓reduceIte, eq_self, reduceCtorEq, Nat.reduceEqDiff, h5, h6, hh_i12, a1, a2, hh_i13, a3, a4]) ?_)))) hH
       ·intro l hl2
        rw [← hfc] at hl2
        exact hy l (flat_head hall hl2 g.N his)
       rintro r H' (⟨hnil, rfl, rfl⟩ | ⟨hnn, rfl, hk⟩)
       ·simp only [vsAll, binA, binLitA, intA, unA, opA, dstOk, Nat.reduceLT, Nat.reduceEqDiff, ↓reduceIte, reduceCtorEq, eq_self]
        refine ⟨by simp only [InR_i64]; ((try clear h5); (try clear h6); (try clear hh_i12); (try clear a1); (try clear a2); (try clear hh_i13); (try clear a3); (try clear a4); omega), loop_next (i + 1) ⟨by ((try clear h5); (try clear h6); (try clear hh_i12); (try clear a1); (try clear a2); (try clear hh_i13); (try clear a3); (try clear a4); omega), fun j hj => ?_⟩ (by ((try clear h5); (try clear h6); (try clear hh_i12); (try clear a1); (try clear a2); (try clear hh_i13); (try clear a3); (try clear a4); omega)) ?_ ?_⟩
        ·by_cases e : j = i
         ·subst e; rw [hfc]; exact hnil
         ·exact hall j (by ((try clear h5); (try clear h6); (try clear hh_i12); (try clear a1); (try clear a2); (try clear hh_i13); (try clear a3); (try clear a4); omega))
        ·simp only [vsAll, Nat.reduceEqDiff, ↓reduceIte, reduceCtorEq, eq_self, Int.natCast_add, Int.natCast_one]
        ·exact HSub_del hh_i13.2 (by (repeat (first | exact HSub_rfl | refine HSub_put_eq (by simp only [vsAll, ↓reduceIte, eq_self, reduceCtorEq, Nat.reduceEqDiff, h5, h6, hh_i12, a1, a2, hh_i13, a3, a4]) ?_ | refine HSub_drop2 (by simp only [eq_self, hh_i12, hh_i13]) ?_ | refine HSub_keep_eq (by simp only [vsAll, ↓reduceIte, eq_self, reduceCtorEq, Nat.reduceEqDiff, h5, h6, hh_i12, a1, a2, hh_i13, a3, a4]) ?_)))
       ·simp only [vsAll, unA, opA, dstOk, nilSliceOp, resA, retA.eq_1, Nat.reduceLT, Nat.reduceBEq, ↓reduceIte, eq_self, Try.results99]
        refine ⟨H', HSub_rfl, .inr ⟨fun e => hnn ?_, rfl, hk⟩⟩
        rw [efl, flat_nil] at e
        rw [← hfc]
        exact e i his
    ·simp only [vsAll, opA, dstOk, nilSliceOp, resA, retA.eq_1, Nat.reduceLT, Nat.reduceBEq, ↓reduceIte, eq_self, Try.results99]
     have ei : i = g.N := by ((try clear h5); (try clear h6); omega)
     subst ei
     exact ⟨H, HSub_rfl, .inl ⟨by rw [efl]; exact flat_nil.2 hall, rfl, rfl⟩⟩
end Go.Proofs.Ytdopkbldjagmlaa
end
section
set_option linter.unusedVariables false
set_option linter.unusedSimpArgs false
namespace Go.V
set_option linter.unusedSectionVars false
variable [Inhabited GivT]
section
variable {P : Program} {m : Option Tmp → Bool} {n : Nat} {k : List It} {s : Fr} {ds : List AD} {H : Hp} {Q : Post}
theorem vs_rangeO {g : Operand} {ps : Array Tmp} {assign body : Code} {f : FuncId} {fn : Func} {c : Code} {caps : List AV} (o : Option (List AV))
  (hf : P.funcs[f]? = some fn) (hname : (fn.name == "runtime.NumGoroutine") = false) (hb : fn.body = some c)
  (hg : (opA s g).ok) (hgv : (opA s g).st = .func (.func f) [] caps) (hps : ∀ t ∈ ps.toList, t < n) (hpl : ∀ x, o = some x → x.length = ps.size)
  (hit : ∀ yf (H : Hp) (K : Hp → Prop), (o = none → K H) → (∀ x, o = some x → Tri P (.func yf [] []) x H fun r H' => r = .ret (.lit (.bool false)) ∧ K H') → Tri P (.func (.func f) [] caps) [.func yf [] []] H fun r H' => (∃ v, r = .ret v) ∧ K H')
  (round : ∀ x, o = some x → ∀ lid did l (lo : LoopState → Option Code → Obj), H lid = none → H did = none → lid ≠ did →
   VS (some l) P m n [.code assign] (putAll s ps.toList x) [] ((H.set did (.raw (.deferred (some [])))).set lid (lo .ready none)) (AsgS P m n l body k Q (fun _ => False) s ds lid did lo))
  (fin : o = none → ∀ lid did (lo : LoopState → Option Code → Obj), H lid = none → H did = none → lid ≠ did →
   VS none P m n k s (.mark did :: ds) ((H.set did (.raw (.deferred (some [])))).set lid (lo .exhausted none)) Q) :
  VS none P m n (.code (.rangeFunc g ps assign body) :: k) s ds H Q := by
 show WPS none P n (.rangeFunc g ps assign body) s ds H (TK none P m n k Q)
 refine wps_range hg hgv hf hname hb fun lid did l h1 h2 h3 => ?_
 let lo : LoopState → Option Code → Obj := fun st pd => .loop l n s ps assign body st pd did
 let K : Hp → Prop := fun H' => ∃ st pend, H' lid = some (lo st pend) ∧ st ≠ .busy ∧ jumpQ pend fun x => VX none P m n k x s (.mark did :: ds) (H'.set lid (lo .exhausted pend)) Q
 refine ⟨_, hit (.yield l) _ K (fun ho => ⟨.ready, none, Hp.set_same _ _ _, by simp, ?_⟩) (fun x hx => ?_), ?_⟩
 ·simp only [jumpQ, Hp.set_set]
  exact fin ho lid did lo h1 h2 h3
 ·refine Tri.drop ?_
  refine tri_yield (lid := lid) (n := n) (s := s) (ps := ps) (assign := assign) (body := body) (did := did) (Hp.set_same _ _ _) (hpl x hx) hps ?_
  refine (vcC_sound assign (round x hx lid did l lo h1 h2 h3)).mono ?_
  intro x1 s1 ds1 H1 hq
  cases x1 with
  | normal =>
    obtain ⟨q1, q2⟩ := hq
    refine ⟨rfl, q1, (vcC_sound body q2).mono ?_⟩
    intro x2 s2 ds2 H2 hq2
    cases x2 with
    | normal =>
      obtain ⟨_, nx, hF, _⟩ := hq2
      exact hF.elim
    | ret => obtain ⟨⟨st, pd, ho⟩, hv⟩ := hq2; exact ⟨st, pd, ho, _, HSub.refl _, ⟨rfl, .done, some .ret, Hp.set_same _ _ _, by simp, by rw [Hp.set_set]; exact hv⟩⟩
    | exit j => obtain ⟨⟨st, pd, ho⟩, hv⟩ := hq2; exact ⟨st, pd, ho, _, HSub.refl _, ⟨rfl, .done, some (.exit j), Hp.set_same _ _ _, by simp, by rw [Hp.set_set]; exact hv⟩⟩
    | pan v => exact hq2.elim
  | _ => exact hq.elim
 ·rintro r H' ⟨⟨v, rfl⟩, st, pend, ho, hst, hj⟩
  exact ⟨st, pend, ho, hst, hj⟩
end
/-- A result of which less is said. -/
theorem Tri.resLe {P : Program} {fv : AV} {args : List AV} {H : Hp} {R1 R : Res → Hp → Prop} (h : Tri P fv args H R1)
  (hR : ∀ r H', R1 r H' → R r H' ∨ ∃ v v', r = .ret v ∧ AV.Le v v' ∧ R (.ret v') H') : Tri P fv args H R := by
 intro S vf vs hH hvf ha
 obtain ⟨nx, h1, h2⟩ := h S vf vs hH hvf ha
 have ho : ∀ e w, Out S R1 e w → Out S R e w := by
  rintro e w ⟨S', r, H', hw, hle, hH', hres, hr⟩
  rcases hR r H' hr with hr | ⟨v, v', rfl, hl, hr⟩
  ·exact ⟨S', r, H', hw, hle, hH', hres, hr⟩
  ·cases e with
   | returned cv => exact ⟨S', .ret v', H', hw, hle, hH', hl _ _ hres, hr⟩
   | _ => exact hres.elim
 refine ⟨nx, h1, ?_⟩
 cases nx <;> simp only [NextOk] at h2 ⊢
 ·exact Calls.mono h2 ho
 ·exact h2.mono ho
theorem AV.Le.tupleD {cs ds : List AV} (hl : ds.length = cs.length) (h : ∀ j, j < cs.length → AV.Le (cs.getD j .any) (ds.getD j .any)) : AV.Le (.tuple cs) (.tuple ds) := by
 intro S v hv
 cases hv with
 | tuple hn hh => exact .tuple (hn.trans hl.symm) fun k hk => h k (by omega) _ _ (hh k (by omega))
end Go.V
end
section
set_option linter.unusedVariables false
set_option linter.unusedSimpArgs false
set_option maxHeartbeats 4000000
set_option maxRecDepth 100000
namespace Go.Proofs.Ytdopkbldjagmlaa
open Go.V
theorem azT172q : azT Try.prog 172 = some (1, 1, [.nilFunc]) := by kernel_rfl
abbrev rwF (g : Gg) (c S : Nat) : AV := .func (.func 98) [] [ggA g, bx c, .rptr 1 1 (fun _ => [u64 (S : Nat)]) 0 0]
theorem rows_tri (g : Gg) (c S : Nat) (H : Hp) : PTri Try.prog (fnA 68) [gP g, i64 c, u64 (S : Nat)] H (rwF g c S) := by
 refine tri_v0 (fun _ => false) Try.func68 (by kernel_rfl) rfl (by simp only [List.length_append, List.length_cons, List.length_nil, Try.ntmps68]; decide) ?_
 simp only [vsAll, boxA, boxZ, cellA, okAll, stAll, opsA, opA, dstOk, nilSliceOp, resA, argFr, retA.eq_1, Nat.reduceLT, Nat.reduceEqDiff, ↓reduceIte, eq_self, wtAll, Try.ntmps68, Try.results68]
theorem rows1_tri {g : Gg} (k : OkG g) {c S : Nat} (hc : c < g.cw.length) (hS : S < 2 ^ g.N) (yf : Fn) (H : Hp) (K : Hp → Prop) (h0 : rowsL g c S = [] → K H)
  (h1 : ∀ l, (rowsL g c S).head? = some l → Tri Try.prog (.func yf [] []) [intsAV l, stA S (lastT g c l)] H fun r H' => r = .ret (boo false) ∧ K H') :
  Tri Try.prog (rwF g c S) [.func yf [] []] H fun r H' => (∃ v, r = .ret v) ∧ K H' := by
 refine Tri.drop ?_
 refine tri_v0 (fun _ => false) Try.func98 (by kernel_rfl) rfl (by simp only [List.length_append, List.length_cons, List.length_nil, Try.ntmps98]; decide) ?_
 simp only [vsAll, loadA, loadRow, partA, partOk, boxA, boxZ, cellA, okAll, stAll, opsA, opA, dstOk, argFr, Nat.reduceLT, Nat.reduceEqDiff, ↓reduceIte, eq_self, wtAll, Try.ntmps98]
 refine callK_pure (knows_tri g c _ k hc) ?_
 simp only [vsAll, loadA, loadRow, partA, partOk, cellA, cellsA, fillA, okParts, okAll, stAll, opsA, partsA, partsOk, opA, allocA, newCells, okCells, storeObj, dstOk, argFr, Nat.reduceLT, Nat.reduceEqDiff, ↓reduceIte, eq_self, wtAll, azT86q, azT172q]
 intro i5 hh_i5; (try simp only [Hp.set_none, ite_none] at hh_i5)
 intro i6 hh_i6; (try simp only [ite_none] at hh_i6)
 rw [Hp.set_set, Hp.set_set]
 have hh := rwOn_tri k (i5 := i5) (i6 := i6) (S := S) hc hS (yf := yf) (H0 := H) (K := K) (pop S) [] ((H.set i5 (.box 1 1 fun _ => [knG g c])).set i6 (.box 1 1 fun _ => [onR g c S i5 i6 yf])) (by simp) (rowOf_nil S) (rgt_nil g c) (by simp only [vsAll, ↓reduceIte, eq_self, hh_i6]) (by simp only [vsAll, ↓reduceIte, eq_self]) (by (repeat (first | exact HSub_rfl | refine HSub_put_eq (by simp only [vsAll, ↓reduceIte, eq_self, reduceCtorEq, Nat.reduceEqDiff, hh_i5, hh_i6]) ?_ | refine HSub_drop2 (by simp only [eq_self, hh_i5, hh_i6]) ?_ | refine HSub_keep_eq (by simp only [vsAll, ↓reduceIte, eq_self, reduceCtorEq, Nat.reduceEqDiff, hh_i5, hh_i6]) ?_))) h1
 refine callK (Tri.args hh rfl fun q hq => ?_) ?_
 ·match q, hq with
  | 0, _ => exact AV.Le.nil _ _
  | 1, _ => exact AV.Le.refl _
 rintro r H' (⟨hn, rfl, rfl⟩ | ⟨hn, rfl, hk⟩)
 ·simp only [vsAll, resA, retA.eq_2, eq_self, Try.results98]
  exact ⟨H, by (repeat (first | exact HSub_rfl | refine HSub_put_eq (by simp only [vsAll, ↓reduceIte, eq_self, reduceCtorEq, Nat.reduceEqDiff, hh_i5, hh_i6]) ?_ | refine HSub_drop2 (by simp only [eq_self, hh_i5, hh_i6]) ?_ | refine HSub_keep_eq (by simp only [vsAll, ↓reduceIte, eq_self, reduceCtorEq, Nat.reduceEqDiff, hh_i5, hh_i6]) ?_)), ⟨_, rfl⟩, h0 hn⟩
 ·simp only [vsAll, resA, retA.eq_2, eq_self, Try.results98]
  exact ⟨H', HSub_rfl, ⟨_, rfl⟩, hk⟩
end Go.Proofs.Ytdopkbldjagmlaa
end
section
set_option linter.unusedVariables false
set_option linter.unusedSimpArgs false
set_option maxHeartbeats 4000000
set_option maxRecDepth 100000
namespace Go.Proofs.Ytdopkbldjagmlaa
open Go.V
/-- What is told of a row of some seams. -/
def canE (g : Gg) (c n : Int) : Int := if errG g (vCan g c n) = 0 then if rowsL g c.toNat n.toNat = [] then 4 else 0 else errG g (vCan g c n)
def canV (g : Gg) (c n : Int) : List Int := if canE g c n = 0 then ((rowsL g c.toNat n.toNat).head?).getD [] else []
def canA (g : Gg) (c n : Int) : AV := if canE g c n = 0 then intsAV (canV g c n) else .lit (.slice none 0 0)
def canP (g : Gg) (c : Nat) (S : Nat) : Option (List AV) := ((rowsL g c S).head?).map fun l => [intsAV l, stA S (lastT g c l)]
theorem wcanA_tri (g : Gg) (c n : Int) (H : Hp) (kn : NearG g) : PTri Try.prog (fnA 22) [g.av, i64 c, i64 n] H (.tuple [canA g c n, i64 (canE g c n)]) := by
 refine Tri.drop ?_
 refine tri_am (m := fun _ => false) gans Try.func22 (by kernel_rfl) rfl (by simp only [List.length_append, List.length_cons, List.length_nil, Try.ntmps22]; decide) ?_
 simp only [vsAll, loadA, loadRow, partA, partOk, boxA, boxZ, cellA, okAll, stAll, opsA, opA, allocA, dstOk, argFr, Nat.reduceAdd, Nat.reduceLT, Nat.reduceEqDiff, ↓reduceIte, eq_self, wtAll, Try.ntmps22]
 intro i6 hh_i6; (try simp only [Hp.set_none, ite_none] at hh_i6); intro i7 hh_i7; (try simp only [ite_none] at hh_i7)
 refine gopen_call (openG_tri g _ (vCan g c n) _ kn trivial rfl (fun k H' id ho => can1_tri g c n id H' k ho)) (fun he => ?_) (fun k hv => ?_)
 ·have e : canE g c n = errG g (vCan g c n) := if_neg he
  have e2 : canA g c n = .lit (.slice none 0 0) := if_neg (by rw [e]; exact he)
  simp only [vsAll, loadA, loadRow, partA, partOk, resA, retA.eq_2, Nat.reduceEqDiff, ↓reduceIte, eq_self, wtAll, Try.results22, hh_i7]
  refine ⟨errG g (vCan g c n), i7, _, rfl, rfl, by simp only [↓reduceIte, eq_self]; try rfl, ?_⟩
  simp only [vsAll, Nat.reduceLT, ↓reduceIte, eq_self, hh_i7]
  refine dropR_pure ?_ (by (repeat (first | exact HSub_rfl | refine HSub_put_eq (by simp only [vsAll, ↓reduceIte, eq_self, reduceCtorEq, Nat.reduceEqDiff, hh_i6, hh_i7]) ?_ | refine HSub_drop2 (by simp only [eq_self, hh_i6, hh_i7]) ?_ | refine HSub_keep_eq (by simp only [vsAll, ↓reduceIte, eq_self, reduceCtorEq, Nat.reduceEqDiff, hh_i6, hh_i7]) ?_)))
  simp only [eq_self, e, e2]
  try rfl
 ·have he : errG g (vCan g c n) = 0 := by rw [hv]; exact errG_ok k
  have hv0 := hv
  unfold vCan isSet at hv
  simp only [Bool.and_eq_true, decide_eq_true_eq] at hv
  obtain ⟨hv1, hn0, hn1⟩ := hv
  rw [isCw_iff] at hv1
  obtain ⟨hc1, hc2⟩ := hv1
  obtain ⟨c, rfl⟩ : ∃ q : Nat, c = (q : Int) := ⟨c.toNat, by ((try clear hh_i6); (try clear hh_i7); omega)⟩
  obtain ⟨S, rfl⟩ : ∃ q : Nat, n = (q : Int) := ⟨n.toNat, by ((try clear hh_i6); (try clear hh_i7); omega)⟩
  have hc : c < g.cw.length := by ((try clear hh_i6); (try clear hh_i7); omega)
  have hS : S < 2 ^ g.N := by
   have := Nat.two_pow_pos g.N
   ((try clear hh_i6); (try clear hh_i7); omega)
  have hS5 : S < 32 := lt32 k.nS hS
  simp only [vsAll, loadA, loadRow, partA, partOk, convA, okAll, stAll, opsA, opA, dstOk, nilSliceOp, Nat.reduceLT, Nat.reduceEqDiff, ↓reduceIte, eq_self, wtAll]
  refine ⟨by simp only [InR_u64]; ((try clear hh_i6); (try clear hh_i7); omega), ?_⟩
  refine callK_pure (rows_tri g c S _) ?_
  simp only [vsAll]
  have ec : canE g (c : Int) (S : Int) = if rowsL g c S = [] then 4 else 0 := by
   unfold canE
   rw [if_pos he, Int.toNat_natCast, Int.toNat_natCast]
  refine vs_rangeO (canP g c S) Try.func98 (by kernel_rfl) rfl (by simp only [vsAll, opA, ↓reduceIte, eq_self]) (by simp only [vsAll, opA, ↓reduceIte, eq_self]) (by decide) (fun x hx => by
   unfold canP at hx
   rw [Option.map_eq_some_iff] at hx
   obtain ⟨l, _, rfl⟩ := hx
   rfl) (fun yf H K h0 h1 => rows1_tri k hc hS yf H K (fun hn => h0 (by unfold canP; rw [hn]; rfl)) fun l hl => h1 _ (by unfold canP; rw [hl]; rfl)) ?_ ?_
  ·intro x hx lid did l' lo h1 h2 h3
   unfold canP at hx
   rw [Option.map_eq_some_iff] at hx
   obtain ⟨l, hl, rfl⟩ := hx
   have hne : ¬ rowsL g c S = [] := fun e => by rw [e] at hl; cases hl
   rw [if_neg hne] at ec
   have ev : canA g (c : Int) (S : Int) = intsAV l := by
    unfold canA canV
    rw [if_pos ec, if_pos ec, Int.toNat_natCast, Int.toNat_natCast, hl]; rfl
   simp only [Hp.set_none] at h1 h2
   have h4 : ¬ did = lid := fun e => h3 e.symm
   skip
   simp only [vsAll, loadA, loadRow, partA, partOk, cellA, cellsA, opA, newCells, okCells, storeObj, dstOk, quietOk, nilSliceOp, resA, retA.eq_2, Nat.reduceLT, Nat.reduceEqDiff, ↓reduceIte, eq_self, wtAll, Try.results22, hh_i7, h1, h2, h4]
   refine ⟨⟨_, _, rfl⟩, i7, _, rfl, by simp only [↓reduceIte, eq_self, h1, h2]; try rfl, dropR_pure (by rw [ec, ev]) (by (repeat (first | exact HSub_rfl | refine HSub_put_eq (by simp only [vsAll, ↓reduceIte, eq_self, reduceCtorEq, Nat.reduceEqDiff, hh_i6, hh_i7, h1, h2, h3, h4]) ?_ | refine HSub_drop2 (by simp only [eq_self, hh_i6, hh_i7, h1, h2]) ?_ | refine HSub_keep_eq (by simp only [vsAll, ↓reduceIte, eq_self, reduceCtorEq, Nat.reduceEqDiff, hh_i6, hh_i7, h1, h2, h3, h4]) ?_)))⟩
  ·intro hx lid did lo h1 h2 h3
   have hn : rowsL g c S = [] := by
    unfold canP at hx
    rw [Option.map_eq_none_iff, List.head?_eq_none_iff] at hx
    exact hx
   rw [if_pos hn] at ec
   have ev : canA g (c : Int) (S : Int) = .lit (.slice none 0 0) := if_neg (by rw [ec]; decide)
   simp only [Hp.set_none] at h1 h2
   have h4 : ¬ did = lid := fun e => h3 e.symm
   skip
   simp only [vsAll, loadA, loadRow, partA, partOk, cellA, cellsA, opA, newCells, okCells, storeObj, dstOk, resA, retA.eq_2, Nat.reduceLT, Nat.reduceEqDiff, ↓reduceIte, eq_self, wtAll, Try.results22, hh_i7, h1, h2, h4]
   refine ⟨i7, _, rfl, by simp only [↓reduceIte, eq_self, h2]; try rfl, dropR_pure (by rw [ec, ev]) (by (repeat (first | exact HSub_rfl | refine HSub_put_eq (by simp only [vsAll, ↓reduceIte, eq_self, reduceCtorEq, Nat.reduceEqDiff, hh_i6, hh_i7, h1, h2, h3, h4]) ?_ | refine HSub_drop2 (by simp only [eq_self, hh_i6, hh_i7, h1, h2]) ?_ | refine HSub_keep_eq (by simp only [vsAll, ↓reduceIte, eq_self, reduceCtorEq, Nat.reduceEqDiff, hh_i6, hh_i7, h1, h2, h3, h4]) ?_)))⟩
theorem wcan_tri (g : Gg) (c n : Int) (H : Hp) (kn : NearG g) : PTri Try.prog (fnA 22) [g.av, i64 c, i64 n] H (.tuple [intsAV (canV g c n), i64 (canE g c n)]) := by
 refine Tri.resLe (wcanA_tri g c n H kn) fun r H' h => .inr ⟨_, .tuple [intsAV (canV g c n), i64 (canE g c n)], h.1, AV.Le.tupleD rfl fun j hj => ?_, rfl, h.2⟩
 match j, hj with
 | 0, _ =>
   show AV.Le (canA g c n) (intsAV (canV g c n))
   unfold canA
   split
   ·exact AV.Le.refl _
   ·rename_i hn
    have : canV g c n = [] := if_neg hn
    rw [this]
    exact AV.Le.nil _ _
 | 1, _ => exact AV.Le.refl _
end Go.Proofs.Ytdopkbldjagmlaa
end
section
set_option linter.unusedVariables false
set_option linter.unusedSimpArgs false
set_option maxHeartbeats 4000000
set_option maxRecDepth 100000
namespace Go.Proofs.Ytdopkbldjagmlaa
open Go.V
def tabC (g : Gg) (c : Nat) : List AV := arrL (tabF g c) 32
theorem tabF_len (g : Gg) (c q : Nat) : (tabF g c q).length = 1 := rfl
theorem tabC_len (g : Gg) (c : Nat) : (tabC g c).length = 32 := (arrL_spec 32 fun i _ => tabF_len g c i).1
theorem tabC_at (g : Gg) (c : Nat) {q : Nat} (h : q < 32) : (tabC g c).getD q .any = i64 (if q < 2 ^ g.N then tabV g c q else 0) := by
 have := (arrL_spec 32 fun i _ => tabF_len g c i).2 q 0 h (by decide)
 rw [Nat.mul_one, Nat.add_zero] at this
 unfold tabC
 rw [this]
 show i64 _ = _
 by_cases e : q < 2 ^ g.N
 ·rw [if_pos e, if_pos e]
 ·rw [if_neg e, if_neg e]
  split <;> rfl
theorem okCells_app : ∀ {a b : List AV}, (okCells a = True) → (okCells b = True) → okCells (a ++ b) = True
 | [], b, _, h => h
 | x :: a, b, h1, h2 => by
   have h := of_eq_true h1
   exact eq_true ⟨h.1, of_eq_true (okCells_app (eq_true h.2) h2)⟩
theorem okCells_arr {f : Nat → List AV} (h : ∀ i, okCells (f i) = True) : ∀ n, okCells (arrL f n) = True
 | 0 => eq_true trivial
 | n + 1 => okCells_app (okCells_arr h n) (h n)
theorem tabC_ok (g : Gg) (c : Nat) : okCells (tabC g c) = True := by
 have h := okCells_arr (f := tabF g c) fun i => eq_true (tF_ok g c (2 ^ g.N) 0 i)
 unfold tabC
 generalize 32 = n
 exact h n
abbrev tbsF (g : Gg) : Nat → List AV := fun c => tabC g c
abbrev tbsA (g : Gg) : AV := .rsl g.cw.length 32 (tbsF g)
def fillR (g : Gg) (H : Hp) : Res → Hp → Prop := fun r H' => ∃ id, H id = none ∧ r = .ret (.sl id 32 g.cw.length) ∧ H' = H.set id (.row 32 g.cw.length (tbsF g))
theorem filled_tri (g : Gg) (H : Hp) (k : OkG g) : Tri Try.prog (fnA 79) [i64 g.cw.length, .agg [.func (.func 70) [gP g] []]] H (fillR g H) := by
 have nC := k.nC
 refine Tri.drop ?_
 refine tri_v0 (mset [4]) Try.func79 (by kernel_rfl) rfl (by simp only [List.length_append, List.length_cons, List.length_nil, Try.ntmps79]; decide) ?_
 simp only [vsAll, boxA, boxZ, opA, dstOk, argFr, Nat.reduceLT, Nat.reduceBEq, ↓reduceIte, reduceCtorEq, eq_self, wtAll, Try.ntmps79, Go.V.nilA]
 intro i4 hh_i4; (try simp only [Hp.set_none, ite_none] at hh_i4)
 refine vs_loop (σ := Nat) (fun i => i ≤ g.cw.length) (fun i => [(3, .rptr 1 1 (fun _ => [.func (.func 70) [gP g] []]) 0 0), (4, .sl i4 32 i), (6, i64 g.cw.length), (7, i64 i)]) (fun i => H.set i4 (.row 32 i (tbsF g))) (fun i => g.cw.length - i) 0 (Nat.zero_le _) ?_ ?_ fun i hi => ?_
 ·simp only [vsAll, Nat.reduceEqDiff, ↓reduceIte, eq_self, Int.natCast_zero]
 ·refine HSub_put (o' := .row 32 0 fun _ => []) (by simp only [vsAll, ↓reduceIte, eq_self]) (row0_le _ _ _) ?_
  (repeat (first | exact HSub_rfl | refine HSub_put_eq (by simp only [vsAll, ↓reduceIte, eq_self, reduceCtorEq, Nat.reduceEqDiff, hh_i4]) ?_ | refine HSub_drop2 (by simp only [eq_self, hh_i4]) ?_ | refine HSub_keep_eq (by simp only [vsAll, ↓reduceIte, eq_self, reduceCtorEq, Nat.reduceEqDiff, hh_i4]) ?_))
 ·simp only [vsAll, binA, binLitA, intA, opA, dstOk, Nat.reduceLT, Nat.reduceEqDiff, ↓reduceIte, eq_self]
  refine condD (fun hd => ?_) (fun hd => ?_)
  ·have his : i < g.cw.length := by ((try clear hh_i4); omega)
   simp only [vsAll, loadA, loadRow, partA, partOk, fieldAddrA, okAll, stAll, opsA, opA, dstOk, nilSliceOp, Nat.reduceLT, Nat.reduceEqDiff, Nat.reduceBEq, ↓reduceIte, eq_self, wtAll]
   refine callK_pure (tri_bound (table_tri g i _ k his)) ?_
   have e1 : arrL (tabF g i) 32 = tabC g i := by unfold tabC; exact Eq.refl _
   have e2 := tabC_len g i
   have e3 := tabC_ok g i
   simp only [vsAll, binA, binLitA, intA, cellsA, okParts, buildSliceA, partIdx, elemsA, lensA, partsA, partsOk, opA, appendA, dstOk, nilSliceOp, Nat.reduceMul, Nat.reduceLT, Nat.reduceLeDiff, Nat.reduceEqDiff, Nat.reduceBEq, ↓reduceIte, eq_self, wtAll, e1, e2]
   refine ⟨fun q hq => by (have : q = 0 := by ((try clear hh_i4); omega)); subst this; simp only [List.getD_cons_zero, e3], by ((try clear hh_i4); omega), by ((try clear hh_i4); omega), by simp only [InR_i64]; ((try clear hh_i4); omega), loop_next (i + 1) (by ((try clear hh_i4); omega)) (by ((try clear hh_i4); omega)) ?_ ?_⟩
   ·simp only [vsAll, Nat.reduceEqDiff, ↓reduceIte, eq_self, Int.natCast_add, Int.natCast_one]
   ·rw [Hp.set_set]
    refine HSub_put (o' := .row 32 (i + 1) (appF i 1 (tbsF g) fun q => [tabC g i].getD q [])) (by simp only [vsAll, ↓reduceIte, eq_self]) (row_ext fun q hq => ?_) ?_
    ·rw [appF_at (by ((try clear hh_i4); omega))]
     by_cases e : q < i
     ·rw [if_pos e]
     ·have : q = i := by ((try clear hh_i4); omega)
      subst this
      rw [if_neg e, Nat.sub_self]; rfl
    ·(repeat (first | exact HSub_rfl | refine HSub_put_eq (by simp only [vsAll, ↓reduceIte, eq_self, reduceCtorEq, Nat.reduceEqDiff, hh_i4]) ?_ | refine HSub_drop2 (by simp only [eq_self, hh_i4]) ?_ | refine HSub_keep_eq (by simp only [vsAll, ↓reduceIte, eq_self, reduceCtorEq, Nat.reduceEqDiff, hh_i4]) ?_))
  ·have ei : i = g.cw.length := by ((try clear hh_i4); omega)
   subst ei
   simp only [vsAll, opA, dstOk, nilSliceOp, resA, retA.eq_1, Nat.reduceLT, Nat.reduceEqDiff, Nat.reduceBEq, ↓reduceIte, eq_self, Try.results79]
   exact ⟨_, HSub_rfl, i4, hh_i4, rfl, rfl⟩
/-- The tables of all crews. -/
theorem tables_tri (g : Gg) (H : Hp) (k : OkG g) : PTri Try.prog (fnA 45) [gP g] H (tbsA g) := by
 refine Tri.thawX (R1 := fillR g H) ?_ fun r H' hr => ?_
 ·refine Tri.drop ?_
  refine tri_v0 (mset [2]) Try.func45 (by kernel_rfl) rfl (by simp only [List.length_append, List.length_cons, List.length_nil, Try.ntmps45]; decide) ?_
  simp only [vsAll, loadA, loadRow, partA, partOk, fieldAddrA, lenA, nilCheckA, cellA, cellsA, fillA, okParts, okAll, stAll, opsA, partsA, partsOk, opA, dstOk, argFr, Nat.reduceLT, Nat.reduceEqDiff, Nat.reduceBEq, ↓reduceIte, reduceCtorEq, eq_self, wtAll, Try.ntmps45, Go.V.nilA]
  intro i2 hh_i2; (try simp only [Hp.set_none, ite_none] at hh_i2)
  refine callK (filled_tri g _ k) ?_
  rintro r H' ⟨id, hid, rfl, rfl⟩
  simp only [Hp.set_none] at hid
  skip
  simp only [vsAll, opA, dstOk, nilSliceOp, resA, retA.eq_1, Nat.reduceLT, Nat.reduceBEq, ↓reduceIte, eq_self, Try.results45]
  exact ⟨H.set id (.row 32 g.cw.length (tbsF g)), by (repeat (first | exact HSub_rfl | refine HSub_put_eq (by simp only [vsAll, ↓reduceIte, eq_self]) ?_ | refine HSub_drop2 (by simp only [eq_self, hh_i2, hid]) ?_ | refine HSub_keep_eq (by simp only [vsAll, ↓reduceIte, eq_self, reduceCtorEq, Nat.reduceEqDiff, hh_i2, hid]) ?_)), id, hid.2, rfl, rfl⟩
 ·obtain ⟨id, hid, rfl, rfl⟩ := hr
  exact .inr ⟨_, tbsA g, id, 32, g.cw.length, tbsF g, rfl, .inr ⟨Hp.set_same _ _ _, .leaf ⟨rfl, tbsF g, fun _ _ => rfl, rfl⟩⟩, rfl, set_del hid⟩
end Go.Proofs.Ytdopkbldjagmlaa
end
section
set_option linter.unusedVariables false
set_option linter.unusedSimpArgs false
namespace Go.Proofs.Ytdopkbldjagmlaa
open Go.V
/-- An hour; never: 10000. -/
def dV (o : Option Int) : Int := o.getD 10000
def hrN (g : Gg) (f : Nat → Nat) : Nat → Int
 | 0 => 0
 | c + 1 => max (hrN g f c) (tabV g c (f c))
theorem dom_le {g : Gg} (k : OkG g) {f : Nat → Nat} {n : Nat} {m : Int} (hn : n ≤ g.cw.length) (hf : ∀ c, c < n → f c < 2 ^ g.N) (h : domN g f n = some m) : 0 ≤ m ∧ m ≤ 24 := by
 obtain ⟨h0, _, h1⟩ := domN_le n h
 rcases h1 with h1 | ⟨c, hc, h1⟩
 ·omega
 ·have := end_le k (by omega) (hf c hc) h1
  omega
theorem hr_dom {g : Gg} (k : OkG g) {f : Nat → Nat} : ∀ n, n ≤ g.cw.length → (∀ c, c < n → f c < 2 ^ g.N) → hrN g f n = dV (domN g f n)
 | 0, _, _ => rfl
 | n + 1, hn, hf => by
   have ih := hr_dom k n (by omega) fun c hc => hf c (by omega)
   have ht := tab_le k (c := n) (by omega) (hf n (by omega))
   simp only [hrN, domN, ih]
   cases h1 : domN g f n with
   | none =>
     show max (10000 : Int) _ = 10000
     omega
   | some a =>
     have := dom_le k (by omega) (fun c hc => hf c (by omega)) h1
     cases h2 : endO g n (f n) with
     | none =>
       have e : tabV g n (f n) = 10000 := by unfold tabV; rw [h2]; rfl
       rw [e]
       show max a 10000 = 10000
       omega
     | some b =>
       have e : tabV g n (f n) = b := by unfold tabV; rw [h2]; rfl
       rw [e]
       rfl
theorem crS_lt' {g : Gg} {l : List Int} (h : l.length ≤ g.N) (c : Nat) : crS l c < 2 ^ g.N := by
 have := crN_lt l c l.length
 exact Nat.lt_of_lt_of_le this (Nat.pow_le_pow_right (by decide) h)
theorem hr_domO {g : Gg} (k : OkG g) {l : List Int} (h : l.length ≤ g.N) : hrN g (crS l) g.cw.length = dV (domO g l) := hr_dom k _ (Nat.le_refl _) fun c _ => crS_lt' h c
theorem dO_le {g : Gg} (k : OkG g) {S C n : Nat} {b : List Int} (hb : b.length + n = g.N) {t : Int} (h : dO g S C n b = some t) : 0 ≤ t ∧ t ≤ 24 := by
 obtain ⟨l, h1, h2⟩ := (dO_min g S C n b).is t h
 obtain ⟨m, e, hm, _, hd⟩ := (mem_dls n b l).1 h1
 obtain ⟨x, hx⟩ := Option.isSome_iff_exists.1 hd
 have hl : l.length = g.N := by rw [e, List.length_append]; omega
 have := dom_le k (Nat.le_refl _) (fun c _ => crS_lt' (g := g) (Nat.le_of_eq hl) c) hx
 unfold domI at h2
 rw [hx] at h2
 simp only [Option.getD_some] at h2
 omega
theorem dV_le {g : Gg} (k : OkG g) {S C n : Nat} {b : List Int} (hb : b.length + n = g.N) : 0 ≤ dV (dO g S C n b) ∧ dV (dO g S C n b) ≤ 10000 ∧ (dV (dO g S C n b) < 10000 ↔ (dO g S C n b).isSome = true) := by
 cases h : dO g S C n b with
 | none => unfold dV; simp
 | some t =>
   have := dO_le k hb h
   show 0 ≤ t ∧ t ≤ 10000 ∧ (t < 10000 ↔ (some t).isSome = true)
   simp only [Option.isSome_some, iff_true]
   omega
theorem dP_le {g : Gg} {C : Nat} {f : Nat → Option Int} (hf : ∀ c t, f c = some t → 0 ≤ t ∧ t ≤ 24) : ∀ n t, dP g C f n = some t → 0 ≤ t ∧ t ≤ 24
 | 0, t, h => by cases h
 | n + 1, t, h => by
   simp only [dP] at h
   split at h
   ·cases h1 : dP g C f n with
    | none =>
      rw [h1] at h
      exact hf n t h
    | some a =>
      have ha := dP_le hf n a h1
      rw [h1] at h
      cases h2 : f n with
      | none => rw [h2] at h; simp only [comb, Option.some.injEq] at h; omega
      | some b =>
        have hb := hf n b h2
        rw [h2] at h
        simp only [comb, Option.some.injEq] at h
        omega
   ·exact dP_le hf n t h
theorem dP_step {g : Gg} {C : Nat} {f : Nat → Option Int} (hf : ∀ c t, f c = some t → 0 ≤ t ∧ t ≤ 24) (n : Nat) : dV (dP g C f (n + 1)) = if C.testBit n = true then min (dV (dP g C f n)) (dV (f n)) else dV (dP g C f n) := by
 simp only [dP]
 split
 ·cases h1 : dP g C f n with
  | none =>
    cases h2 : f n with
    | none => rfl
    | some b =>
      have := hf n b h2
      show b = min 10000 b
      omega
  | some a =>
    have ha := dP_le hf n a h1
    cases h2 : f n with
    | none => show a = min a 10000; omega
    | some b => rfl
 ·rfl
end Go.Proofs.Ytdopkbldjagmlaa
end
section
set_option linter.unusedVariables false
set_option linter.unusedSimpArgs false
set_option maxHeartbeats 1000000
set_option maxRecDepth 100000
namespace Go.Proofs.Ytdopkbldjagmlaa
open Go.V
theorem mapZ151 : mapZ Try.prog 151 = some (.int .i64 0) := by kernel_rfl
theorem und151 : Program.underlying Try.prog 151 = some (.map 153 3) := by kernel_rfl
theorem key153 : Maps.Keyed Try.prog 153 := Maps.Keyed.of_law (deep_law_laid (by kernel_rfl) (m := 10) (by decide) (by decide +kernel) (by kernel_rfl) (by kernel_rfl))
/-- A place, as a key. -/
abbrev pcV (s a b c : Int) : Value := .agg #[.int .i64 s, .int .u64 a, .int .u64 b, .int .u64 c]
abbrev pcU (b : List Int) : Value := pcV (b.length : Nat) (crS b 0 : Nat) (crS b 1 : Nat) (crS b 2 : Nat)
theorem pcK (s a b c : Int) (h0 : 0 ≤ s ∧ s ≤ 1000) (h1 : 0 ≤ a ∧ a ≤ 4096) (h2 : 0 ≤ b ∧ b ≤ 4096) (h3 : 0 ≤ c ∧ c ≤ 4096) : ∃ l, keyOf Try.prog 153 (pcV s a b c) = some l := by
 have hsz : Try.prog.types.size + 1 = (Try.prog.types.size - 2) + 3 := by
  have : 2 ≤ Try.prog.types.size := by decide +kernel
  omega
 have hsz2 : (Try.prog.fieldsOf 153).toList.length = 2 := by decide +kernel
 have hu : Program.underlying Try.prog 153 = some (.struct (Try.prog.fieldsOf 153)) := by kernel_rfl
 obtain ⟨f0, e0⟩ : ∃ f0, f0 = (Try.prog.fieldsOf 153).toList[0]'(by rw [hsz2]; decide) := ⟨_, rfl⟩
 obtain ⟨f1, e1⟩ : ∃ f1, f1 = (Try.prog.fieldsOf 153).toList[1]'(by rw [hsz2]; decide) := ⟨_, rfl⟩
 have hf : (Try.prog.fieldsOf 153).toList = [f0, f1] := by
  rw [e0, e1]
  generalize (Try.prog.fieldsOf 153).toList = L at hsz2 ⊢
  match L, hsz2 with
  | [x, y], _ => rfl
 have hn : f0.name ≠ "_" ∧ f1.name ≠ "_" := by
  have h : (Try.prog.fieldsOf 153).toList.map (fun f => decide (f.name ≠ "_")) = [true, true] := by decide +kernel
  rw [hf] at h
  simpa using h
 have t0 : f0.type = 3 := by rw [e0]; kernel_rfl
 have t1 : f1.type = 100 := by rw [e1]; kernel_rfl
 have o0 : f0.offset = 0 := by rw [e0]; kernel_rfl
 have o1 : f1.offset = 1 := by rw [e1]; kernel_rfl
 have k0 : Try.prog.keyLits (Try.prog.types.size - 2 + 2) f0.type [.int .i64 s] = some [.int .i64 s] := by
  rw [t0]; exact kl_int (by kernel_rfl) (wf_i64 (by simp only [InR_i64]; omega))
 have k1 : Try.prog.keyLits (Try.prog.types.size - 2 + 2) f1.type [.int .u64 a, .int .u64 b, .int .u64 c] = some [.int .u64 a, .int .u64 b, .int .u64 c] := by
  rw [t1]
  exact kl_arr3 (e := 92) (by kernel_rfl) (by kernel_rfl) (by kernel_rfl) (by kernel_rfl) (wf_u64 (by simp only [InR_u64]; omega)) (wf_u64 (by simp only [InR_u64]; omega)) (wf_u64 (by simp only [InR_u64]; omega))
 have hk := kl_two hu hf hn (r := [.int .u64 a, .int .u64 b, .int .u64 c]) (by kernel_rfl) ⟨o0, by rw [t0]; kernel_rfl⟩ ⟨o1, by rw [t1]; kernel_rfl⟩ k0 k1
 unfold keyOf
 rw [hu]
 have hg : (Try.prog.keyType 153 && (pcV s a b c).formed Try.prog 153) = true := by kernel_rfl
 simp only [hg, if_true, hsz, Value.cells, List.toList_toArray]
 rw [hk]
 exact ⟨_, rfl⟩
theorem crS32 {b : List Int} (h : b.length ≤ 5) (c : Nat) : crS b c < 32 := by
 have := crN_lt b c b.length
 exact Nat.lt_of_lt_of_le this (Nat.pow_le_pow_right (by decide) h)
theorem pcKU {b : List Int} (h : b.length ≤ 5) : ∃ l, keyOf Try.prog 153 (pcU b) = some l := by
 have h0 := crS32 h 0
 have h1 := crS32 h 1
 have h2 := crS32 h 2
 exact pcK _ _ _ _ (by omega) (by omega) (by omega) (by omega)
/-- What is kept of the hours. -/
def mmT (g : Gg) (S C : Nat) : Value → Value → Prop := fun k v => ∃ b : List Int, b.length ≤ g.N ∧ k = pcU b ∧ v = .int .i64 (dV (dO g S C (g.N - b.length) b))
theorem mmT_key {g : Gg} {S C : Nat} {k v : Value} (hN : g.N ≤ 5) (h : mmT g S C k v) : ∃ l, keyOf Try.prog 153 k = some l := by
 obtain ⟨b, hb, rfl, _⟩ := h
 exact pcKU (by omega)
def dlF (b : List Int) : Nat → List AV := fun i => [u64 (crS b i : Nat)]
theorem dlF_at (b : List Int) (i : Nat) : dlF b i = [u64 (crS b i : Nat)] := rfl
abbrev dlA (b : List Int) : AV := .arr 3 1 (dlF b)
abbrev deF (g : Gg) (S C i9 i10 : Nat) : AV := .func (.func 81) [] [ggA g, .rptr 1 1 (fun _ => [tbsA g]) 0 0, .rptr 1 1 (fun _ => [u64 (S : Nat)]) 0 0, .ref i10 0 1 0 0, .ref i9 0 1 0 0, .rptr 1 1 (fun _ => [u64 (C : Nat)]) 0 0]
theorem tab_drop (g : Gg) (c : Nat) {q : Nat} (h : q < 32) : List.take 1 (List.drop (q * 1) (tabC g c)) = [i64 (if q < 2 ^ g.N then tabV g c q else 0)] := by
 have hl := tabC_len g c
 have ha := tabC_at g c h
 rw [Nat.mul_one]
 rw [List.getD_eq_getElem?_getD, List.getElem?_eq_getElem (by omega), Option.getD_some] at ha
 rw [List.drop_eq_getElem_cons (by omega), ha]
 rfl
theorem de_tri {g : Gg} {S C i9 i10 im : Nat} (k : OkG g) (hS : S < 32) (hC : C < 32) :
  ∀ (n : Nat) (b : List Int) (H : Hp), b.length + n = g.N → H i9 = some (.box 1 1 fun _ => [.map im]) → H i10 = some (.box 1 1 fun _ => [deF g S C i9 i10]) → H im = some (.memo (mmT g S C)) →
    PTri Try.prog (deF g S C i9 i10) [i64 b.length, dlA b] H (i64 (dV (dO g S C n b))) := by
 have nS := k.nS
 have nC := k.nC
 have hN : g.N ≤ 5 := nS
 have hNe : g.N = g.sm.length := rfl
 intro n
 induction n with
 | zero =>
   intro b H hs h9 h10 hm
   have hb5 := fun c => crS32 (b := b) (by omega) c
   have hbN := fun c => crS_lt' (g := g) (l := b) (by omega) c
   have eh := hr_domO k (l := b) (by omega)
   rw [dO_zero, ← eh]
   have dt : decide ((b.length : Int) = (g.sm.length : Int)) = true := decide_eq_true (by omega)
   refine Tri.drop ?_
   refine tri_m (m := fun _ => false) Try.func81 (by kernel_rfl) rfl (by simp only [List.length_append, List.length_cons, List.length_nil, Try.ntmps81]; decide) ?_
   simp only [vsAll, binA, binLitA, intA, loadA, loadRow, partA, partOk, fieldAddrA, lenA, nilCheckA, boxA, boxZ, opA, dstOk, nilSliceOp, argFr, Nat.reduceLT, Nat.reduceEqDiff, ↓reduceIte, reduceCtorEq, eq_self, wtAll, Try.ntmps81, dt]
   refine vs_loop (σ := Nat) (fun i => i ≤ g.cw.length) (fun i => [(9, .rptr 3 1 (dlF b) 0 0), (11, i64 (hrN g (crS b) i)), (27, tbsA g), (28, i64 g.cw.length), (29, i64 i)]) (fun _ => H) (fun i => g.cw.length - i) 0 (Nat.zero_le _) ?_ HSub_rfl fun i hi => ?_
   ·simp only [vsAll, Nat.reduceEqDiff, ↓reduceIte, eq_self, Int.natCast_zero]
    exact AV.Le.refl _
   ·simp only [vsAll, binA, binLitA, intA, opA, dstOk, Nat.reduceLT, Nat.reduceEqDiff, ↓reduceIte, eq_self]
    refine condD (fun hd => ?_) (fun hd => ?_)
    ·have his : i < g.cw.length := by omega
     have htl := tab_le k his (hbN i)
     have h5 := hb5 i
     have etd : List.take 1 (List.drop (crS b i * 1) (tbsF g i)) = [i64 (tabV g i (crS b i))] := by rw [tab_drop g i (hb5 i), if_pos (hbN i)]
     simp only [vsAll, loadA, loadRow, partA, partOk, indexAddrA, cellA, cellsA, okParts, buildSliceA, partIdx, elemsA, lensA, okAll, stAll, opsA, partsA, partsOk, opA, allocA, storeObj, dstOk, nilSliceOp, Nat.reduceAdd, Nat.reduceMul, Nat.reduceLT, Nat.reduceLeDiff, Nat.reduceEqDiff, ↓reduceIte, eq_self, wtAll]
     refine ⟨⟨by omega, by omega⟩, by omega, ?_⟩
     intro i13 hh_i13; (try simp only [Hp.set_none, ite_none] at hh_i13)
     have hl2 := tabC_len g i
     have ok2 := tabC_ok g i
     simp only [vsAll, eq_self, dlF_at, etd]
     refine ⟨fun q hq => ?_, ⟨by ((try clear hh_i13); omega), by ((try clear hh_i13); omega)⟩, by ((try clear hh_i13); omega), ⟨by ((try clear hh_i13); omega), by ((try clear hh_i13); omega)⟩, by ((try clear hh_i13); omega), ?_⟩
     ·rw [tab_drop g i hq]
      exact ⟨rfl, trivial⟩
     refine callK_pure (later_tri (hrN g (crS b) i) (tabV g i (crS b i)) _) ?_
     simp only [vsAll, binA, binLitA, intA, opA, dstOk, nilSliceOp, Nat.reduceLT, Nat.reduceEqDiff, ↓reduceIte, eq_self]
     refine ⟨by simp only [InR_i64]; ((try clear hh_i13); omega), loop_next (i + 1) (by ((try clear hh_i13); omega)) (by ((try clear hh_i13); omega)) ?_ (by (repeat (first | exact HSub_rfl | refine HSub_put_eq (by simp only [vsAll, ↓reduceIte, eq_self, reduceCtorEq, Nat.reduceEqDiff, hh_i13]) ?_ | refine HSub_drop2 (by simp only [eq_self, hh_i13]) ?_ | refine HSub_keep_eq (by simp only [vsAll, ↓reduceIte, eq_self, reduceCtorEq, Nat.reduceEqDiff, hh_i13]) ?_)))⟩
     simp only [vsAll, Nat.reduceEqDiff, ↓reduceIte, eq_self, Int.natCast_add, Int.natCast_one]
     exact AV.Le.refl _
    ·have ei : i = g.cw.length := by omega
     subst ei
     simp only [vsAll, opA, dstOk, nilSliceOp, resA, retA.eq_1, Nat.reduceLT, Nat.reduceEqDiff, ↓reduceIte, eq_self, Try.results81]
     exact dropR_pure rfl HSub_rfl
 | succ n ih =>
   intro b H hs h9 h10 hm
   have df : decide ((b.length : Int) = (g.sm.length : Int)) = false := decide_eq_false (by omega)
   have el : ∀ x : Int, ((b ++ [x]).length : Int) = (b.length : Int) + 1 := fun x => by simp
   have earr : arrL (dlF b) 3 = [u64 (crS b 0 : Nat), u64 (crS b 1 : Nat), u64 (crS b 2 : Nat)] := rfl
   cases hbit : S.testBit b.length with
   | false =>
     have ed : dlF (b ++ [-1]) = dlF b := by
      funext c
      unfold dlF
      rw [crS_snoc, if_neg (by omega)]
     rw [dO_out hbit]
     refine Tri.drop ?_
     refine tri_m (m := fun _ => false) Try.func81 (by kernel_rfl) rfl (by simp only [List.length_append, List.length_cons, List.length_nil, Try.ntmps81]; decide) ?_
     skip
     simp only [vsAll, binA, binLitA, intA, loadA, loadRow, partA, partOk, fieldAddrA, lenA, nilCheckA, boxA, boxZ, okAll, stAll, opsA, opA, dstOk, nilSliceOp, argFr, Nat.reduceLT, Nat.reduceEqDiff, Int.reduceNeg, ↓reduceIte, reduceCtorEq, eq_self, wtAll, Try.ntmps81, df]
     refine callK_pure (has_tri S b.length _ (by ((try clear h9); (try clear h10); (try clear hm); omega)) (by ((try clear h9); (try clear h10); (try clear hm); omega))) ?_
     simp only [vsAll, binA, binLitA, intA, unA, loadA, loadRow, partA, partOk, okAll, stAll, opsA, opA, dstOk, argFr, Nat.reduceLT, Nat.reduceEqDiff, Int.reduceNeg, ↓reduceIte, reduceCtorEq, eq_self, wtAll, h10, hbit]
     have hx := ih (b ++ [-1]) H (by rw [List.length_append, List.length_cons, List.length_nil]; ((try clear h9); (try clear h10); (try clear hm); omega)) h9 h10 hm
     have hx2 : PTri Try.prog (deF g S C i9 i10) [i64 ((b.length : Int) + 1), .arr 3 1 (dlF b)] H (i64 (dV (dO g S C n (b ++ [-1])))) := by rw [← el (-1), ← ed]; exact hx
     refine ⟨by simp only [InR_i64]; ((try clear h9); (try clear h10); (try clear hm); omega), ?_⟩
     refine callK_pure hx2 ?_
     simp only [vsAll, opA, dstOk, nilSliceOp, resA, retA.eq_1, Nat.reduceLT, Int.reduceNeg, ↓reduceIte, eq_self, Try.results81]
     exact dropR_pure rfl HSub_rfl
   | true =>
     refine Tri.unpack hm fun es ck hes hpw => ?_
     have hkey : ∃ l, keyOf Try.prog 153 (pcU b) = some l := pcKU (by omega)
     obtain ⟨o, hfo, hst, hcase⟩ := found_of und151 key153 hkey (fun e he => mmT_key hN (hes e he)) hpw
     have hback : Go.V.HSub (H.set im (.raw (.map es ck))) H := HSub_set' hm (memo_le hes hpw)
     have n9 : ¬ i9 = im := fun q => by rw [q, hm] at h9; cases h9
     have n10 : ¬ i10 = im := fun q => by rw [q, hm] at h10; cases h10
     have n9' : ¬ im = i9 := fun q => n9 q.symm
     have n10' : ¬ im = i10 := fun q => n10 q.symm
     rw [dO_in hbit]
     refine Tri.drop ?_
     refine tri_m (m := fun _ => false) Try.func81 (by kernel_rfl) rfl (by simp only [List.length_append, List.length_cons, List.length_nil, Try.ntmps81]; decide) ?_
     skip
     simp only [vsAll, binA, binLitA, intA, loadA, loadRow, partA, partOk, fieldAddrA, lenA, nilCheckA, boxA, boxZ, okAll, stAll, opsA, opA, dstOk, nilSliceOp, argFr, Nat.reduceLT, Nat.reduceEqDiff, ↓reduceIte, reduceCtorEq, eq_self, wtAll, Try.ntmps81, df]
     refine callK_pure (has_tri S b.length _ (by ((try clear h9); (try clear h10); (try clear hm); (try clear n9); (try clear n10); (try clear n9'); (try clear n10'); omega)) (by ((try clear h9); (try clear h10); (try clear hm); (try clear n9); (try clear n10); (try clear n9'); (try clear n10'); omega))) ?_
     simp only [vsAll, unA, loadA, loadRow, partA, partOk, extractA, cellA, cellsA, fillA, okParts, partsA, partsOk, opA, lookA, dstOk, nilSliceOp, argFr, Nat.reduceAdd, Nat.reduceLT, Nat.reduceLeDiff, Nat.reduceEqDiff, ↓reduceIte, reduceCtorEq, eq_self, wtAll, h9, n9, hbit, mapZ151, earr]
     refine ⟨o, hfo _, ?_⟩
     rcases hcase with ⟨rfl, hno⟩ | ⟨j, en, rfl, hj, hkn⟩
     ·simp only [vsAll, loadA, loadRow, partA, partOk, lenA, opA, dstOk, nilSliceOp, argFr, Nat.reduceLT, Nat.reduceEqDiff, ↓reduceIte, eq_self, wtAll]
      have hfle : ∀ c t, dO g S C n (b ++ [(c : Int)]) = some t → 0 ≤ t ∧ t ≤ 24 := fun c t h => dO_le k (by rw [List.length_append, List.length_cons, List.length_nil]; ((try clear h9); (try clear h10); (try clear hm); (try clear n9); (try clear n10); (try clear n9'); (try clear n10'); omega)) h
      have hps := fun i => dP_step (g := g) (C := C) (f := fun c : Nat => dO g S C n (b ++ [(c : Int)])) (fun c t h => hfle c t h) i
      have hp0 : dV (dP g C (fun c : Nat => dO g S C n (b ++ [(c : Int)])) 0) = 10000 := rfl
      have hend := dO_in (g := g) (C := C) (n := n) hbit
      generalize hpv : dP g C (fun c : Nat => dO g S C n (b ++ [(c : Int)])) = pv at hps hp0 hend ⊢
      refine vs_loop (σ := Nat) (fun i => i ≤ g.cw.length) (fun i => [(0, i64 b.length), (5, .ref i10 0 1 0 0), (6, .ref i9 0 1 0 0), (7, .rptr 1 1 (fun _ => [u64 (C : Nat)]) 0 0), (9, .rptr 3 1 (dlF b) 0 0), (16, i64 (dV (pv i))), (64, i64 g.cw.length), (65, i64 i)]) (fun _ => H) (fun i => g.cw.length - i) 0 (Nat.zero_le _) ?_ hback fun i hi => ?_
      ·simp only [vsAll, argFr, Nat.reduceEqDiff, ↓reduceIte, reduceCtorEq, eq_self, Int.natCast_zero, hp0]
      ·simp only [vsAll, binA, binLitA, intA, opA, dstOk, Nat.reduceLT, Nat.reduceEqDiff, ↓reduceIte, reduceCtorEq, eq_self]
       refine condD (fun hd => ?_) (fun hd => ?_)
       ·have his : i < g.cw.length := by ((try clear h9); (try clear h10); (try clear hm); (try clear n9); (try clear n10); (try clear n9'); (try clear n10'); omega)
        have hst := hps i
        simp only [vsAll, loadA, loadRow, partA, partOk, okAll, stAll, opsA, opA, dstOk, nilSliceOp, Nat.reduceLT, Nat.reduceEqDiff, ↓reduceIte, reduceCtorEq, eq_self, wtAll]
        refine callK_pure (has_tri C i _ (by ((try clear h9); (try clear h10); (try clear hm); (try clear n9); (try clear n10); (try clear n9'); (try clear n10'); omega)) (by ((try clear h9); (try clear h10); (try clear hm); (try clear n9); (try clear n10); (try clear n9'); (try clear n10'); omega))) ?_
        simp only [vsAll, opA, ↓reduceIte, eq_self]
        refine condV (fun hc1 => ?_) (fun hc1 => ?_)
        ·rw [if_pos hc1] at hst
         have ed : updF 3 i (dlF b) [u64 ((crS b i ||| 2 ^ b.length : Nat) : Int)] = dlF (b ++ [(i : Int)]) := by
          funext c
          show (if c = i then _ else _) = _
          unfold dlF
          rw [crS_snoc]
          by_cases e : c = i
          ·subst e; rw [if_pos rfl, if_pos rfl]
          ·rw [if_neg e, if_neg (by ((try clear h9); (try clear h10); (try clear hm); (try clear n9); (try clear n10); (try clear n9'); (try clear n10'); omega))]
         have hb32 := crS32 (b := b) (by ((try clear h9); (try clear h10); (try clear hm); (try clear n9); (try clear n10); (try clear n9'); (try clear n10'); omega)) i
         simp only [vsAll, loadA, loadRow, partA, partOk, indexAddrA, okAll, stAll, opsA, opA, allocA, storeObj, dstOk, Nat.reduceMul, Nat.reduceLT, Nat.reduceEqDiff, ↓reduceIte, reduceCtorEq, eq_self, wtAll]
         intro i18 hh_i18; (try simp only [Hp.set_none, ite_none] at hh_i18)
         simp only [vsAll, cellA, okCells, implies_true, eq_self, dlF_at]
         have a1 := ne_some hh_i18 h9
         have a2 := ne_some hh_i18 h10
         have a3 := ne_some hh_i18 hm
         skip
         refine ⟨⟨by ((try clear h9); (try clear h10); (try clear hm); (try clear n9); (try clear n10); (try clear n9'); (try clear n10'); (try clear hh_i18); (try clear a1); (try clear a2); (try clear a3); omega), by ((try clear h9); (try clear h10); (try clear hm); (try clear n9); (try clear n10); (try clear n9'); (try clear n10'); (try clear hh_i18); (try clear a1); (try clear a2); (try clear a3); omega)⟩, by ((try clear h9); (try clear h10); (try clear hm); (try clear n9); (try clear n10); (try clear n9'); (try clear n10'); (try clear hh_i18); (try clear a1); (try clear a2); (try clear a3); omega), ?_⟩
         rw [Hp.set_set]
         refine callK_pure (with_tri (crS b i) b.length _ (by ((try clear h9); (try clear h10); (try clear hm); (try clear n9); (try clear n10); (try clear n9'); (try clear n10'); (try clear hh_i18); (try clear a1); (try clear a2); (try clear a3); omega)) (by ((try clear h9); (try clear h10); (try clear hm); (try clear n9); (try clear n10); (try clear n9'); (try clear n10'); (try clear hh_i18); (try clear a1); (try clear a2); (try clear a3); omega))) ?_
         simp only [vsAll, binA, binLitA, intA, loadA, loadRow, partA, partOk, indexAddrA, cellA, cellsA, okAll, stAll, opsA, opA, newCells, okCells, storeObj, dstOk, Nat.reduceLT, Nat.reduceEqDiff, ↓reduceIte, reduceCtorEq, eq_self, wtAll, h10, a2, dlF_at]
         rw [ed, Hp.set_set]
         refine ⟨⟨by ((try clear h9); (try clear h10); (try clear hm); (try clear n9); (try clear n10); (try clear n9'); (try clear n10'); (try clear hh_i18); (try clear a1); (try clear a2); (try clear a3); omega), by ((try clear h9); (try clear h10); (try clear hm); (try clear n9); (try clear n10); (try clear n9'); (try clear n10'); (try clear hh_i18); (try clear a1); (try clear a2); (try clear a3); omega)⟩, by ((try clear h9); (try clear h10); (try clear hm); (try clear n9); (try clear n10); (try clear n9'); (try clear n10'); (try clear hh_i18); (try clear a1); (try clear a2); (try clear a3); omega), by simp only [InR_i64]; ((try clear h9); (try clear h10); (try clear hm); (try clear n9); (try clear n10); (try clear n9'); (try clear n10'); (try clear hh_i18); (try clear a1); (try clear a2); (try clear a3); omega), ?_⟩
         have hx : ∀ X : Hp, X i9 = some (.box 1 1 fun _ => [.map im]) → X i10 = some (.box 1 1 fun _ => [deF g S C i9 i10]) → X im = some (.memo (mmT g S C)) → PTri Try.prog (deF g S C i9 i10) [i64 ((b.length : Int) + 1), .arr 3 1 (dlF (b ++ [(i : Int)]))] X (i64 (dV (dO g S C n (b ++ [(i : Int)])))) := fun X x1 x2 x3 => by
          rw [← el (i : Int)]
          exact ih (b ++ [(i : Int)]) X (by rw [List.length_append, List.length_cons, List.length_nil]; ((try clear h9); (try clear h10); (try clear hm); (try clear n9); (try clear n10); (try clear n9'); (try clear n10'); (try clear hh_i18); (try clear a1); (try clear a2); (try clear a3); omega)) x1 x2 x3
         have hpi : dO g S C n (b ++ [(i : Int)]) = dO g S C n (b ++ [(i : Int)]) := rfl
         refine callK_pure (hx _ (by simp only [vsAll, ↓reduceIte, eq_self, h9, a1]) (by simp only [vsAll, ↓reduceIte, eq_self, h10, a2]) (by simp only [vsAll, ↓reduceIte, eq_self, hm, a3])) ?_
         simp only [vsAll, binA, binLitA, intA, mmA, okAll, stAll, opsA, opA, dstOk, nilSliceOp, Nat.reduceLT, Nat.reduceEqDiff, ↓reduceIte, reduceCtorEq, eq_self]
         rw [← hst]
         refine ⟨by simp only [InR_i64]; ((try clear h9); (try clear h10); (try clear hm); (try clear n9); (try clear n10); (try clear n9'); (try clear n10'); (try clear hh_i18); (try clear a1); (try clear a2); (try clear a3); omega), loop_next (i + 1) (by ((try clear h9); (try clear h10); (try clear hm); (try clear n9); (try clear n10); (try clear n9'); (try clear n10'); (try clear hh_i18); (try clear a1); (try clear a2); (try clear a3); omega)) (by ((try clear h9); (try clear h10); (try clear hm); (try clear n9); (try clear n10); (try clear n9'); (try clear n10'); (try clear hh_i18); (try clear a1); (try clear a2); (try clear a3); omega)) ?_ (by (repeat (first | exact HSub_rfl | refine HSub_put_eq (by simp only [vsAll, ↓reduceIte, eq_self, reduceCtorEq, Nat.reduceEqDiff, h9, h10, hm, n9, n10, n9', n10', hh_i18, a1, a2, a3]) ?_ | refine HSub_drop2 (by simp only [eq_self, hh_i18]) ?_ | refine HSub_keep_eq (by simp only [vsAll, ↓reduceIte, eq_self, reduceCtorEq, Nat.reduceEqDiff, h9, h10, hm, n9, n10, n9', n10', hh_i18, a1, a2, a3]) ?_)))⟩
         simp only [vsAll, Nat.reduceEqDiff, ↓reduceIte, reduceCtorEq, eq_self, Int.natCast_add, Int.natCast_one]
        ·rw [if_neg (by rw [hc1]; decide)] at hst
         rw [← hst]
         simp only [vsAll, binA, binLitA, intA, opA, dstOk, Nat.reduceLT, Nat.reduceEqDiff, ↓reduceIte, reduceCtorEq, eq_self]
         refine ⟨by simp only [InR_i64]; ((try clear h9); (try clear h10); (try clear hm); (try clear n9); (try clear n10); (try clear n9'); (try clear n10'); omega), loop_next (i + 1) (by ((try clear h9); (try clear h10); (try clear hm); (try clear n9); (try clear n10); (try clear n9'); (try clear n10'); omega)) (by ((try clear h9); (try clear h10); (try clear hm); (try clear n9); (try clear n10); (try clear n9'); (try clear n10'); omega)) ?_ HSub_rfl⟩
         simp only [vsAll, Nat.reduceEqDiff, ↓reduceIte, reduceCtorEq, eq_self, Int.natCast_add, Int.natCast_one]
       ·have ei : i = g.cw.length := by ((try clear h9); (try clear h10); (try clear hm); (try clear n9); (try clear n10); (try clear n9'); (try clear n10'); omega)
        subst ei
        simp only [vsAll, loadA, loadRow, partA, partOk, cellA, cellsA, fillA, okParts, partsA, partsOk, opA, mapUpA, dstOk, nilSliceOp, resA, retA.eq_1, Nat.reduceAdd, Nat.reduceLT, Nat.reduceLeDiff, Nat.reduceEqDiff, ↓reduceIte, reduceCtorEq, eq_self, wtAll, Try.results81, h9, hm, earr]
        refine ⟨153, 3, und151, key153, hkey, fun q v h => mmT_key hN h, ⟨b, by ((try clear h9); (try clear h10); (try clear hm); (try clear n9); (try clear n10); (try clear n9'); (try clear n10'); omega), rfl, ?_⟩, dropR_pure rfl HSub_rfl⟩
        rw [show g.N - b.length = n + 1 by ((try clear h9); (try clear h10); (try clear hm); (try clear n9); (try clear n10); (try clear n9'); (try clear n10'); omega), hend]
     ·obtain ⟨b', h1, h2, h3⟩ := hes en (by
       have := Array.getElem?_eq_some_iff.1 hj
       obtain ⟨hl, rfl⟩ := this
       simp)
      have hval : en.val = .int .i64 (dV (dO g S C (n + 1) b)) := by
       rw [hkn] at h2
       simp only [pcU, pcV, Value.agg.injEq, Array.mk.injEq, List.cons.injEq, Value.int.injEq, true_and, and_true] at h2
       obtain ⟨q1, q2, q3, q4⟩ := h2
       have e1 : b'.length = b.length := by ((try clear h9); (try clear h10); (try clear hm); (try clear n9); (try clear n10); (try clear n9'); (try clear n10'); omega)
       rw [h3, e1, show g.N - b.length = n + 1 by ((try clear h9); (try clear h10); (try clear hm); (try clear n9); (try clear n10); (try clear n9'); (try clear n10'); omega), dO_congr (n + 1) b' b e1 fun c hc => ?_]
       have : c = 0 ∨ c = 1 ∨ c = 2 := by ((try clear h9); (try clear h10); (try clear hm); (try clear n9); (try clear n10); (try clear n9'); (try clear n10'); omega)
       rcases this with rfl | rfl | rfl <;> ((try clear h9); (try clear h10); (try clear hm); (try clear n9); (try clear n10); (try clear n9'); (try clear n10'); omega)
      rw [dO_in hbit] at hval
      simp only [vsAll, opA, dstOk, nilSliceOp, resA, retA.eq_1, Nat.reduceLT, Nat.reduceEqDiff, ↓reduceIte, eq_self, Try.results81, hval]
      exact dropR_pure rfl hback
end Go.Proofs.Ytdopkbldjagmlaa
end
section
set_option linter.unusedVariables false
set_option linter.unusedSimpArgs false
set_option maxHeartbeats 1000000
set_option maxRecDepth 100000
namespace Go.Proofs.Ytdopkbldjagmlaa
open Go.V
theorem azT96q : azT Try.prog 96 = some (1, 1, [.nilFunc]) := by kernel_rfl
theorem azT151q : azT Try.prog 151 = some (1, 1, [.map none]) := by kernel_rfl
/-- The heap behind what tells hours. -/
abbrev deH (g : Gg) (S C : Nat) (H : Hp) (im i9 i10 : Nat) : Hp :=
 ((H.set im (.memo (mmT g S C))).set i9 (.box 1 1 fun _ => [.map im])).set i10 (.box 1 1 fun _ => [deF g S C i9 i10])
def deR (g : Gg) (S C : Nat) (H : Hp) : Res → Hp → Prop := fun r H' =>
 ∃ i9 i10 im, r = .ret (deF g S C i9 i10) ∧ (H im = none ∧ H i9 = none ∧ H i10 = none) ∧ ((¬ i9 = im ∧ ¬ im = i9) ∧ (¬ i10 = im ∧ ¬ im = i10) ∧ ¬ i10 = i9 ∧ ¬ i9 = i10) ∧ H' = deH g S C H im i9 i10
theorem deals_tri (g : Gg) (S C : Nat) (H : Hp) : Tri Try.prog (fnA 49) [gP g, u64 (S : Nat), u64 (C : Nat), tbsA g] H (deR g S C H) := by
 refine Tri.drop ?_
 refine tri_v0 (fun _ => false) Try.func49 (by kernel_rfl) rfl (by simp only [List.length_append, List.length_cons, List.length_nil, Try.ntmps49]; decide) ?_
 simp only [vsAll, loadA, loadRow, partA, partOk, boxA, boxZ, cellA, cellsA, okAll, stAll, opsA, opA, allocA, newCells, okCells, storeObj, nM, dstOk, nilSliceOp, resA, argFr, retA.eq_1, Nat.reduceLT, Nat.reduceEqDiff, ↓reduceIte, eq_self, wtAll, Try.ntmps49, Try.results49, azT96q, azT151q]
 intro im hh_im; (try simp only [Hp.set_none, ite_none] at hh_im); intro i9 hh_i9; (try simp only [ite_none] at hh_i9); intro i10 hh_i10; (try simp only [ite_none] at hh_i10)
 rw [Hp.set_set, Hp.set_set]
 refine ⟨deH g S C H im i9 i10, HSub.set (HSub.set (HSub.set (HSub.refl _) (memo_le (by simp) (by simp))) (.refl _)) (.refl _), i9, i10, im, rfl, ?_, ?_, rfl⟩
 ·refine ⟨?_, ?_, ?_⟩ <;> simp_all
 ·refine ⟨⟨?_, ?_⟩, ⟨?_, ?_⟩, ?_, ?_⟩ <;> simp_all
theorem deH_sub {g : Gg} {S C : Nat} {H : Hp} {im i9 i10 : Nat} (h : H im = none ∧ H i9 = none ∧ H i10 = none) : Go.V.HSub (deH g S C H im i9 i10) H := fun q o hq => by
 have h1 : ¬ q = i10 := fun e => by rw [e, h.2.2] at hq; cases hq
 have h2 : ¬ q = i9 := fun e => by rw [e, h.2.1] at hq; cases hq
 have h3 : ¬ q = im := fun e => by rw [e, h.1] at hq; cases hq
 exact ⟨o, by rw [deH, Hp.set_ne _ _ h1, Hp.set_ne _ _ h2, Hp.set_ne _ _ h3]; exact hq, .refl _⟩
/-- The least hour, told by what was made; more may lie there. -/
theorem toldG_tri {g : Gg} {S C : Nat} {H : Hp} {im i9 i10 : Nat} (k : OkG g) (hS : S < 32) (hC : C < 32) (n : Nat) (b : List Int) (hn : b.length + n = g.N)
  (h9 : H i9 = some (.box 1 1 fun _ => [.map im])) (h10 : H i10 = some (.box 1 1 fun _ => [deF g S C i9 i10])) (hm : H im = some (.memo (mmT g S C))) :
  PTri Try.prog (deF g S C i9 i10) [i64 b.length, dlA b] H (i64 (dV (dO g S C n b))) := de_tri k hS hC n b H hn h9 h10 hm
theorem lt5 {C m : Nat} (h : C < 2 ^ m) (hm : m ≤ 5) : C < 32 := Nat.lt_of_lt_of_le h (Nat.pow_le_pow_right (by decide) hm)
theorem agg3 {f : Nat → List AV} {a b c : AV} (h0 : f 0 = [a]) (h1 : f 1 = [b]) (h2 : f 2 = [c]) : AV.Le (.agg [a, b, c]) (.arr 3 1 f) := by
 intro S v hv
 cases hv with
 | agg hn hh =>
   refine .arr hn (fun i hi => ?_) fun i j hi hj => ?_
   ·match i, hi with
    | 0, _ => rw [h0]; rfl
    | 1, _ => rw [h1]; rfl
    | 2, _ => rw [h2]; rfl
   ·have ej : j = 0 := by omega
    subst ej
    have := hh i hi
    match i, hi with
    | 0, _ => rw [h0]; exact this
    | 1, _ => rw [h1]; exact this
    | 2, _ => rw [h2]; exact this
/-- The least hour of all deals, told by what was made. -/
theorem told0_tri {g : Gg} {S C : Nat} {H X : Hp} {im i9 i10 : Nat} (k : OkG g) (hS : S < 32) (hC : C < 32)
  (hd : (¬ i9 = im ∧ ¬ im = i9) ∧ (¬ i10 = im ∧ ¬ im = i10) ∧ ¬ i10 = i9 ∧ ¬ i9 = i10) :
  PTri Try.prog (deF g S C i9 i10) [i64 0, .agg [u64 0, u64 0, u64 0]] (deH g S C H im i9 i10) (i64 (dV (dO g S C g.N []))) := by
 refine Tri.args (args' := [i64 ([] : List Int).length, dlA []]) (toldG_tri k hS hC g.N [] (Nat.zero_add _) (by rw [deH, Hp.set_ne _ _ hd.2.2.2, Hp.set_same]) (by rw [deH, Hp.set_same]) (by rw [deH, Hp.set_ne _ _ hd.2.1.2, Hp.set_ne _ _ hd.1.2, Hp.set_same])) rfl fun q hq => ?_
 match q, hq with
 | 0, _ => exact AV.Le.refl _
 | 1, _ => exact agg3 rfl rfl rfl
/-- Is there a deal for the crews of a set? -/
theorem enough1_tri (g : Gg) (s i1 i2 : Nat) (H : Hp) (k : OkG g) (hs : s < 32) (h1 : H i1 = some (.box 1 1 fun _ => [gP g])) (h2 : H i2 = some (.box 1 1 fun _ => [tbsA g])) :
  PTri Try.prog (.func (.func 74) [] [.ref i1 0 1 0 0, .ref i2 0 1 0 0]) [u64 (s : Nat)] H (boo (genB g s)) := by
 have nS := k.nS
 refine Tri.drop ?_
 refine tri_v0 (fun _ => false) Try.func74 (by kernel_rfl) rfl (by simp only [List.length_append, List.length_cons, List.length_nil, Try.ntmps74]; decide) ?_
 skip
 simp only [vsAll, opA, dstOk, nilSliceOp, Nat.reduceLT, eq_self, Try.ntmps74]
 refine vs_draw2 [0, 0, 0, 0, 0, 0, 0, 0, 0, 0, 1, 0, 3, 4, 4] [([0, 1, 2, 3, 4, 5, 6, 7, 8, 9, 11], [], 10), ([], [], 12)] [13, 14] (by decide +kernel) ?_
 simp only [vsAll, loadA, loadRow, partA, partOk, fieldAddrA, lenA, nilCheckA, opA, dstOk, argFr, Nat.reduceLT, Nat.reduceEqDiff, ↓reduceIte, eq_self, wtAll, h1]
 refine qcall _ ⟨trivial, by simp only [vsAll, okAll, opsA, opA, ↓reduceIte, eq_self], every_tri g.sm.length _ nS⟩ ?_
 simp only [vsAll, loadA, loadRow, partA, partOk, okParts, okAll, stAll, opsA, partsA, partsOk, opA, dstOk, argFr, Nat.reduceLT, Nat.reduceEqDiff, ↓reduceIte, reduceCtorEq, eq_self, wtAll, h2]
 refine callK (deals_tri g (2 ^ g.sm.length - 1) s _) ?_
 rintro r H' ⟨i9, i10, im, rfl, hfr, hd, rfl⟩
 simp only [vsAll, okAll, stAll, opsA, opA, dstOk, Nat.reduceLT, Nat.reduceEqDiff, ↓reduceIte, eq_self]
 have hb := dV_le k (S := 2 ^ g.sm.length - 1) (C := s) (n := g.N) (b := []) (Nat.zero_add _)
 have hF : g.F = 2 ^ g.sm.length - 1 := rfl
 have eg : decide (dV (dO g (2 ^ g.sm.length - 1) s g.N []) < 10000) = genB g s := by
  unfold genB
  rw [hF, Bool.eq_iff_iff, decide_eq_true_eq]
  exact hb.2.2
 have hF5 : 2 ^ g.sm.length - 1 < 32 := by
  have := Nat.pow_le_pow_right (n := 2) (by decide) nS
  ((try clear h1); (try clear h2); omega)
 refine callK_pure (told0_tri k hF5 hs hd (X := H)) ?_
 simp only [vsAll, binA, binLitA, intA, opA, dstOk, resA, retA.eq_1, Nat.reduceLT, ↓reduceIte, eq_self, Try.results74, eg]
 exact dropR_pure rfl (deH_sub hfr)
end Go.Proofs.Ytdopkbldjagmlaa
end
section
set_option linter.unusedVariables false
set_option linter.unusedSimpArgs false
set_option maxHeartbeats 1000000
set_option maxRecDepth 100000
namespace Go.Proofs.Ytdopkbldjagmlaa
open Go.V
theorem dec_castG (a b : Nat) (x : Bool) : (decide ((a : Int) = (b : Int)) && x) = (decide (a = b) && x) := by
 rw [show decide ((a : Int) = (b : Int)) = decide (a = b) from decide_eq_decide.2 (by omega)]
theorem gfew_tri (f : Nat → Bool) (m : Nat) (fv : AV) (H : Hp) (hm : m ≤ 5) (hok : fv.ok) (hst : fv.st = fv) (hf : ∀ j : Nat, j < 2 ^ m → PTri Try.prog fv [u64 j] H (boo (f j))) :
  PTri Try.prog (fnA 47) [i64 m, fv] H (.tuple [u64 ((fewV f m).getD 0 : Nat), boo (fewV f m).isSome]) := by
 have hp : 2 ^ m ≤ 2 ^ 5 := Nat.pow_le_pow_right (by decide) hm
 have hp0 : 0 < 2 ^ m := Nat.pow_pos (by decide)
 have ep : (1 : Int) * 2 ^ m = ((2 ^ m : Nat) : Int) := by rw [Int.one_mul]; simp
 refine tri_v0 (fun _ => false) Try.func47 (by kernel_rfl) rfl (by simp only [List.length_append, List.length_cons, List.length_nil, Try.ntmps47]; decide) ?_
 skip
 simp only [vsAll, binA, binLitA, intA, opA, dstOk, nilSliceOp, argFr, Nat.reduceLT, ↓reduceIte, reduceCtorEq, eq_self, Try.ntmps47]
 refine ⟨by simp only [InR_i64]; ((try clear hok); (try clear hst); omega), ?_⟩
 refine vs_loop (σ := Nat) (fun i => i ≤ m + 1 ∧ fewV f m = outF f m (m + 1 - i) i) (fun i => [(0, i64 m), (1, fv), (9, i64 ((m : Int) + 1)), (10, i64 i)]) (fun _ => H) (fun i => m + 1 - i) 0 ⟨by ((try clear hok); (try clear hst); omega), rfl⟩ ?_ (HSub.refl _) fun i hi => ?_
 ·simp only [vsAll, argFr, Nat.reduceEqDiff, ↓reduceIte, reduceCtorEq, eq_self, Int.natCast_zero]
 ·obtain ⟨hi, hv⟩ := hi
  simp only [vsAll, binA, binLitA, intA, opA, dstOk, Nat.reduceLT, Nat.reduceEqDiff, ↓reduceIte, reduceCtorEq, eq_self]
  refine condD (fun hd => ?_) (fun hd => ?_)
  ·rw [show m + 1 - i = (m - i) + 1 by ((try clear hok); (try clear hst); omega)] at hv
   simp only [vsAll, okAll, stAll, opsA, opA, dstOk, nilSliceOp, Nat.reduceLT, Nat.reduceEqDiff, ↓reduceIte, reduceCtorEq, eq_self]
   refine callK_pure (every_tri m _ hm) ?_
   have e15 : ((2 ^ m - 1 : Nat) : Int) + 1 = ((2 ^ m : Nat) : Int) := by ((try clear hok); (try clear hst); omega)
   simp only [vsAll, binA, binLitA, intA, opA, dstOk, Nat.reduceLT, ↓reduceIte, eq_self, e15]
   refine ⟨by simp only [InR_u64]; ((try clear hok); (try clear hst); omega), ?_⟩
   refine vs_loop (σ := Nat) (fun j => j ≤ 2 ^ m ∧ inn f i (2 ^ m) 0 = inn f i (2 ^ m - j) j) (fun j => [(0, i64 m), (1, fv), (6, i64 i), (9, i64 ((m : Int) + 1)), (10, i64 i), (15, u64 ((2 ^ m : Nat) : Int)), (16, u64 j)]) (fun _ => H) (fun j => 2 ^ m - j) 0 ⟨by ((try clear hok); (try clear hst); omega), rfl⟩ ?_ (HSub.refl _) fun j hj => ?_
   ·simp only [vsAll, Nat.reduceEqDiff, ↓reduceIte, reduceCtorEq, eq_self, Int.natCast_zero]
   ·obtain ⟨hj, hw⟩ := hj
    simp only [vsAll, binA, binLitA, intA, opA, dstOk, Nat.reduceLT, Nat.reduceEqDiff, ↓reduceIte, reduceCtorEq, eq_self]
    refine condD (fun hd2 => ?_) (fun hd2 => ?_)
    ·rw [show 2 ^ m - j = (2 ^ m - (j + 1)) + 1 by ((try clear hok); (try clear hst); omega), inn] at hw
     simp only [vsAll, okAll, stAll, opsA, opA, dstOk, nilSliceOp, Nat.reduceLT, Nat.reduceEqDiff, ↓reduceIte, reduceCtorEq, eq_self]
     refine callK_pure (ssize_tri j _ (by ((try clear hok); (try clear hst); omega))) ?_
     simp only [vsAll, binA, binLitA, intA, opA, guardV, dstOk, Nat.reduceLT, Nat.reduceEqDiff, ↓reduceIte, reduceCtorEq, implies_true, eq_self, hok, hst]
     refine gcall _ (fun g => ⟨by simp only [vsAll, opA, Nat.reduceEqDiff, ↓reduceIte, eq_self, g], by simp only [vsAll, okAll, opsA, opA, ↓reduceIte, eq_self, g], hf j (by ((try clear hok); (try clear hst); omega))⟩) ?_
     simp only [vsAll, pickA, opA, dstOk, Nat.reduceLT, Nat.reduceEqDiff, ↓reduceIte, implies_true, eq_self]
     rw [dec_castG]
     refine condV (fun hb => ?_) (fun hb => ?_)
     ·rw [hb, if_pos rfl] at hw
      have hr : fewV f m = some j := by rw [hv, outF, hw]
      simp only [vsAll, opA, dstOk, nilSliceOp, resA, retA.eq_2, Nat.reduceLT, Nat.reduceEqDiff, ↓reduceIte, eq_self, Try.results47, hr, Option.getD_some]
     ·rw [hb, if_neg (by decide)] at hw
      simp only [vsAll, binA, binLitA, intA, opA, dstOk, Nat.reduceLT, Nat.reduceEqDiff, ↓reduceIte, reduceCtorEq, eq_self]
      refine ⟨by simp only [InR_u64]; ((try clear hok); (try clear hst); omega), loop_next (j + 1) ⟨by ((try clear hok); (try clear hst); omega), hw⟩ (by ((try clear hok); (try clear hst); omega)) ?_ (HSub.refl _)⟩
      simp only [vsAll, Nat.reduceEqDiff, ↓reduceIte, reduceCtorEq, eq_self, Int.natCast_add, Int.natCast_one]
    ·have ej : j = 2 ^ m := by ((try clear hok); (try clear hst); omega)
     subst ej
     rw [Nat.sub_self, inn] at hw
     rw [outF, hw, show m - i = m + 1 - (i + 1) by ((try clear hok); (try clear hst); omega)] at hv
     simp only [] at hv
     simp only [vsAll, binA, binLitA, intA, opA, dstOk, Nat.reduceLT, Nat.reduceEqDiff, ↓reduceIte, reduceCtorEq, eq_self]
     refine ⟨by simp only [InR_i64]; ((try clear hok); (try clear hst); omega), loop_next (i + 1) ⟨by ((try clear hok); (try clear hst); omega), hv⟩ (by ((try clear hok); (try clear hst); omega)) ?_ (HSub.refl _)⟩
     simp only [vsAll, Nat.reduceEqDiff, ↓reduceIte, reduceCtorEq, eq_self, Int.natCast_add, Int.natCast_one]
  ·have ei : i = m + 1 := by ((try clear hok); (try clear hst); omega)
   subst ei
   rw [Nat.sub_self, outF] at hv
   simp only [vsAll, opA, dstOk, nilSliceOp, resA, retA.eq_2, Nat.reduceLT, Nat.reduceEqDiff, ↓reduceIte, eq_self, Try.results47, hv, Option.getD_none, Int.natCast_zero]
/-- Is there a deal without the seams of a set? -/
theorem leave1_tri (g : Gg) (s i1 i2 i3 : Nat) (H : Hp) (k : OkG g) (hs : s < 32) (h1 : H i1 = some (.box 1 1 fun _ => [gP g])) (h2 : H i2 = some (.box 1 1 fun _ => [u64 (g.F : Nat)])) (h3 : H i3 = some (.box 1 1 fun _ => [tbsA g])) :
  PTri Try.prog (.func (.func 48) [] [.ref i1 0 1 0 0, .ref i2 0 1 0 0, .ref i3 0 1 0 0]) [u64 (s : Nat)] H (boo (leaB g s)) := by
 have nS := k.nS
 have nC := k.nC
 have hF5 : g.F < 32 := by
  have := Nat.pow_le_pow_right (n := 2) (by decide) nS
  unfold Gg.F Gg.N
  omega
 have hA5 : g.A < 32 := by
  have := Nat.pow_le_pow_right (n := 2) (by decide) (show g.cw.length ≤ 5 by omega)
  unfold Gg.A
  omega
 have hd5 : dif g.F s < 32 := dif_lt (n := 5) hF5
 refine Tri.drop ?_
 refine tri_v0 (fun _ => false) Try.func48 (by kernel_rfl) rfl (by simp only [List.length_append, List.length_cons, List.length_nil, Try.ntmps48]; decide) ?_
 skip
 simp only [vsAll, opA, dstOk, nilSliceOp, Nat.reduceLT, eq_self, Try.ntmps48]
 refine vs_draw2 [0, 0, 0, 0, 0, 0, 0, 0, 0, 0, 0, 0, 1, 0, 3, 4, 4] [([0, 1, 2, 3, 4, 5, 6, 7, 8, 9, 10, 11, 13], [], 12), ([], [], 14)] [15, 16] (by decide +kernel) ?_
 simp only [vsAll, loadA, loadRow, partA, partOk, opA, dstOk, argFr, Nat.reduceLT, Nat.reduceEqDiff, ↓reduceIte, reduceCtorEq, eq_self, wtAll, h1, h2]
 refine qcall _ ⟨trivial, by simp only [vsAll, okAll, opsA, opA, Nat.reduceEqDiff, ↓reduceIte, eq_self], without_tri g.F s _ (by ((try clear h1); (try clear h2); (try clear h3); omega)) (by ((try clear h1); (try clear h2); (try clear h3); omega))⟩ ?_
 simp only [vsAll, loadA, loadRow, partA, partOk, fieldAddrA, lenA, nilCheckA, opA, dstOk, argFr, Nat.reduceLT, Nat.reduceEqDiff, ↓reduceIte, eq_self, wtAll, h1]
 refine qcall _ ⟨trivial, by simp only [vsAll, okAll, opsA, opA, ↓reduceIte, eq_self], every_tri g.cw.length _ (by ((try clear h1); (try clear h2); (try clear h3); omega))⟩ ?_
 have eA : 2 ^ g.cw.length - 1 = g.A := rfl
 rw [eA]
 simp only [vsAll, loadA, loadRow, partA, partOk, okParts, okAll, stAll, opsA, partsA, partsOk, opA, dstOk, argFr, Nat.reduceLT, Nat.reduceEqDiff, ↓reduceIte, eq_self, wtAll, h3]
 refine callK (deals_tri g (dif g.F s) g.A _) ?_
 rintro r H' ⟨i9, i10, im, rfl, hfr, hd, rfl⟩
 simp only [vsAll, okAll, stAll, opsA, opA, dstOk, Nat.reduceLT, Nat.reduceEqDiff, ↓reduceIte, eq_self]
 have hb := dV_le k (S := dif g.F s) (C := g.A) (n := g.N) (b := []) (Nat.zero_add _)
 have eg : decide (dV (dO g (dif g.F s) g.A g.N []) < 10000) = leaB g s := by
  unfold leaB
  rw [Bool.eq_iff_iff, decide_eq_true_eq]
  exact hb.2.2
 refine callK_pure (told0_tri k hd5 hA5 hd (X := H)) ?_
 simp only [vsAll, binA, binLitA, intA, opA, dstOk, resA, retA.eq_1, Nat.reduceLT, ↓reduceIte, eq_self, Try.results48, eg]
 exact dropR_pure rfl (deH_sub hfr)
end Go.Proofs.Ytdopkbldjagmlaa
end
section
set_option linter.unusedVariables false
set_option linter.unusedSimpArgs false
namespace Go.Proofs.Ytdopkbldjagmlaa
open Go.V
theorem dP_ex {g : Gg} {C : Nat} {f : Nat → Option Int} {m : Int} : ∀ n, dP g C f n = some m → ∃ c, c < n ∧ f c = some m
 | 0, h => by cases h
 | n + 1, h => by
   simp only [dP] at h
   split at h
   ·cases h1 : dP g C f n with
    | none =>
      rw [h1] at h
      exact ⟨n, Nat.lt_succ_self n, h⟩
    | some a =>
      rw [h1] at h
      cases h2 : f n with
      | none =>
        rw [h2] at h
        simp only [comb, Option.some.injEq] at h
        subst h
        obtain ⟨c, hc, e⟩ := dP_ex n h1
        exact ⟨c, by omega, e⟩
      | some b =>
        rw [h2] at h
        simp only [comb, Option.some.injEq] at h
        by_cases e : a ≤ b
        ·rw [Int.min_eq_left e] at h
         subst h
         obtain ⟨c, hc, e⟩ := dP_ex n h1
         exact ⟨c, by omega, e⟩
        ·rw [Int.min_eq_right (by omega)] at h
         subst h
         exact ⟨n, Nat.lt_succ_self n, h2⟩
   ·obtain ⟨c, hc, e⟩ := dP_ex n h
    exact ⟨c, by omega, e⟩
theorem grd_ex {g : Gg} {m : Int} {n : Nat} {b : List Int} (hb : b.length < g.N) (h : dO g g.F g.A (n + 1) b = some m) : ∃ c, c < g.cw.length ∧ dO g g.F g.A n (b ++ [(c : Int)]) = some m := by
 rw [dO_in (F_bit g hb)] at h
 exact dP_ex _ h
theorem grd_hit {g : Gg} {m : Int} {n c : Nat} {b : List Int} (hc : c < g.cw.length) (h : dO g g.F g.A n (b ++ [(c : Int)]) = some m) (hn : ∀ d, d < c → ¬ dO g g.F g.A n (b ++ [(d : Int)]) = some m) :
  grdD g m (n + 1) b = grdD g m n (b ++ [(c : Int)]) := by
 have e : (List.range g.cw.length).find? (fun c : Nat => decide (dO g g.F g.A n (b ++ [(c : Int)]) = some m)) = some c := by
  rw [List.find?_range_eq_some]
  exact ⟨by simpa using h, List.mem_range.2 hc, fun j hj => by simpa using hn j hj⟩
 simp only [grdD]
 rw [e]
theorem dV_eq {g : Gg} (k : OkG g) {S C n : Nat} {b : List Int} (hb : b.length + n = g.N) {m : Int} (hm : m < 10000) : dV (dO g S C n b) = m ↔ dO g S C n b = some m := by
 cases h : dO g S C n b with
 | none =>
   show (10000 : Int) = m ↔ none = some m
   constructor
   ·intro e; omega
   ·intro e; cases e
 | some t =>
   show t = m ↔ some t = some m
   rw [Option.some.injEq]
end Go.Proofs.Ytdopkbldjagmlaa
end
section
set_option linter.unusedVariables false
set_option linter.unusedSimpArgs false
set_option maxHeartbeats 2000000
set_option maxRecDepth 100000
namespace Go.Proofs.Ytdopkbldjagmlaa
open Go.V
def dealE (g : Gg) : Int := if errG g true = 0 then if (dO g g.F g.A g.N []).isSome = true then 0 else 4 else errG g true
def dealH (g : Gg) : Int := if dealE g = 0 then dV (dO g g.F g.A g.N []) else 0
def dealL (g : Gg) : List Int := if dealE g = 0 then grdD g (dealH g) g.N [] else []
def dealR (g : Gg) (H : Hp) : Res → Hp → Prop := fun r H' => (¬ dealE g = 0 ∧ r = .ret (.tuple [i64 0, .lit (.slice none 0 0), i64 (dealE g)]) ∧ H' = H) ∨
 dealE g = 0 ∧ ∃ id, H id = none ∧ r = .ret (.tuple [i64 (dealH g), .sl id 1 (dealL g).length, i64 0]) ∧ H' = H.set id (.row 1 (dealL g).length (intF (dealL g)))
theorem hsub_none {A B : Hp} {i : Nat} (h : Go.V.HSub A B) (ha : A i = none) : B i = none := by
 cases hb : B i with
 | none => rfl
 | some o =>
   obtain ⟨o', q, _⟩ := h i o hb
   rw [ha] at q
   cases q
theorem wdealM_tri (g : Gg) (H : Hp) (kn : NearG g) : Tri Try.prog (fnA 28) [g.av] H (dealR g H) := by
 refine Tri.drop ?_
 refine tri_am (m := mset [9]) gans Try.func28 (by kernel_rfl) rfl (by simp only [List.length_append, List.length_cons, List.length_nil, Try.ntmps28]; decide) ?_
 simp only [vsAll, loadA, loadRow, partA, partOk, boxA, boxZ, okAll, stAll, opsA, opA, allocA, dstOk, nilSliceOp, argFr, Nat.reduceAdd, Nat.reduceLT, Nat.reduceEqDiff, Nat.reduceBEq, ↓reduceIte, eq_self, wtAll, Try.ntmps28]
 intro i4 hh_i4; (try simp only [Hp.set_none, ite_none] at hh_i4)
 refine gopen_call (openG_tri g _ true _ kn trivial rfl (fun k H' id ho => galways_tri (.ref id 0 8 0 0) H' id)) (fun he => ?_) (fun k hv => ?_)
 ·have e : dealE g = errG g true := if_neg he
  simp only [vsAll, loadA, loadRow, partA, partOk, resA, retA.eq_2, Nat.reduceEqDiff, ↓reduceIte, eq_self, wtAll, Try.results28]
  refine ⟨errG g true, i4, _, rfl, rfl, by simp only [↓reduceIte, eq_self]; try rfl, ?_⟩
  simp only [vsAll, Nat.reduceLT, ↓reduceIte, eq_self]
  refine ⟨H, by (repeat (first | exact HSub_rfl | refine HSub_put_eq (by simp only [vsAll, ↓reduceIte, eq_self, reduceCtorEq, Nat.reduceEqDiff, hh_i4]) ?_ | refine HSub_drop2 (by simp only [eq_self, hh_i4]) ?_ | refine HSub_keep_eq (by simp only [vsAll, ↓reduceIte, eq_self, reduceCtorEq, Nat.reduceEqDiff, hh_i4]) ?_)), .inl ⟨by rw [e]; exact he, ?_, rfl⟩⟩
  rw [e]
 ·have he : errG g true = 0 := errG_ok k
  have nC := k.nC
  have nS := k.nS
  have hN : g.N ≤ 5 := nS
  have hNe : g.sm.length = g.N := rfl
  have hF5 : g.F < 32 := by
   have := Nat.pow_le_pow_right (n := 2) (by decide) nS
   unfold Gg.F Gg.N
   ((try clear hh_i4); omega)
  have hA5 : g.A < 32 := by
   have := Nat.pow_le_pow_right (n := 2) (by decide) (show g.cw.length ≤ 5 by ((try clear hh_i4); omega))
   unfold Gg.A
   ((try clear hh_i4); omega)
  have eF : 2 ^ g.sm.length - 1 = g.F := rfl
  have eA : 2 ^ g.cw.length - 1 = g.A := rfl
  simp only [vsAll, opA, dstOk, nilSliceOp, Nat.reduceLT, Nat.reduceBEq, ↓reduceIte, eq_self]
  refine vs_draw2 [0, 0, 0, 0, 0, 0, 0, 0, 0, 0, 0, 0, 0, 0, 0, 0, 0, 1, 2] [([0, 1, 2, 3, 4, 5, 6, 7, 8, 9, 10, 11, 12, 13, 14, 15, 16], [], 17)] [18] (by decide +kernel) ?_
  simp only [vsAll, loadA, loadRow, partA, partOk, fieldAddrA, lenA, nilCheckA, opA, dstOk, Nat.reduceLT, Nat.reduceEqDiff, ↓reduceIte, eq_self, wtAll]
  refine qcall _ ⟨trivial, by simp only [vsAll, okAll, opsA, opA, ↓reduceIte, eq_self], every_tri g.sm.length _ nS⟩ ?_
  simp only [vsAll, loadA, loadRow, partA, partOk, fieldAddrA, lenA, nilCheckA, opA, dstOk, Nat.reduceLT, Nat.reduceEqDiff, ↓reduceIte, eq_self, wtAll]
  refine qcall _ ⟨trivial, by simp only [vsAll, okAll, opsA, opA, ↓reduceIte, eq_self], every_tri g.cw.length _ (by ((try clear hh_i4); omega))⟩ ?_
  simp only [vsAll, opA, dstOk, Nat.reduceLT, Nat.reduceEqDiff, ↓reduceIte, eq_self]
  refine qcall _ ⟨trivial, by simp only [vsAll, okAll, opsA, opA, ↓reduceIte, eq_self], tables_tri g _ k⟩ ?_
  rw [eF, eA]
  simp only [vsAll, okAll, stAll, opsA, opA, dstOk, Nat.reduceLT, Nat.reduceEqDiff, ↓reduceIte, eq_self]
  refine callK (deals_tri g g.F g.A _) ?_
  rintro r H' ⟨j9, j10, im, rfl, hfr, hd, rfl⟩
  have h0t := told0_tri (H := H.set i4 (.box 1 1 fun _ => [i64 0])) k hF5 hA5 hd (X := H)
  have hsub := deH_sub (g := g) (S := g.F) (C := g.A) hfr
  have h9 : deH g g.F g.A (H.set i4 (.box 1 1 fun _ => [i64 0])) im j9 j10 j9 = some (.box 1 1 fun _ => [.map im]) := by rw [deH, Hp.set_ne _ _ hd.2.2.2, Hp.set_same]
  have h10 : deH g g.F g.A (H.set i4 (.box 1 1 fun _ => [i64 0])) im j9 j10 j10 = some (.box 1 1 fun _ => [deF g g.F g.A j9 j10]) := by rw [deH, Hp.set_same]
  have hm : deH g g.F g.A (H.set i4 (.box 1 1 fun _ => [i64 0])) im j9 j10 im = some (.memo (mmT g g.F g.A)) := by rw [deH, Hp.set_ne _ _ hd.2.1.2, Hp.set_ne _ _ hd.1.2, Hp.set_same]
  have h4 : deH g g.F g.A (H.set i4 (.box 1 1 fun _ => [i64 0])) im j9 j10 i4 = some (.box 1 1 fun _ => [i64 0]) := by
   have n1 := ne_some hfr.2.2 (Hp.set_same H i4 (.box 1 1 fun _ => [i64 0]))
   have n2 := ne_some hfr.2.1 (Hp.set_same H i4 (.box 1 1 fun _ => [i64 0]))
   have n3 := ne_some hfr.1 (Hp.set_same H i4 (.box 1 1 fun _ => [i64 0]))
   rw [deH, Hp.set_ne _ _ n1.2, Hp.set_ne _ _ n2.2, Hp.set_ne _ _ n3.2, Hp.set_same]
  have hsubH := Go.V.HSub.trans hsub (HSub_drop2 hh_i4 HSub_rfl)
  generalize deH g g.F g.A (H.set i4 (.box 1 1 fun _ => [i64 0])) im j9 j10 = X at h0t hsub h9 h10 hm h4 hsubH ⊢
  skip
  simp only [vsAll, loadA, loadRow, okAll, stAll, opsA, opA, allocA, dstOk, Nat.reduceLT, Nat.reduceEqDiff, ↓reduceIte, eq_self, wtAll]
  intro i7 hh_i7; (try simp only [Hp.set_none, ite_none] at hh_i7)
  have a1 := ne_some hh_i7 h9
  have a2 := ne_some hh_i7 h10
  have a3 := ne_some hh_i7 hm
  have a4 := ne_some hh_i7 h4
  have hn7 : H i7 = none := hsub_none hsubH hh_i7
  skip
  refine callK_pure (toldG_tri (im := im) (i9 := j9) (i10 := j10) k hF5 hA5 g.N [] (Nat.zero_add _) (by simp only [vsAll, ↓reduceIte, eq_self, h9, a1]) (by simp only [vsAll, ↓reduceIte, eq_self, h10, a2]) (by simp only [vsAll, ↓reduceIte, eq_self, hm, a3])) ?_
  have hdv := dV_le k (S := g.F) (C := g.A) (n := g.N) (b := []) (Nat.zero_add _)
  simp only [vsAll, binA, binLitA, intA, okAll, stAll, opsA, opA, dstOk, nilSliceOp, Nat.reduceLT, Nat.reduceBEq, ↓reduceIte, eq_self]
  refine gask_call (fun hr => ?_) (fun hr => ?_)
  ·rw [decide_eq_true_eq] at hr
   have hs := hdv.2.2.1 hr
   have hE : dealE g = 0 := by unfold dealE; rw [if_pos he, if_pos hs]
   have hH : dealH g = dV (dO g g.F g.A g.N []) := if_pos hE
   have hL : dealL g = grdD g (dealH g) g.N [] := if_pos hE
   obtain ⟨m, hmm⟩ := Option.isSome_iff_exists.1 hs
   have hV : dV (dO g g.F g.A g.N []) = m := by rw [hmm]; rfl
   rw [hV] at hdv hH hr
   simp only [vsAll, loadA, loadRow, partA, partOk, fieldAddrA, lenA, nilCheckA, opA, dstOk, Nat.reduceLT, Nat.reduceEqDiff, Nat.reduceBEq, ↓reduceIte, eq_self, wtAll, Go.V.nilA, hV]
   intro i9 hh_i9; (try simp only [ite_none] at hh_i9)
   have b1 := ne_some hh_i9.2 h9
   have b2 := ne_some hh_i9.2 h10
   have b3 := ne_some hh_i9.2 hm
   have b4 := ne_some hh_i9.2 h4
   have hn9 : H i9 = none := hsub_none hsubH hh_i9.2
   skip
   refine vs_loop (σ := List Int) (fun b => b.length ≤ g.N ∧ dO g g.F g.A (g.N - b.length) b = some m ∧ grdD g m (g.N - b.length) b = grdD g m g.N []) (fun b => [(4, .ref i4 0 1 0 0), (5, gP g), (6, deF g g.F g.A j9 j10), (7, .ref i7 0 1 0 0), (8, i64 m), (9, .sl i9 1 b.length), (44, i64 g.N), (45, i64 b.length)]) (fun b => (X.set i7 (.box 1 3 (dlF b))).set i9 (.row 1 b.length (intF b))) (fun b => g.N - b.length) [] ⟨Nat.zero_le _, hmm, rfl⟩ ?_ ?_ fun b hb => ?_
   ·simp only [vsAll, Nat.reduceEqDiff, ↓reduceIte, eq_self, hNe, Int.natCast_zero]
   ·refine HSub_put (o' := .row 1 0 fun _ => []) (by simp only [vsAll, ↓reduceIte, eq_self]) (row0_le _ _ _) ?_
    refine HSub_put (o' := .box 1 3 fun _ => [u64 0]) (by simp only [vsAll, ↓reduceIte, eq_self, hh_i9]) (box_ext fun q _ => rfl) ?_
    exact HSub_drop2 hh_i9.2 (HSub_drop2 hh_i7 HSub_rfl)
   ·obtain ⟨hb1, hb2, hb3⟩ := hb
    simp only [vsAll, binA, binLitA, intA, opA, dstOk, Nat.reduceLT, Nat.reduceEqDiff, ↓reduceIte, eq_self]
    refine condD (fun hd1 => ?_) (fun hd1 => ?_)
    ·have hbs : b.length < g.N := by ((try clear hh_i4); (try clear h9); (try clear h10); (try clear hm); (try clear h4); (try clear hh_i7); (try clear a1); (try clear a2); (try clear a3); (try clear a4); (try clear hh_i9); (try clear b1); (try clear b2); (try clear b3); (try clear b4); omega)
     obtain ⟨n, hn⟩ : ∃ n, g.N - b.length = n + 1 := ⟨g.N - b.length - 1, by ((try clear hh_i4); (try clear h9); (try clear h10); (try clear hm); (try clear h4); (try clear hh_i7); (try clear a1); (try clear a2); (try clear a3); (try clear a4); (try clear hh_i9); (try clear b1); (try clear b2); (try clear b3); (try clear b4); omega)⟩
     rw [hn] at hb2 hb3
     simp only [vsAll, loadA, loadRow, partA, partOk, fieldAddrA, lenA, nilCheckA, opA, dstOk, nilSliceOp, Nat.reduceLT, Nat.reduceEqDiff, Nat.reduceBEq, ↓reduceIte, eq_self, wtAll]
     refine vs_loop (σ := Nat) (fun j => j ≤ g.cw.length ∧ ∀ d, d < j → ¬ dO g g.F g.A n (b ++ [(d : Int)]) = some m) (fun j => [(4, .ref i4 0 1 0 0), (5, gP g), (6, deF g g.F g.A j9 j10), (7, .ref i7 0 1 0 0), (8, i64 m), (9, .sl i9 1 b.length), (10, i64 b.length), (44, i64 g.N), (45, i64 b.length), (53, i64 g.cw.length), (54, i64 j)]) (fun _ => (X.set i7 (.box 1 3 (dlF b))).set i9 (.row 1 b.length (intF b))) (fun j => g.cw.length - j) 0 ⟨Nat.zero_le _, fun d hd => absurd hd (Nat.not_lt_zero d)⟩ ?_ HSub_rfl fun j hj => ?_
     ·simp only [vsAll, Nat.reduceEqDiff, ↓reduceIte, eq_self, Int.natCast_zero]
     ·obtain ⟨hj1, hj2⟩ := hj
      simp only [vsAll, binA, binLitA, intA, opA, dstOk, Nat.reduceLT, Nat.reduceEqDiff, ↓reduceIte, eq_self]
      refine condD (fun hd2 => ?_) (fun hd2 => ?_)
      ·have hjs : j < g.cw.length := by ((try clear hh_i4); (try clear h9); (try clear h10); (try clear hm); (try clear h4); (try clear hh_i7); (try clear a1); (try clear a2); (try clear a3); (try clear a4); (try clear hh_i9); (try clear b1); (try clear b2); (try clear b3); (try clear b4); omega)
       have hb32 := crS32 (b := b) (by ((try clear hh_i4); (try clear h9); (try clear h10); (try clear hm); (try clear h4); (try clear hh_i7); (try clear a1); (try clear a2); (try clear a3); (try clear a4); (try clear hh_i9); (try clear b1); (try clear b2); (try clear b3); (try clear b4); omega)) j
       have ed : updF 3 j (dlF b) [u64 ((crS b j ||| 2 ^ b.length : Nat) : Int)] = dlF (b ++ [(j : Int)]) := by
        funext c
        show (if c = j then _ else _) = _
        unfold dlF
        rw [crS_snoc]
        by_cases e : c = j
        ·subst e; rw [if_pos rfl, if_pos rfl]
        ·rw [if_neg e, if_neg (by ((try clear hh_i4); (try clear h9); (try clear h10); (try clear hm); (try clear h4); (try clear hh_i7); (try clear a1); (try clear a2); (try clear a3); (try clear a4); (try clear hh_i9); (try clear b1); (try clear b2); (try clear b3); (try clear b4); omega))]
       have el : ((b ++ [(j : Int)]).length : Int) = (b.length : Int) + 1 := by simp
       have htl := fun Y => toldG_tri (im := im) (i9 := j9) (i10 := j10) (H := Y) k hF5 hA5 n (b ++ [(j : Int)]) (by rw [List.length_append, List.length_cons, List.length_nil]; ((try clear hh_i4); (try clear h9); (try clear h10); (try clear hm); (try clear h4); (try clear hh_i7); (try clear a1); (try clear a2); (try clear a3); (try clear a4); (try clear hh_i9); (try clear b1); (try clear b2); (try clear b3); (try clear b4); omega))
       rw [el] at htl
       have hde := dV_eq k (S := g.F) (C := g.A) (n := n) (b := b ++ [(j : Int)]) (by rw [List.length_append, List.length_cons, List.length_nil]; ((try clear hh_i4); (try clear h9); (try clear h10); (try clear hm); (try clear h4); (try clear hh_i7); (try clear a1); (try clear a2); (try clear a3); (try clear a4); (try clear hh_i9); (try clear b1); (try clear b2); (try clear b3); (try clear b4); omega)) hr
       simp only [vsAll, loadA, loadRow, partA, partOk, indexAddrA, okAll, stAll, opsA, opA, allocA, storeObj, dstOk, nilSliceOp, Nat.reduceMul, Nat.reduceLT, Nat.reduceEqDiff, Nat.reduceBEq, ↓reduceIte, eq_self, wtAll, hh_i9]
       intro i12 hh_i12; (try simp only [ite_none] at hh_i12)
       simp only [vsAll, cellA, okCells, implies_true, eq_self, dlF_at]
       have c1 := ne_some hh_i12.2.2 h9
       have c2 := ne_some hh_i12.2.2 h10
       have c3 := ne_some hh_i12.2.2 hm
       have c4 := ne_some hh_i12.2.2 h4
       skip
       refine ⟨⟨by ((try clear hh_i4); (try clear h9); (try clear h10); (try clear hm); (try clear h4); (try clear hh_i7); (try clear a1); (try clear a2); (try clear a3); (try clear a4); (try clear hh_i9); (try clear b1); (try clear b2); (try clear b3); (try clear b4); (try clear hh_i12); (try clear c1); (try clear c2); (try clear c3); (try clear c4); omega), by ((try clear hh_i4); (try clear h9); (try clear h10); (try clear hm); (try clear h4); (try clear hh_i7); (try clear a1); (try clear a2); (try clear a3); (try clear a4); (try clear hh_i9); (try clear b1); (try clear b2); (try clear b3); (try clear b4); (try clear hh_i12); (try clear c1); (try clear c2); (try clear c3); (try clear c4); omega)⟩, by ((try clear hh_i4); (try clear h9); (try clear h10); (try clear hm); (try clear h4); (try clear hh_i7); (try clear a1); (try clear a2); (try clear a3); (try clear a4); (try clear hh_i9); (try clear b1); (try clear b2); (try clear b3); (try clear b4); (try clear hh_i12); (try clear c1); (try clear c2); (try clear c3); (try clear c4); omega), ?_⟩
       refine callK_pure (with_tri (crS b j) b.length _ (by ((try clear hh_i4); (try clear h9); (try clear h10); (try clear hm); (try clear h4); (try clear hh_i7); (try clear a1); (try clear a2); (try clear a3); (try clear a4); (try clear hh_i9); (try clear b1); (try clear b2); (try clear b3); (try clear b4); (try clear hh_i12); (try clear c1); (try clear c2); (try clear c3); (try clear c4); omega)) (by ((try clear hh_i4); (try clear h9); (try clear h10); (try clear hm); (try clear h4); (try clear hh_i7); (try clear a1); (try clear a2); (try clear a3); (try clear a4); (try clear hh_i9); (try clear b1); (try clear b2); (try clear b3); (try clear b4); (try clear hh_i12); (try clear c1); (try clear c2); (try clear c3); (try clear c4); omega))) ?_
       simp only [vsAll, binA, binLitA, intA, loadA, loadRow, indexAddrA, cellA, cellsA, okAll, stAll, opsA, opA, newCells, okCells, storeObj, dstOk, Nat.reduceLT, Nat.reduceEqDiff, ↓reduceIte, eq_self, wtAll, dlF_at]
       rw [ed, Hp.set_set, Hp.set_set]
       refine ⟨⟨by ((try clear hh_i4); (try clear h9); (try clear h10); (try clear hm); (try clear h4); (try clear hh_i7); (try clear a1); (try clear a2); (try clear a3); (try clear a4); (try clear hh_i9); (try clear b1); (try clear b2); (try clear b3); (try clear b4); (try clear hh_i12); (try clear c1); (try clear c2); (try clear c3); (try clear c4); omega), by ((try clear hh_i4); (try clear h9); (try clear h10); (try clear hm); (try clear h4); (try clear hh_i7); (try clear a1); (try clear a2); (try clear a3); (try clear a4); (try clear hh_i9); (try clear b1); (try clear b2); (try clear b3); (try clear b4); (try clear hh_i12); (try clear c1); (try clear c2); (try clear c3); (try clear c4); omega)⟩, by ((try clear hh_i4); (try clear h9); (try clear h10); (try clear hm); (try clear h4); (try clear hh_i7); (try clear a1); (try clear a2); (try clear a3); (try clear a4); (try clear hh_i9); (try clear b1); (try clear b2); (try clear b3); (try clear b4); (try clear hh_i12); (try clear c1); (try clear c2); (try clear c3); (try clear c4); omega), by simp only [InR_i64]; ((try clear hh_i4); (try clear h9); (try clear h10); (try clear hm); (try clear h4); (try clear hh_i7); (try clear a1); (try clear a2); (try clear a3); (try clear a4); (try clear hh_i9); (try clear b1); (try clear b2); (try clear b3); (try clear b4); (try clear hh_i12); (try clear c1); (try clear c2); (try clear c3); (try clear c4); omega), ?_⟩
       refine callK_pure (htl _ (by simp only [vsAll, ↓reduceIte, eq_self, h9, a1, b1, c1]) (by simp only [vsAll, ↓reduceIte, eq_self, h10, a2, b2, c2]) (by simp only [vsAll, ↓reduceIte, eq_self, hm, a3, b3, c3])) ?_
       have ecd : decide (dV (dO g g.F g.A n (b ++ [(j : Int)])) = m) = decide (dO g g.F g.A n (b ++ [(j : Int)]) = some m) := decide_eq_decide.2 hde
       simp only [vsAll, binA, binLitA, intA, opA, dstOk, Nat.reduceLT, Nat.reduceEqDiff, ↓reduceIte, eq_self, ecd]
       refine condV (fun hc => ?_) (fun hc => ?_)
       ·rw [decide_eq_true_eq] at hc
        simp only [vsAll]
        refine vs_draw2 [0, 0, 0, 1, 0, 3, 5] [([0, 1, 2, 4], [4], 3), ([], [4], 5), ([], [], 6)] [] (by decide +kernel) ?_
        simp only [vsAll, binA, binLitA, intA, loadA, loadRow, cellA, cellsA, okParts, buildSliceA, partIdx, elemsA, lensA, partsA, partsOk, opA, storeObj, appendA, dstOk, nilSliceOp, Nat.reduceMul, Nat.reduceLT, Nat.reduceLeDiff, Nat.reduceEqDiff, Nat.reduceBEq, ↓reduceIte, eq_self, wtAll, hh_i9, hh_i12]
        have hgh := grd_hit hjs hc hj2
        have hlen : (b ++ [(j : Int)]).length = b.length + 1 := by simp
        refine ⟨fun q hq => by (have : q = 0 := by ((try clear hh_i4); (try clear h9); (try clear h10); (try clear hm); (try clear h4); (try clear hh_i7); (try clear a1); (try clear a2); (try clear a3); (try clear a4); (try clear hh_i9); (try clear b1); (try clear b2); (try clear b3); (try clear b4); (try clear hh_i12); (try clear c1); (try clear c2); (try clear c3); (try clear c4); omega)); subst this; simp only [vsAll, cellA, okCells, eq_self], by ((try clear hh_i4); (try clear h9); (try clear h10); (try clear hm); (try clear h4); (try clear hh_i7); (try clear a1); (try clear a2); (try clear a3); (try clear a4); (try clear hh_i9); (try clear b1); (try clear b2); (try clear b3); (try clear b4); (try clear hh_i12); (try clear c1); (try clear c2); (try clear c3); (try clear c4); omega), by ((try clear hh_i4); (try clear h9); (try clear h10); (try clear hm); (try clear h4); (try clear hh_i7); (try clear a1); (try clear a2); (try clear a3); (try clear a4); (try clear hh_i9); (try clear b1); (try clear b2); (try clear b3); (try clear b4); (try clear hh_i12); (try clear c1); (try clear c2); (try clear c3); (try clear c4); omega), fun q hq => ⟨rfl, trivial⟩, by simp only [InR_i64]; ((try clear hh_i4); (try clear h9); (try clear h10); (try clear hm); (try clear h4); (try clear hh_i7); (try clear a1); (try clear a2); (try clear a3); (try clear a4); (try clear hh_i9); (try clear b1); (try clear b2); (try clear b3); (try clear b4); (try clear hh_i12); (try clear c1); (try clear c2); (try clear c3); (try clear c4); omega), loop_next (b ++ [(j : Int)]) ⟨?_, ?_, ?_⟩ ?_ ?_ ?_⟩
        ·rw [hlen]; ((try clear hh_i4); (try clear h9); (try clear h10); (try clear hm); (try clear h4); (try clear hh_i7); (try clear a1); (try clear a2); (try clear a3); (try clear a4); (try clear hh_i9); (try clear b1); (try clear b2); (try clear b3); (try clear b4); (try clear hh_i12); (try clear c1); (try clear c2); (try clear c3); (try clear c4); omega)
        ·rw [hlen, show g.N - (b.length + 1) = n by ((try clear hh_i4); (try clear h9); (try clear h10); (try clear hm); (try clear h4); (try clear hh_i7); (try clear a1); (try clear a2); (try clear a3); (try clear a4); (try clear hh_i9); (try clear b1); (try clear b2); (try clear b3); (try clear b4); (try clear hh_i12); (try clear c1); (try clear c2); (try clear c3); (try clear c4); omega)]; exact hc
        ·rw [hlen, show g.N - (b.length + 1) = n by ((try clear hh_i4); (try clear h9); (try clear h10); (try clear hm); (try clear h4); (try clear hh_i7); (try clear a1); (try clear a2); (try clear a3); (try clear a4); (try clear hh_i9); (try clear b1); (try clear b2); (try clear b3); (try clear b4); (try clear hh_i12); (try clear c1); (try clear c2); (try clear c3); (try clear c4); omega), ← hgh]; exact hb3
        ·rw [hlen]; ((try clear hh_i4); (try clear h9); (try clear h10); (try clear hm); (try clear h4); (try clear hh_i7); (try clear a1); (try clear a2); (try clear a3); (try clear a4); (try clear hh_i9); (try clear b1); (try clear b2); (try clear b3); (try clear b4); (try clear hh_i12); (try clear c1); (try clear c2); (try clear c3); (try clear c4); omega)
        ·simp only [vsAll, Nat.reduceEqDiff, ↓reduceIte, eq_self, hlen, Int.natCast_add, Int.natCast_one]
         try exact AV.Le.refl _
        ·rw [hlen, app_ints b (j : Int) _ rfl]
         (repeat (first | exact HSub_rfl | refine HSub_put_eq (by simp only [vsAll, ↓reduceIte, eq_self, hh_i9]) ?_ | refine HSub_drop2 (by simp only [eq_self, hh_i7, hh_i9, hh_i12]) ?_ | refine HSub_keep_eq (by simp only [vsAll, ↓reduceIte, eq_self, reduceCtorEq, Nat.reduceEqDiff, hh_i4, h9, h10, hm, h4, hh_i7, a1, a2, a3, a4, hh_i9, b1, b2, b3, b4, hh_i12, c1, c2, c3, c4]) ?_))
       ·rw [decide_eq_false_iff_not] at hc
        simp only [vsAll, binA, binLitA, intA, opA, dstOk, Nat.reduceLT, Nat.reduceEqDiff, ↓reduceIte, eq_self]
        refine ⟨by simp only [InR_i64]; ((try clear hh_i4); (try clear h9); (try clear h10); (try clear hm); (try clear h4); (try clear hh_i7); (try clear a1); (try clear a2); (try clear a3); (try clear a4); (try clear hh_i9); (try clear b1); (try clear b2); (try clear b3); (try clear b4); (try clear hh_i12); (try clear c1); (try clear c2); (try clear c3); (try clear c4); omega), loop_next (j + 1) ⟨by ((try clear hh_i4); (try clear h9); (try clear h10); (try clear hm); (try clear h4); (try clear hh_i7); (try clear a1); (try clear a2); (try clear a3); (try clear a4); (try clear hh_i9); (try clear b1); (try clear b2); (try clear b3); (try clear b4); (try clear hh_i12); (try clear c1); (try clear c2); (try clear c3); (try clear c4); omega), fun d hd => ?_⟩ (by ((try clear hh_i4); (try clear h9); (try clear h10); (try clear hm); (try clear h4); (try clear hh_i7); (try clear a1); (try clear a2); (try clear a3); (try clear a4); (try clear hh_i9); (try clear b1); (try clear b2); (try clear b3); (try clear b4); (try clear hh_i12); (try clear c1); (try clear c2); (try clear c3); (try clear c4); omega)) ?_ (by (repeat (first | exact HSub_rfl | refine HSub_put_eq (by simp only [vsAll, ↓reduceIte, eq_self, hh_i9, hh_i12]) ?_ | refine HSub_drop2 (by simp only [eq_self, hh_i7, hh_i9, hh_i12]) ?_ | refine HSub_keep_eq (by simp only [vsAll, ↓reduceIte, eq_self, reduceCtorEq, Nat.reduceEqDiff, hh_i4, h9, h10, hm, h4, hh_i7, a1, a2, a3, a4, hh_i9, b1, b2, b3, b4, hh_i12, c1, c2, c3, c4]) ?_)))⟩
        ·by_cases e : d = j
         ·subst e; exact hc
         ·exact hj2 d (by ((try clear hh_i4); (try clear h9); (try clear h10); (try clear hm); (try clear h4); (try clear hh_i7); (try clear a1); (try clear a2); (try clear a3); (try clear a4); (try clear hh_i9); (try clear b1); (try clear b2); (try clear b3); (try clear b4); (try clear hh_i12); (try clear c1); (try clear c2); (try clear c3); (try clear c4); omega))
        ·simp only [vsAll, Nat.reduceEqDiff, ↓reduceIte, eq_self, Int.natCast_add, Int.natCast_one]
      ·have hjm : j = g.cw.length := by ((try clear hh_i4); (try clear h9); (try clear h10); (try clear hm); (try clear h4); (try clear hh_i7); (try clear a1); (try clear a2); (try clear a3); (try clear a4); (try clear hh_i9); (try clear b1); (try clear b2); (try clear b3); (try clear b4); omega)
       subst hjm
       obtain ⟨c, hc, e⟩ := grd_ex hbs hb2
       exact absurd e (hj2 c hc)
    ·have hbl : b.length = g.N := by ((try clear hh_i4); (try clear h9); (try clear h10); (try clear hm); (try clear h4); (try clear hh_i7); (try clear a1); (try clear a2); (try clear a3); (try clear a4); (try clear hh_i9); (try clear b1); (try clear b2); (try clear b3); (try clear b4); omega)
     have hbe : b = dealL g := by
      rw [hL, hH, ← hb3, hbl, Nat.sub_self]; rfl
     simp only [vsAll, loadA, loadRow, partA, partOk, cellA, cellsA, opA, newCells, okCells, storeObj, dstOk, nilSliceOp, resA, retA.eq_2, Nat.reduceLT, Nat.reduceEqDiff, Nat.reduceBEq, ↓reduceIte, eq_self, wtAll, Try.results28, h4, a4, b4]
     refine ⟨i4, _, rfl, by simp only [↓reduceIte, eq_self]; try rfl, ?_⟩
     refine ⟨H.set i9 (.row 1 (dealL g).length (intF (dealL g))), ?_, .inr ⟨hE, i9, hn9, by rw [hH, ← hbe], rfl⟩⟩
     rw [← hbe]
     exact HSub_put_eq (by simp only [vsAll, ↓reduceIte, eq_self, b4]) (HSub_drop2 hh_i4 (HSub_drop2 hn9 (HSub_drop2 hn7 hsubH)))
  ·rw [decide_eq_false_iff_not, hdv.2.2] at hr
   have hE : dealE g = 4 := by unfold dealE; rw [if_pos he, if_neg hr]
   simp only [vsAll, loadA, loadRow, partA, partOk, resA, retA.eq_2, Nat.reduceEqDiff, ↓reduceIte, eq_self, wtAll, Try.results28, h4, a4]
   refine ⟨4, i4, _, rfl, rfl, by simp only [↓reduceIte, h4, a4]; try rfl, ?_⟩
   simp only [vsAll, Nat.reduceLT, ↓reduceIte, eq_self]
   refine ⟨H, ?_, .inl ⟨by rw [hE]; decide, by rw [hE], rfl⟩⟩
   exact HSub_drop2 hh_i4 (HSub_drop2 hn7 hsubH)
theorem wdeal_tri (g : Gg) (H : Hp) (kn : NearG g) : PTri Try.prog (fnA 28) [g.av] H (.tuple [i64 (dealH g), intsAV (dealL g), i64 (dealE g)]) := by
 have h1 : Tri Try.prog (fnA 28) [g.av] H fun r H' => H' = H ∧ ((¬ dealE g = 0 ∧ r = .ret (.tuple [i64 0, .lit (.slice none 0 0), i64 (dealE g)])) ∨ r = .ret (.tuple [i64 (dealH g), intsAV (dealL g), i64 (dealE g)])) := by
  refine Tri.thaw (wdealM_tri g H kn) ?_
  rintro r H' (⟨h1, rfl, rfl⟩ | ⟨h1, id, hid, rfl, rfl⟩)
  ·exact .inl ⟨rfl, .inl ⟨h1, rfl⟩⟩
  ·right
   refine ⟨_, id, 1, _, _, 1, rfl, Hp.set_same _ _ _, by simp, rfl, set_del hid, .inr ?_⟩
   rw [h1]; rfl
 refine Tri.resLe h1 fun r H' h => ?_
 obtain ⟨rfl, ⟨h2, rfl⟩ | rfl⟩ := h
 ·right
  refine ⟨_, .tuple [i64 (dealH g), intsAV (dealL g), i64 (dealE g)], rfl, AV.Le.tupleD rfl fun j hj => ?_, rfl, rfl⟩
  have e1 : dealH g = 0 := if_neg h2
  have e2 : dealL g = [] := if_neg h2
  rw [e1, e2]
  match j, hj with
  | 0, _ => exact AV.Le.refl _
  | 1, _ => exact AV.Le.nil _ _
  | 2, _ => exact AV.Le.refl _
 ·exact .inl ⟨rfl, rfl⟩
end Go.Proofs.Ytdopkbldjagmlaa
end
section
set_option linter.unusedVariables false
set_option linter.unusedSimpArgs false
set_option maxHeartbeats 1000000
set_option maxRecDepth 100000
namespace Go.Proofs.Ytdopkbldjagmlaa
open Go.V
def enoE (g : Gg) : Int := setE (errG g true) (fewV (genB g) g.cw.length)
def enoV (g : Gg) : Nat := setV (errG g true) (fewV (genB g) g.cw.length)
theorem wenough_tri (g : Gg) (H : Hp) (kn : NearG g) : PTri Try.prog (fnA 29) [g.av] H (.tuple [i64 (enoV g : Nat), i64 (enoE g)]) := by
 refine Tri.drop ?_
 refine tri_am (m := fun _ => false) gans Try.func29 (by kernel_rfl) rfl (by simp only [List.length_append, List.length_cons, List.length_nil, Try.ntmps29]; decide) ?_
 simp only [vsAll, loadA, loadRow, partA, partOk, boxA, boxZ, okAll, stAll, opsA, opA, allocA, dstOk, nilSliceOp, argFr, Nat.reduceAdd, Nat.reduceLT, Nat.reduceEqDiff, ↓reduceIte, eq_self, wtAll, Try.ntmps29]
 intro i3 hh_i3; (try simp only [Hp.set_none, ite_none] at hh_i3)
 refine gopen_call (openG_tri g _ true _ kn trivial rfl (fun k H' id ho => galways_tri (.ref id 0 8 0 0) H' id)) (fun he => ?_) (fun k hv => ?_)
 ·obtain ⟨e1, e2⟩ := setV_no (r := fewV (genB g) g.cw.length) he
  have e1' : enoE g = errG g true := e1
  have e2' : enoV g = 0 := e2
  simp only [vsAll, loadA, loadRow, partA, partOk, resA, retA.eq_2, Nat.reduceEqDiff, ↓reduceIte, eq_self, wtAll, Try.results29]
  refine ⟨errG g true, i3, _, rfl, rfl, by simp only [↓reduceIte, eq_self]; try rfl, ?_⟩
  simp only [vsAll, Nat.reduceLT, ↓reduceIte, eq_self]
  refine dropR_pure ?_ (by (repeat (first | exact HSub_rfl | refine HSub_put_eq (by simp only [vsAll, ↓reduceIte, eq_self, reduceCtorEq, Nat.reduceEqDiff, hh_i3]) ?_ | refine HSub_drop2 (by simp only [eq_self, hh_i3]) ?_ | refine HSub_keep_eq (by simp only [vsAll, ↓reduceIte, eq_self, reduceCtorEq, Nat.reduceEqDiff, hh_i3]) ?_)))
  simp only [eq_self, e1', e2', Int.natCast_zero]
 ·have he : errG g true = 0 := errG_ok k
  have nC := k.nC
  have nS := k.nS
  simp only [vsAll, loadA, loadRow, partA, partOk, cellA, cellsA, okAll, stAll, opsA, opA, allocA, newCells, okCells, storeObj, dstOk, Nat.reduceLT, Nat.reduceEqDiff, ↓reduceIte, eq_self, wtAll]
  intro i4 hh_i4; (try simp only [ite_none] at hh_i4)
  refine callK_pure (tables_tri g _ k) ?_
  simp only [vsAll, loadA, loadRow, partA, partOk, fieldAddrA, lenA, nilCheckA, cellA, cellsA, okAll, stAll, opsA, opA, allocA, newCells, okCells, storeObj, dstOk, Nat.reduceLT, Nat.reduceEqDiff, ↓reduceIte, eq_self, wtAll]
  intro i5 hh_i5; (try simp only [ite_none] at hh_i5)
  simp only [vsAll, Nat.reduceLT, ↓reduceIte, eq_self, hh_i5]
  rw [Hp.set_set, Hp.set_set]
  refine callK_pure (gfew_tri (genB g) g.cw.length _ _ (by ((try clear hh_i3); (try clear hh_i4); (try clear hh_i5); omega)) trivial rfl fun j hj => enough1_tri g j i4 i5 _ k (lt5 hj (by ((try clear hh_i3); (try clear hh_i4); (try clear hh_i5); omega))) (by simp only [vsAll, ↓reduceIte, eq_self, hh_i5]) (by simp only [vsAll, ↓reduceIte, eq_self])) ?_
  have hlt := fewV_lt (genB g) g.cw.length
  have h32 := lt5 hlt (by ((try clear hh_i3); (try clear hh_i4); (try clear hh_i5); omega))
  unfold enoV enoE
  rw [he]
  generalize fewV (genB g) g.cw.length = r at h32 ⊢
  simp only [vsAll, extractA, okAll, stAll, opsA, opA, dstOk, nilSliceOp, Nat.reduceAdd, Nat.reduceLT, Nat.reduceEqDiff, ↓reduceIte, eq_self]
  refine gask_call (fun hr => ?_) (fun hr => ?_)
  ·obtain ⟨e1, e2⟩ := setV_some hr
   rw [e1, e2]
   simp only [vsAll, loadA, loadRow, partA, partOk, cellA, cellsA, convA, opA, newCells, okCells, storeObj, dstOk, nilSliceOp, resA, retA.eq_2, Nat.reduceLT, Nat.reduceEqDiff, ↓reduceIte, eq_self, wtAll, Try.results29, hh_i4, hh_i5]
   refine ⟨by simp only [InR_i64]; ((try clear hh_i3); (try clear hh_i4); (try clear hh_i5); omega), i3, _, rfl, by simp only [↓reduceIte, eq_self]; try rfl, dropR_pure rfl (by (repeat (first | exact HSub_rfl | refine HSub_put_eq (by simp only [vsAll, ↓reduceIte, eq_self, reduceCtorEq, Nat.reduceEqDiff, hh_i3, hh_i4, hh_i5]) ?_ | refine HSub_drop2 (by simp only [eq_self, hh_i3, hh_i4, hh_i5]) ?_ | refine HSub_keep_eq (by simp only [vsAll, ↓reduceIte, eq_self, reduceCtorEq, Nat.reduceEqDiff, hh_i3, hh_i4, hh_i5]) ?_)))⟩
  ·obtain ⟨e1, e2⟩ := setV_none hr
   rw [e1, e2]
   simp only [vsAll, loadA, loadRow, partA, partOk, resA, retA.eq_2, Nat.reduceEqDiff, ↓reduceIte, eq_self, wtAll, Try.results29, hh_i4, hh_i5]
   refine ⟨4, i3, _, rfl, rfl, by simp only [↓reduceIte, eq_self, hh_i4, hh_i5]; try rfl, ?_⟩
   simp only [vsAll, Nat.reduceLT, ↓reduceIte, eq_self]
   exact dropR_pure rfl (by (repeat (first | exact HSub_rfl | refine HSub_put_eq (by simp only [vsAll, ↓reduceIte, eq_self, reduceCtorEq, Nat.reduceEqDiff, hh_i3, hh_i4, hh_i5]) ?_ | refine HSub_drop2 (by simp only [eq_self, hh_i3, hh_i4, hh_i5]) ?_ | refine HSub_keep_eq (by simp only [vsAll, ↓reduceIte, eq_self, reduceCtorEq, Nat.reduceEqDiff, hh_i3, hh_i4, hh_i5]) ?_)))
def leaE (g : Gg) : Int := errG g true
def leaV (g : Gg) : Nat := if leaE g = 0 then (fewV (leaB g) g.N).getD 0 else 0
theorem wleave_tri (g : Gg) (H : Hp) (kn : NearG g) : PTri Try.prog (fnA 13) [g.av] H (.tuple [i64 (leaV g : Nat), i64 (leaE g)]) := by
 refine Tri.drop ?_
 refine tri_am (m := fun _ => false) gans Try.func13 (by kernel_rfl) rfl (by simp only [List.length_append, List.length_cons, List.length_nil, Try.ntmps13]; decide) ?_
 simp only [vsAll, loadA, loadRow, partA, partOk, boxA, boxZ, okAll, stAll, opsA, opA, allocA, dstOk, nilSliceOp, argFr, Nat.reduceAdd, Nat.reduceLT, Nat.reduceEqDiff, ↓reduceIte, eq_self, wtAll, Try.ntmps13]
 intro i3 hh_i3; (try simp only [Hp.set_none, ite_none] at hh_i3)
 refine gopen_call (openG_tri g _ true _ kn trivial rfl (fun k H' id ho => galways_tri (.ref id 0 8 0 0) H' id)) (fun he => ?_) (fun k hv => ?_)
 ·have e1' : leaE g = errG g true := rfl
  have e2' : leaV g = 0 := if_neg he
  simp only [vsAll, loadA, loadRow, partA, partOk, resA, retA.eq_2, Nat.reduceEqDiff, ↓reduceIte, eq_self, wtAll, Try.results13]
  refine ⟨errG g true, i3, _, rfl, rfl, by simp only [↓reduceIte, eq_self]; try rfl, ?_⟩
  simp only [vsAll, Nat.reduceLT, ↓reduceIte, eq_self]
  refine dropR_pure ?_ (by (repeat (first | exact HSub_rfl | refine HSub_put_eq (by simp only [vsAll, ↓reduceIte, eq_self, reduceCtorEq, Nat.reduceEqDiff, hh_i3]) ?_ | refine HSub_drop2 (by simp only [eq_self, hh_i3]) ?_ | refine HSub_keep_eq (by simp only [vsAll, ↓reduceIte, eq_self, reduceCtorEq, Nat.reduceEqDiff, hh_i3]) ?_)))
  simp only [eq_self, e1', e2', Int.natCast_zero]
 ·have he : errG g true = 0 := errG_ok k
  have nC := k.nC
  have nS := k.nS
  have hN : g.N ≤ 5 := nS
  have hNe : g.sm.length = g.N := rfl
  have eV : leaV g = (fewV (leaB g) g.N).getD 0 := if_pos he
  have eE : leaE g = 0 := he
  simp only [vsAll, loadA, loadRow, partA, partOk, cellA, cellsA, okAll, stAll, opsA, opA, allocA, newCells, okCells, storeObj, dstOk, Nat.reduceLT, Nat.reduceEqDiff, ↓reduceIte, eq_self, wtAll]
  intro i4 hh_i4; (try simp only [ite_none] at hh_i4)
  refine callK_pure (tables_tri g _ k) ?_
  simp only [vsAll, loadA, loadRow, partA, partOk, fieldAddrA, lenA, nilCheckA, cellA, cellsA, okAll, stAll, opsA, opA, allocA, newCells, okCells, storeObj, dstOk, Nat.reduceLT, Nat.reduceEqDiff, ↓reduceIte, eq_self, wtAll]
  intro i5 hh_i5; (try simp only [ite_none] at hh_i5)
  simp only [vsAll, Nat.reduceLT, ↓reduceIte, eq_self, hh_i5]
  refine callK_pure (every_tri g.sm.length _ nS) ?_
  have eF : 2 ^ g.sm.length - 1 = g.F := rfl
  rw [eF]
  simp only [vsAll, loadA, loadRow, partA, partOk, fieldAddrA, lenA, nilCheckA, cellA, cellsA, okAll, stAll, opsA, opA, allocA, newCells, okCells, storeObj, dstOk, Nat.reduceLT, Nat.reduceEqDiff, ↓reduceIte, eq_self, wtAll, hh_i5]
  intro i6 hh_i6; (try simp only [ite_none] at hh_i6)
  simp only [vsAll, Nat.reduceLT, ↓reduceIte, eq_self, hh_i6, hNe]
  rw [Hp.set_set, Hp.set_set, Hp.set_set]
  refine callK_pure (gfew_tri (leaB g) g.N _ _ (by ((try clear hh_i3); (try clear hh_i4); (try clear hh_i5); (try clear hh_i6); omega)) trivial rfl fun j hj => leave1_tri g j i4 i6 i5 _ k (lt5 hj (by ((try clear hh_i3); (try clear hh_i4); (try clear hh_i5); (try clear hh_i6); omega))) (by simp only [vsAll, ↓reduceIte, eq_self, hh_i5, hh_i6]) (by simp only [vsAll, ↓reduceIte, eq_self]) (by simp only [vsAll, ↓reduceIte, eq_self, hh_i6])) ?_
  have hlt := fewV_lt (leaB g) g.N
  have h32 := lt5 hlt (by ((try clear hh_i3); (try clear hh_i4); (try clear hh_i5); (try clear hh_i6); omega))
  rw [eV, eE]
  generalize fewV (leaB g) g.N = r at h32 ⊢
  simp only [vsAll, loadA, loadRow, partA, partOk, extractA, cellA, cellsA, convA, opA, newCells, okCells, storeObj, dstOk, nilSliceOp, resA, retA.eq_2, Nat.reduceAdd, Nat.reduceLT, Nat.reduceEqDiff, ↓reduceIte, eq_self, wtAll, Try.results13, hh_i4, hh_i5, hh_i6]
  refine ⟨by simp only [InR_i64]; ((try clear hh_i3); (try clear hh_i4); (try clear hh_i5); (try clear hh_i6); omega), i3, _, rfl, by simp only [↓reduceIte, eq_self]; try rfl, dropR_pure rfl (by (repeat (first | exact HSub_rfl | refine HSub_put_eq (by simp only [vsAll, ↓reduceIte, eq_self, reduceCtorEq, Nat.reduceEqDiff, hh_i3, hh_i4, hh_i5, hh_i6]) ?_ | refine HSub_drop2 (by simp only [eq_self, hh_i3, hh_i4, hh_i5, hh_i6]) ?_ | refine HSub_keep_eq (by simp only [vsAll, ↓reduceIte, eq_self, reduceCtorEq, Nat.reduceEqDiff, hh_i3, hh_i4, hh_i5, hh_i6]) ?_)))⟩
end Go.Proofs.Ytdopkbldjagmlaa
end
section
set_option linter.unusedVariables false
set_option linter.unusedSimpArgs false
set_option maxHeartbeats 1000000
set_option maxRecDepth 100000
namespace Go.Proofs.Ytdopkbldjagmlaa
open Go.V
def stsN (g : Gg) (c i : Nat) : List Int := ((List.range i).filter fun S => (endO g c S).isSome).map fun S : Nat => (S : Int)
theorem stsN_yes {g : Gg} {c i : Nat} (h : (endO g c i).isSome = true) : stsN g c (i + 1) = stsN g c i ++ [(i : Int)] := by
 simp [stsN, List.range_succ, List.filter_append, h]
theorem stsN_no {g : Gg} {c i : Nat} (h : (endO g c i).isSome = false) : stsN g c (i + 1) = stsN g c i := by
 simp [stsN, List.range_succ, List.filter_append, h]
theorem stsN_len (g : Gg) (c i : Nat) : (stsN g c i).length ≤ i := by
 have := List.length_filter_le (fun S => (endO g c S).isSome) (List.range i)
 simpa [stsN] using this
def setsE (g : Gg) (c : Int) : Int := errG g (isCw g c)
def setsV (g : Gg) (c : Int) : List Int := if setsE g c = 0 then stsN g c.toNat (2 ^ g.N) else []
def setsR (g : Gg) (c : Int) (H : Hp) : Res → Hp → Prop := fun r H' => ∃ id, H id = none ∧ r = .ret (.tuple [.sl id 1 (setsV g c).length, i64 (setsE g c)]) ∧ H' = H.set id (.row 1 (setsV g c).length (intF (setsV g c)))
theorem wsetsM_tri (g : Gg) (c : Int) (H : Hp) (kn : NearG g) : Tri Try.prog (fnA 23) [g.av, i64 c] H (setsR g c H) := by
 refine Tri.drop ?_
 refine tri_am (m := mset [4]) gans Try.func23 (by kernel_rfl) rfl (by simp only [List.length_append, List.length_cons, List.length_nil, Try.ntmps23]; decide) ?_
 simp only [vsAll, loadA, loadRow, partA, partOk, boxA, boxZ, cellA, okAll, stAll, opsA, opA, allocA, dstOk, argFr, Nat.reduceAdd, Nat.reduceLT, Nat.reduceEqDiff, Nat.reduceBEq, ↓reduceIte, eq_self, wtAll, Try.ntmps23, Go.V.nilA]
 intro i4 hh_i4; (try simp only [Hp.set_none, ite_none] at hh_i4); intro i5 hh_i5; (try simp only [ite_none] at hh_i5)
 refine gopen_call (openG_tri g _ (isCw g c) _ kn trivial rfl (fun k H' id ho => sets1_tri g c id H' kn ho)) (fun he => ?_) (fun k hv => ?_)
 ·have e : setsE g c = errG g (isCw g c) := rfl
  have e2 : setsV g c = [] := if_neg he
  simp only [vsAll, loadA, loadRow, partA, partOk, resA, retA.eq_2, Nat.reduceEqDiff, ↓reduceIte, eq_self, wtAll, Try.results23]
  refine ⟨errG g (isCw g c), i5, _, rfl, rfl, by simp only [↓reduceIte, eq_self]; try rfl, ?_⟩
  simp only [vsAll, Nat.reduceLT, ↓reduceIte, eq_self]
  refine ⟨_, ?_, i4, hh_i4, by simp only [vsAll, eq_self, e2, e]; try rfl, rfl⟩
  rw [e2]
  refine HSub_put (o' := .row 1 0 fun _ => []) (by simp only [vsAll, ↓reduceIte, eq_self, hh_i5]) (row0_le _ _ _) ?_
  (repeat (first | exact HSub_rfl | refine HSub_put_eq (by simp only [vsAll, ↓reduceIte, eq_self, reduceCtorEq, Nat.reduceEqDiff, hh_i4, hh_i5]) ?_ | refine HSub_drop2 (by simp only [eq_self, hh_i4, hh_i5]) ?_ | refine HSub_keep_eq (by simp only [vsAll, ↓reduceIte, eq_self, reduceCtorEq, Nat.reduceEqDiff, hh_i4, hh_i5]) ?_))
 ·have he : setsE g c = 0 := by unfold setsE; rw [hv]; exact errG_ok k
  rw [isCw_iff] at hv
  obtain ⟨c, rfl⟩ : ∃ n : Nat, c = (n : Int) := ⟨c.toNat, by ((try clear hh_i4); (try clear hh_i5); omega)⟩
  have hc : c < g.cw.length := by ((try clear hh_i4); (try clear hh_i5); omega)
  have ev : setsV g (c : Int) = stsN g c (2 ^ g.N) := by unfold setsV; rw [if_pos he, Int.toNat_natCast]
  have hN : g.N ≤ 5 := k.nS
  have nS := k.nS
  have hNe : g.N = g.sm.length := rfl
  have hpw : 2 ^ g.N ≤ 2 ^ 5 := Nat.pow_le_pow_right (by ((try clear hh_i4); (try clear hh_i5); omega)) hN
  have ep : (1 : Int) * 2 ^ g.sm.length = ((2 ^ g.N : Nat) : Int) := by rw [Int.one_mul]; simp [Gg.N]
  simp only [vsAll, loadA, loadRow, partA, partOk, okAll, stAll, opsA, opA, dstOk, nilSliceOp, Nat.reduceLT, Nat.reduceEqDiff, Nat.reduceBEq, ↓reduceIte, eq_self, wtAll]
  refine callK_pure (table_tri g c _ k hc) ?_
  simp only [vsAll, binA, binLitA, intA, loadA, loadRow, partA, partOk, fieldAddrA, lenA, nilCheckA, opA, allocA, storeObj, dstOk, Nat.reduceMul, Nat.reduceLT, Nat.reduceEqDiff, ↓reduceIte, eq_self, wtAll, ep]
  intro i7 hh_i7; (try simp only [ite_none] at hh_i7)
  have eta : ∀ i, i < 2 ^ g.N → tabF g c i = [i64 (tabV g c i)] := fun i hi => tF_at g c _ _ hi
  generalize hM : 2 ^ g.N = M at hpw eta ev ep ⊢
  refine ⟨fun q _ => tF_ok g c _ _ q, ⟨by ((try clear hh_i4); (try clear hh_i5); (try clear hh_i7); omega), by ((try clear hh_i4); (try clear hh_i5); (try clear hh_i7); omega), by simp only [InR_i64]; ((try clear hh_i4); (try clear hh_i5); (try clear hh_i7); omega)⟩, ?_⟩
  rw [Hp.set_set]
  have hlen := fun i => stsN_len g c i
  refine vs_loop (σ := Nat) (fun i => i ≤ M) (fun i => [(4, .sl i4 1 (stsN g c i).length), (5, .ref i5 0 1 0 0), (7, .ref i7 0 1 0 0), (21, i64 M), (22, i64 i)]) (fun i => ((H.set i4 (.row 1 (stsN g c i).length (intF (stsN g c i)))).set i5 (.box 1 1 fun _ => [i64 0])).set i7 (.box 1 32 (tabF g c))) (fun i => M - i) 0 (Nat.zero_le _) ?_ ?_ fun i hi => ?_
  ·simp only [vsAll, Nat.reduceEqDiff, ↓reduceIte, eq_self, Int.natCast_zero]
   try exact AV.Le.refl _
  ·show Go.V.HSub _ (((H.set i4 (.row 1 0 (intF []))).set i5 (.box 1 1 fun _ => [i64 0])).set i7 (.box 1 32 (tabF g c)))
   refine HSub_put_eq (by simp only [vsAll, ↓reduceIte, eq_self]) ?_
   refine HSub_put_eq (by simp only [vsAll, ↓reduceIte, eq_self, hh_i7]) ?_
   refine HSub_put (o' := .row 1 0 fun _ => []) (by simp only [vsAll, ↓reduceIte, eq_self, hh_i5, hh_i7]) (row0_le _ _ _) ?_
   (repeat (first | exact HSub_rfl | refine HSub_put_eq (by simp only [vsAll, ↓reduceIte, eq_self, reduceCtorEq, Nat.reduceEqDiff, hh_i4, hh_i5, hh_i7]) ?_ | refine HSub_drop2 (by simp only [eq_self, hh_i4, hh_i5, hh_i7]) ?_ | refine HSub_keep_eq (by simp only [vsAll, ↓reduceIte, eq_self, reduceCtorEq, Nat.reduceEqDiff, hh_i4, hh_i5, hh_i7]) ?_))
  ·simp only [vsAll, binA, binLitA, intA, opA, dstOk, Nat.reduceLT, Nat.reduceEqDiff, ↓reduceIte, eq_self]
   refine condD (fun hd => ?_) (fun hd => ?_)
   ·have his : i < M := by ((try clear hh_i4); (try clear hh_i5); (try clear hh_i7); omega)
    have e1 := eta i his
    have htl := tab_le k hc (S := i) (by ((try clear hh_i4); (try clear hh_i5); (try clear hh_i7); omega))
    simp only [vsAll, binA, binLitA, intA, loadA, loadRow, partA, partOk, indexAddrA, opA, dstOk, nilSliceOp, Nat.reduceLT, Nat.reduceEqDiff, Nat.reduceBEq, ↓reduceIte, eq_self, wtAll, e1]
    refine ⟨⟨by ((try clear hh_i4); (try clear hh_i5); (try clear hh_i7); omega), by ((try clear hh_i4); (try clear hh_i5); (try clear hh_i7); omega)⟩, by ((try clear hh_i4); (try clear hh_i5); (try clear hh_i7); omega), ?_⟩
    refine condV (fun hc1 => ?_) (fun hc1 => ?_)
    ·rw [decide_eq_true_eq, htl.2.2] at hc1
     have es := stsN_yes hc1
     have hl := hlen i
     have el : (stsN g c (i + 1)).length = (stsN g c i).length + 1 := by rw [es]; simp
     simp only [vsAll, binA, binLitA, intA, cellA, cellsA, okParts, buildSliceA, partIdx, elemsA, lensA, partsA, partsOk, opA, appendA, dstOk, nilSliceOp, Nat.reduceMul, Nat.reduceLT, Nat.reduceLeDiff, Nat.reduceEqDiff, Nat.reduceBEq, ↓reduceIte, eq_self, wtAll, hh_i5, hh_i7]
     refine ⟨fun q hq => by (have : q = 0 := by ((try clear hh_i4); (try clear hh_i5); (try clear hh_i7); omega)); subst this; simp only [vsAll, cellA, okCells, eq_self], by ((try clear hh_i4); (try clear hh_i5); (try clear hh_i7); omega), by ((try clear hh_i4); (try clear hh_i5); (try clear hh_i7); omega), by simp only [InR_i64]; ((try clear hh_i4); (try clear hh_i5); (try clear hh_i7); omega), loop_next (i + 1) (by ((try clear hh_i4); (try clear hh_i5); (try clear hh_i7); omega)) (by ((try clear hh_i4); (try clear hh_i5); (try clear hh_i7); omega)) ?_ ?_⟩
     ·simp only [vsAll, Nat.reduceEqDiff, ↓reduceIte, eq_self, el, Int.natCast_add, Int.natCast_one]
      try exact AV.Le.refl _
     ·rw [el, es, app_ints (stsN g c i) (i : Int) _ rfl]
      (repeat (first | exact HSub_rfl | refine HSub_put_eq (by simp only [vsAll, ↓reduceIte, eq_self, hh_i5, hh_i7]) ?_ | refine HSub_drop2 (by simp only [eq_self, hh_i4, hh_i5, hh_i7]) ?_ | refine HSub_keep_eq (by simp only [vsAll, ↓reduceIte, eq_self, reduceCtorEq, Nat.reduceEqDiff, hh_i4, hh_i5, hh_i7]) ?_))
    ·rw [decide_eq_false_iff_not, htl.2.2, Bool.not_eq_true] at hc1
     have es := stsN_no hc1
     simp only [vsAll, binA, binLitA, intA, opA, dstOk, Nat.reduceLT, Nat.reduceEqDiff, ↓reduceIte, eq_self]
     refine ⟨by simp only [InR_i64]; ((try clear hh_i4); (try clear hh_i5); (try clear hh_i7); omega), loop_next (i + 1) (by ((try clear hh_i4); (try clear hh_i5); (try clear hh_i7); omega)) (by ((try clear hh_i4); (try clear hh_i5); (try clear hh_i7); omega)) ?_ ?_⟩
     ·simp only [vsAll, Nat.reduceEqDiff, ↓reduceIte, eq_self, es, Int.natCast_add, Int.natCast_one]
      try exact AV.Le.refl _
     ·rw [es]; exact HSub_rfl
   ·have ei : i = M := by ((try clear hh_i4); (try clear hh_i5); (try clear hh_i7); omega)
    subst ei
    simp only [vsAll, loadA, loadRow, partA, partOk, cellA, cellsA, opA, newCells, okCells, storeObj, dstOk, nilSliceOp, resA, retA.eq_2, Nat.reduceLT, Nat.reduceEqDiff, Nat.reduceBEq, ↓reduceIte, eq_self, wtAll, Try.results23, hh_i7]
    refine ⟨i5, _, rfl, by simp only [↓reduceIte, eq_self]; try rfl, ?_⟩
    refine ⟨H.set i4 (.row 1 (setsV g c).length (intF (setsV g c))), ?_, i4, hh_i4, by rw [ev, he], rfl⟩
    rw [ev]
    (repeat (first | exact HSub_rfl | refine HSub_put_eq (by simp only [vsAll, ↓reduceIte, eq_self, hh_i5, hh_i7]) ?_ | refine HSub_drop2 (by simp only [eq_self, hh_i4, hh_i5, hh_i7]) ?_ | refine HSub_keep_eq (by simp only [vsAll, ↓reduceIte, eq_self, reduceCtorEq, Nat.reduceEqDiff, hh_i4, hh_i5, hh_i7]) ?_))
theorem wsets_tri (g : Gg) (c : Int) (H : Hp) (kn : NearG g) : PTri Try.prog (fnA 23) [g.av, i64 c] H (.tuple [intsAV (setsV g c), i64 (setsE g c)]) := by
 refine Tri.thaw (wsetsM_tri g c H kn) ?_
 rintro r H' ⟨id, hid, rfl, rfl⟩
 right
 exact ⟨_, id, 1, _, _, 0, rfl, Hp.set_same _ _ _, by simp, rfl, rfl, set_del hid⟩
end Go.Proofs.Ytdopkbldjagmlaa
end
section
set_option linter.unusedVariables false
set_option linter.unusedSimpArgs false
set_option maxRecDepth 100000
namespace Go.Proofs.Ytdopkbldjagmlaa
open Go.V
def smG (f : Int) : Gg := ⟨[⟨20, 2, 12, -1⟩, ⟨12, 0, f, 0⟩, ⟨9, 3, 12, 1⟩], [⟨5, 6, 7⟩, ⟨4, 4, 6⟩], ⟨8, 1, 16, [4, 0], [⟨4, 0, 8⟩, ⟨6, 0, 8⟩]⟩⟩
theorem sm_ok : OkG (smG 10) := by decide +kernel
theorem sm_ok8 : OkG (smG 8) := by decide +kernel
theorem sm1 : readyV (smG 10) 1 = 6 := by decide +kernel
theorem sm2 : readyE (smG 10) 1 = 0 := by decide +kernel
theorem sm3 : rowV (smG 10) 0 [0, 1, 2] = [(6, 6), (8, 9), (10, 11)] := by decide +kernel
theorem sm4 : rowE (smG 10) 0 [0, 1, 2] = 0 := by decide +kernel
theorem sm5 : chkV (smG 10) 0 [1, 0] = 0 := by decide +kernel
theorem sm6 : chkE (smG 10) 0 [1, 0] = 0 := by decide +kernel
theorem sm7 : canV (smG 10) 1 6 = [1, 2] := by decide +kernel
theorem sm8 : canE (smG 10) 1 6 = 0 := by decide +kernel
theorem sm9 : setsV (smG 10) 1 = [0, 2, 4, 6] := by decide +kernel
theorem sm10 : setsE (smG 10) 1 = 0 := by decide +kernel
theorem sm11 : dealH (smG 10) = 9 := by decide +kernel
theorem sm12 : dealL (smG 10) = [0, 0, 1] := by decide +kernel
theorem sm13 : dealE (smG 10) = 0 := by decide +kernel
theorem sm14 : enoV (smG 10) = 1 := by decide +kernel
theorem sm15 : enoE (smG 10) = 0 := by decide +kernel
theorem sm16 : leaV (smG 8) = 2 := by decide +kernel
theorem sm17 : leaE (smG 8) = 0 := by decide +kernel
theorem sm18 : canV (smG 10) 0 7 = [0, 1, 2] := by decide +kernel
theorem sm19 : canE (smG 10) 0 7 = 0 := by decide +kernel
end Go.Proofs.Ytdopkbldjagmlaa
end
section
set_option linter.unusedVariables false
set_option linter.unusedSimpArgs false
set_option maxHeartbeats 2000000
set_option maxRecDepth 100000
namespace Go.Proofs.Ytdopkbldjagmlaa
open Go.V
theorem gints_tri (a b : List Int) (H : Hp) (ha : a.length < 2 ^ 60) (hb : b.length < 2 ^ 60) : PTri Try.prog (fnA 34) [intsAV a, intsAV b] H (boo (decide (a = b))) := by
 refine tri_v0 (fun _ => false) Try.func34 (by kernel_rfl) rfl (by simp only [List.length_append, List.length_cons, List.length_nil, Try.ntmps34]; decide) ?_
 simp only [vsAll, binA, binLitA, intA, lenA, opA, dstOk, nilSliceOp, argFr, Nat.reduceLT, Nat.reduceEqDiff, ↓reduceIte, reduceCtorEq, eq_self, wtAll, Try.ntmps34]
 refine condV (fun hc => ?_) (fun hc => ?_)
 ·have : decide (a = b) = false := decide_eq_false fun e => by subst e; simp at hc
  simp only [vsAll, opA, dstOk, nilSliceOp, resA, retA.eq_1, Nat.reduceLT, ↓reduceIte, eq_self, Try.results34, this]
 ·simp only [Bool.not_eq_false', decide_eq_true_eq] at hc
  simp only [vsAll, opA, dstOk, nilSliceOp, Nat.reduceLT, eq_self]
  refine vs_loop (σ := Nat) (fun i => i ≤ a.length ∧ ∀ j, j < i → a.getD j 0 = b.getD j 0) (fun i => [(0, intsAV a), (1, intsAV b), (5, i64 i)]) (fun _ => H) (fun i => a.length - i) 0 ⟨Nat.zero_le _, fun j hj => absurd hj (by omega)⟩ ?_ ?_ fun i hi => ?_
  ·simp only [vsAll, argFr, Nat.reduceEqDiff, ↓reduceIte, reduceCtorEq, eq_self, Int.natCast_zero]
  ·simp only [HSub_refl]
  ·obtain ⟨hi, hall⟩ := hi
   simp only [vsAll, binA, binLitA, intA, lenA, opA, dstOk, Nat.reduceLT, Nat.reduceEqDiff, ↓reduceIte, reduceCtorEq, eq_self, wtAll]
   refine condD (fun hd => ?_) (fun hd => ?_)
   ·simp only [vsAll]
    refine vs_draw 9 (by decide +kernel) ?_
    simp only [vsAll, binA, binLitA, intA, loadA, loadRow, partA, partOk, indexAddrA, opA, dstOk, Nat.reduceLT, Nat.reduceEqDiff, ↓reduceIte, reduceCtorEq, eq_self, wtAll, intF_at]
    refine ⟨by omega, by omega, by omega, by omega, condV (fun hf => ?_) (fun hf => ?_)⟩
    ·have : decide (a = b) = false := decide_eq_false fun e => by subst e; simp at hf
     simp only [vsAll, opA, dstOk, nilSliceOp, resA, retA.eq_1, Nat.reduceLT, ↓reduceIte, eq_self, Try.results34, this]
    ·simp only [Bool.not_eq_false', decide_eq_true_eq] at hf
     simp only [vsAll, binA, binLitA, intA, opA, dstOk, nilSliceOp, Nat.reduceLT, Nat.reduceEqDiff, ↓reduceIte, reduceCtorEq, eq_self]
     refine ⟨by simp only [InR_i64]; omega, loop_next (i + 1) ⟨by omega, fun j hj => ?_⟩ (by omega) ?_ ?_⟩
     ·by_cases e : j = i
      ·subst e; exact hf
      ·exact hall j (by omega)
     ·simp only [vsAll, Nat.reduceEqDiff, ↓reduceIte, reduceCtorEq, eq_self, Int.natCast_add, Int.natCast_one]
     ·simp only [HSub_refl]
   ·have ei : i = a.length := by omega
    subst ei
    have : decide (a = b) = true := decide_eq_true (by
     apply List.ext_getElem (by omega)
     intro j h1 h2
     have := hall j h1
     rw [List.getD_eq_getElem?_getD, List.getD_eq_getElem?_getD, List.getElem?_eq_getElem h1, List.getElem?_eq_getElem h2] at this
     exact this)
    simp only [vsAll, opA, dstOk, nilSliceOp, resA, retA.eq_1, Nat.reduceLT, ↓reduceIte, eq_self, Try.results34, this]
theorem eq43 : eqT Try.prog 43 2 := eqT_of (by kernel_rfl) (by kernel_rfl) (by kernel_rfl) (by kernel_rfl) (by kernel_rfl)
theorem gspans_tri (a b : List (Int × Int)) (H : Hp) (ha : a.length < 2 ^ 60) (hb : b.length < 2 ^ 60) : PTri Try.prog (fnA 33) [spaAV a, spaAV b] H (boo (decide (a = b))) := by
 refine tri_v0 (fun _ => false) Try.func33 (by kernel_rfl) rfl (by simp only [List.length_append, List.length_cons, List.length_nil, Try.ntmps33]; decide) ?_
 simp only [vsAll, binA, binLitA, intA, lenA, opA, dstOk, nilSliceOp, argFr, Nat.reduceLT, Nat.reduceEqDiff, ↓reduceIte, reduceCtorEq, eq_self, wtAll, Try.ntmps33]
 refine condV (fun hc => ?_) (fun hc => ?_)
 ·have : decide (a = b) = false := decide_eq_false fun e => by subst e; simp at hc
  simp only [vsAll, opA, dstOk, nilSliceOp, resA, retA.eq_1, Nat.reduceLT, ↓reduceIte, eq_self, Try.results33, this]
 ·simp only [Bool.not_eq_false', decide_eq_true_eq] at hc
  simp only [vsAll, opA, dstOk, nilSliceOp, Nat.reduceLT, eq_self]
  refine vs_loop (σ := Nat) (fun i => i ≤ a.length ∧ ∀ j, j < i → a.getD j (0, 0) = b.getD j (0, 0)) (fun i => [(0, spaAV a), (1, spaAV b), (5, i64 i)]) (fun _ => H) (fun i => a.length - i) 0 ⟨Nat.zero_le _, fun j hj => absurd hj (by omega)⟩ ?_ ?_ fun i hi => ?_
  ·simp only [vsAll, argFr, Nat.reduceEqDiff, ↓reduceIte, reduceCtorEq, eq_self, Int.natCast_zero]
  ·simp only [HSub_refl]
  ·obtain ⟨hi, hall⟩ := hi
   simp only [vsAll, binA, binLitA, intA, lenA, opA, dstOk, Nat.reduceLT, Nat.reduceEqDiff, ↓reduceIte, reduceCtorEq, eq_self, wtAll]
   refine condD (fun hd => ?_) (fun hd => ?_)
   ·simp only [vsAll]
    refine vs_draw 9 (by decide +kernel) ?_
    simp only [vsAll, binA, aggA, loadA, loadRow, partA, partOk, indexAddrA, opA, dstOk, Nat.reduceAdd, Nat.reduceLT, Nat.reduceEqDiff, ↓reduceIte, reduceCtorEq, eq_self, wtAll, spaF_at]
    have ep : ∀ x y : Int × Int, ([x.1, x.2] = [y.1, y.2]) = (x = y) := fun x y => by
     rcases x with ⟨x1, x2⟩; rcases y with ⟨y1, y2⟩; simp
    refine ⟨by omega, by omega, by omega, by omega, eq43, condV (fun hf => ?_) (fun hf => ?_)⟩
    ·have : decide (a = b) = false := decide_eq_false fun e => by subst e; simp at hf
     simp only [vsAll, opA, dstOk, nilSliceOp, resA, retA.eq_1, Nat.reduceLT, ↓reduceIte, eq_self, Try.results33, this]
    ·simp only [Bool.not_eq_false', decide_eq_true_eq, ep] at hf
     simp only [vsAll, binA, binLitA, intA, opA, dstOk, nilSliceOp, Nat.reduceLT, Nat.reduceEqDiff, ↓reduceIte, reduceCtorEq, eq_self]
     refine ⟨by simp only [InR_i64]; omega, loop_next (i + 1) ⟨by omega, fun j hj => ?_⟩ (by omega) ?_ ?_⟩
     ·by_cases e : j = i
      ·subst e; exact hf
      ·exact hall j (by omega)
     ·simp only [vsAll, Nat.reduceEqDiff, ↓reduceIte, reduceCtorEq, eq_self, Int.natCast_add, Int.natCast_one]
     ·simp only [HSub_refl]
   ·have ei : i = a.length := by omega
    subst ei
    have : decide (a = b) = true := decide_eq_true (by
     apply List.ext_getElem (by omega)
     intro j h1 h2
     have := hall j h1
     rw [List.getD_eq_getElem?_getD, List.getD_eq_getElem?_getD, List.getElem?_eq_getElem h1, List.getElem?_eq_getElem h2] at this
     exact this)
    simp only [vsAll, opA, dstOk, nilSliceOp, resA, retA.eq_1, Nat.reduceLT, ↓reduceIte, eq_self, Try.results33, this]
/-- Too large to be looked at. -/
def farG (g : Gg) (n : Nat) : Bool := decide ((40 : Int) < max (max (max (max (g.sm.length : Int) (g.cw.length : Int)) (g.pt.fs.length : Int)) (g.pt.ps.length : Int)) (n : Int))
theorem gfar0_tri (g : Gg) (H : Hp) : PTri Try.prog (fnA 9) [g.av, .lit (.slice none 0 0)] H (boo (farG g 0)) := by
 refine tri_v0 (fun _ => false) Try.func9 (by kernel_rfl) rfl (by simp only [List.length_append, List.length_cons, List.length_nil, Try.ntmps9]; decide) ?_
 simp only [vsAll, binA, binLitA, intA, loadA, loadRow, partA, partOk, fieldAddrA, lenA, boxA, boxZ, mmA, okAll, stAll, opsA, opA, dstOk, nilSliceOp, resA, argFr, retA.eq_1, Nat.reduceAdd, Nat.reduceLT, Nat.reduceEqDiff, ↓reduceIte, eq_self, wtAll, Try.ntmps9, Try.results9]
 rfl
theorem farG_near {g : Gg} {n : Nat} (h : farG g n = false) : NearG g ∧ n ≤ 40 := by
 have := of_decide_eq_false h
 exact ⟨⟨by omega, by omega, ⟨by omega, by omega⟩⟩, by omega⟩
def fineG (g : Gg) : Bool := !farG g 0 && decide (OkG g)
theorem gfine_tri (g : Gg) (H : Hp) : PTri Try.prog (fnA 16) [g.av] H (boo (fineG g)) := by
 refine tri_v0 (fun _ => false) Try.func16 (by kernel_rfl) rfl (by simp only [List.length_append, List.length_cons, List.length_nil, Try.ntmps16]; decide) ?_
 simp only [vsAll, loadA, loadRow, partA, partOk, boxA, boxZ, okAll, stAll, opsA, opA, dstOk, nilSliceOp, argFr, Nat.reduceAdd, Nat.reduceLT, Nat.reduceEqDiff, ↓reduceIte, eq_self, wtAll, Try.ntmps16]
 refine callK_pure (gfar0_tri g _) ?_
 simp only [vsAll, unA, loadA, loadRow, partA, partOk, opA, guardV, dstOk, Nat.reduceLT, Nat.reduceEqDiff, ↓reduceIte, implies_true, eq_self, wtAll]
 refine gcall _ (fun hg => ⟨by simp only [vsAll, opA], by simp only [vsAll, okAll, opsA, opA, ↓reduceIte, eq_self, hg], gangs_tri g _ (farG_near (n := 0) (by simpa using hg)).1⟩) ?_
 simp only [vsAll, pickA, opA, dstOk, nilSliceOp, resA, retA.eq_1, Nat.reduceLT, Nat.reduceEqDiff, ↓reduceIte, implies_true, eq_self, Try.results16]
 rfl
theorem gspan_tri (a b : Int) (H : Hp) : PTri Try.prog (fnA 21) [i64 a, i64 b] H (.agg [i64 a, i64 b]) := by
 refine Tri.drop ?_
 refine tri_v0 (fun _ => false) Try.func21 (by kernel_rfl) rfl (by simp only [List.length_append, List.length_cons, List.length_nil, Try.ntmps21]; decide) ?_
 simp only [vsAll, loadA, loadRow, partA, partOk, cellA, cellsA, fillA, okParts, partsA, partsOk, opA, allocA, newCells, okCells, storeObj, dstOk, resA, argFr, retA.eq_1, Nat.reduceAdd, Nat.reduceLT, Nat.reduceLeDiff, Nat.reduceEqDiff, ↓reduceIte, reduceCtorEq, eq_self, wtAll, Try.ntmps21, Try.results21]
 intro i4 hh_i4; (try simp only [Hp.set_none, ite_none] at hh_i4)
 refine dropR_pure ?_ (by (repeat (first | exact HSub_rfl | refine HSub_put_eq (by simp only [vsAll, ↓reduceIte, eq_self, reduceCtorEq, Nat.reduceEqDiff, hh_i4]) ?_ | refine HSub_drop2 (by simp only [eq_self, hh_i4]) ?_ | refine HSub_keep_eq (by simp only [vsAll, ↓reduceIte, eq_self, reduceCtorEq, Nat.reduceEqDiff, hh_i4]) ?_)))
 rfl
end Go.Proofs.Ytdopkbldjagmlaa
end
section
set_option linter.unusedVariables false
set_option linter.unusedSimpArgs false
namespace Go.V
set_option linter.unusedSectionVars false
variable [Inhabited GivT]
/-- What one cell holds. -/
inductive CK where
 | int (k : IntKind)
 | bool
 | sl (ks : List CK)

/-- The cells of a type. -/
def cellsT (P : Program) : Nat → TypeId → Option (List CK)
 | 0, _ => none
 | d + 1, t => match P.underlying t with
   | some .bool => some [.bool]
   | some (.int k) => some [.int k]
   | some (.slice e) => match cellsT P d e with
     | some ks => if P.cellsOf e = ks.length ∧ 0 < ks.length then some [.sl ks] else none
     | none => none
   | some (.array n e) => match cellsT P d e with
     | some ks => if P.cellsOf e = ks.length ∧ P.cellsOf t = n * ks.length then some ((List.replicate n ks).flatten) else none
     | none => none
   | some (.struct fs) => match fs.toList.foldl (fun acc f => match acc with
     | some ks => match cellsT P d f.type with
       | some l => if f.offset = ks.length ∧ P.cellsOf f.type = l.length then some (ks ++ l) else none
       | none => none
     | none => none) (some []) with
     | some ks => if P.cellsOf t = ks.length then some ks else none
     | none => none
   | _ => none

/-- Such an abstract value. -/
inductive CKA : CK → AV → Prop
 | int {k : IntKind} {z : Int} (h : (Lit.int k z).wf = true) : CKA (.int k) (.lit (.int k z))
 | bool {b : Bool} : CKA .bool (.lit (.bool b))
 | sl {ks : List CK} {n : Nat} {f : Nat → List AV} (hn : n ≤ maxLen) (hl : ∀ i, i < n → (f i).length = ks.length) (h : ∀ i j k, i < n → ks[j]? = some k → CKA k ((f i).getD j .any)) : CKA (.sl ks) (.rsl n ks.length f)

def CellIs (W : World) (k : CK) (v : Value) : Prop := ∃ av, CKA k av ∧ VRel (st0 W) av v
def CellsOk (W : World) (ks : List CK) (cs : List Value) : Prop := cs.length = ks.length ∧ ∀ (i : Nat) (k : CK) (v : Value), ks[i]? = some k → cs[i]? = some v → CellIs W k v

theorem CellsOk.append {W : World} {ks ls : List CK} {cs ds : List Value} (h : CellsOk W ks cs) (h' : CellsOk W ls ds) : CellsOk W (ks ++ ls) (cs ++ ds) := by
 refine ⟨by simp [h.1, h'.1], fun i k v hk hv => ?_⟩
 by_cases hi : i < ks.length
 ·rw [List.getElem?_append_left hi] at hk
  rw [List.getElem?_append_left (by rw [h.1]; exact hi)] at hv
  exact h.2 i k v hk hv
 ·rw [List.getElem?_append_right (by omega)] at hk
  rw [List.getElem?_append_right (by rw [h.1]; omega), h.1] at hv
  exact h'.2 _ k v hk hv

theorem trod_cells {H : Type} {enc : TypeId × Value → H} {P : Program} {W : World} {held : Bool} {sp : Nat → Bool} :
  ∀ (d fuel : Nat) (t : TypeId) (cs : List Value) (x : DataW H × List MemPlace) (ks : List CK), cellsT P d t = some ks → DataW.trod enc P W 0 sp held fuel t cs = some x → CellsOk W ks cs := by
 intro d
 induction d with
 | zero => intro fuel t cs x ks hg; cases hg
 | succ d ih =>
   intro fuel t cs x ks hg h
   cases fuel with
   | zero => cases h
   | succ fuel =>
     unfold cellsT at hg
     unfold DataW.trod at h
     cases hu : P.underlying t with
     | none => rw [hu] at hg; cases hg
     | some td =>
       rw [hu] at hg h
       cases td <;> simp only at hg <;> try (cases hg; done)
       case bool =>
        cases hg
        split at h <;> simp_all
        rename_i b
        exact ⟨rfl, fun i k v hk hv => by cases i <;> simp at hk hv; subst hk hv; exact ⟨_, .bool, .lit _⟩⟩
       case int k =>
        cases hg
        split at h <;> simp_all
        rename_i n hh
        exact ⟨rfl, fun i k v hk hv => by cases i <;> simp at hk hv; subst hk hv; exact ⟨_, .int h.1.2, .lit _⟩⟩
       case array n e =>
        cases hke : cellsT P d e with
        | none => rw [hke] at hg; cases hg
        | some lk =>
          rw [hke] at hg
          simp only at hg
          by_cases hc : P.cellsOf e = lk.length ∧ P.cellsOf t = n * lk.length
          case neg => rw [if_neg hc] at hg; cases hg
          rw [if_pos hc] at hg
          cases hg
          split at h <;> try (simp_all; done)
          case _ n' e' heq =>
           simp only [Option.some.injEq, TypeDesc.array.injEq] at heq
           obtain ⟨rfl, rfl⟩ := heq
           split at h
           case isFalse hl => cases h
           case isTrue hl =>
            rw [Option.map_eq_some_iff] at h
            obtain ⟨ys, hy, rfl⟩ := h
            have key : ∀ (c : List Value), (∀ i, i < n → ∃ y, DataW.trod enc P W 0 sp held fuel e ((c.drop (i * P.cellsOf e)).take (P.cellsOf e)) = some y) → ∀ m, m ≤ n → CellsOk W (List.replicate m lk).flatten (c.take (m * lk.length)) := by
             intro c hcy m
             induction m with
             | zero => intro _; exact ⟨by simp, fun i k v hk => by simp at hk⟩
             | succ m ihm =>
               intro hm
               have h0 := ihm (by omega)
               obtain ⟨y, h2⟩ := hcy m (by omega)
               have h3 := ih fuel e _ y lk hke h2
               rw [hc.1] at h3
               have := h0.append h3
               rw [List.replicate_succ', List.flatten_append, Nat.succ_mul, List.take_add]
               simpa using this
            have := key _ (fun i hi => by
             obtain ⟨y, _, h2⟩ := (mapM_get _ _ hy).2 i i (by simp [hi])
             exact ⟨y, h2⟩) n (Nat.le_refl _)
            rw [List.take_of_length_le (by rw [hl, hc.2]; exact Nat.le_refl _)] at this
            exact this
       case slice e =>
        cases hke : cellsT P d e with
        | none => rw [hke] at hg; cases hg
        | some lk =>
          rw [hke] at hg
          simp only at hg
          by_cases hc : P.cellsOf e = lk.length ∧ 0 < lk.length
          case neg => rw [if_neg hc] at hg; cases hg
          rw [if_pos hc] at hg
          cases hg
          obtain ⟨hsz, hpos⟩ := hc
          split at h <;> try (simp_all; done)
          ·rename_i heq
           refine ⟨rfl, fun i k v hk hv => ?_⟩
           cases i <;> simp at hk hv
           subst hk hv
           exact ⟨.rsl 0 lk.length fun _ => [], .sl (Nat.zero_le _) (fun i hi => by omega) (fun i j k hi => by omega), .rsl0⟩
          ·rename_i e' a len cap heq
           simp only [Option.some.injEq, TypeDesc.slice.injEq] at heq
           subst heq
           simp only at h
           split at h
           case isFalse hl => cases h
           case isTrue hl =>
            rw [Option.bind_eq_some_iff] at h
            obtain ⟨es, he, -⟩ := h
            let g : Nat → List Value := fun i => match W.cells? 0 (a.add (i * P.cellsOf e)) (P.cellsOf e) with
             | some c => c
             | none => []
            have hel : ∀ i, i < len → W.cells? 0 (a.add (i * P.cellsOf e)) (P.cellsOf e) = some (g i) ∧ CellsOk W lk (g i) := by
             intro i hi
             obtain ⟨y, _, hy⟩ := (mapM_get _ _ he).2 i i (by simp [hi])
             rw [Option.bind_eq_some_iff] at hy
             obtain ⟨c, h1, h2⟩ := hy
             have : g i = c := by simp only [g, h1]
             rw [this]
             exact ⟨h1, ih fuel e c y lk hke h2⟩
            -- the abstract cells
            have hch : ∀ i j, ∃ av, i < len → j < lk.length → ∃ k v, lk[j]? = some k ∧ (g i)[j]? = some v ∧ CKA k av ∧ VRel (st0 W) av v := by
             intro i j
             by_cases hi : i < len
             ·by_cases hj : j < lk.length
              ·obtain ⟨l1, l2⟩ := (hel i hi).2
               obtain ⟨av, c1, c2⟩ := l2 j lk[j] (g i)[j] (List.getElem?_eq_getElem hj) (List.getElem?_eq_getElem (by omega))
               exact ⟨av, fun _ _ => ⟨_, _, List.getElem?_eq_getElem hj, List.getElem?_eq_getElem (by omega), c1, c2⟩⟩
              ·exact ⟨.any, fun _ x => absurd x hj⟩
             ·exact ⟨.any, fun x => absurd x hi⟩
            have hf := fun i => Classical.axiomOfChoice (hch i)
            obtain ⟨F, hF⟩ := Classical.axiomOfChoice hf
            have hget : ∀ i j, j < lk.length → ((List.range lk.length).map (F i)).getD j .any = F i j := fun i j hj => by
             rw [List.getD_eq_getElem?_getD, List.getElem?_map, List.getElem?_range hj]; rfl
            refine ⟨rfl, fun i k v hk hv => ?_⟩
            cases i <;> simp at hk hv
            subst hk hv
            refine ⟨.rsl len lk.length fun i => (List.range lk.length).map (F i), .sl (Nat.le_trans hl.2.1 hl.2.2) (fun i hi => by simp) (fun i j k hi hk => ?_), ?_⟩
            ·have hj := (List.getElem?_eq_some_iff.1 hk).1
             rw [hget i j hj]
             obtain ⟨k', v, h1, h2, h3, h4⟩ := hF i j hi hj
             rw [hk] at h1; cases h1
             exact h3
            by_cases h0 : len = 0
            ·subst h0; exact .rsl0
            have hcell : ∀ i j, i < len → j < lk.length → ∃ u, (g i)[j]? = some u ∧ W.cell? ((a.add (i * P.cellsOf e)).add j) = some u := by
             intro i j hi hj
             have h1 := (hel i hi).1
             unfold World.cells? at h1
             rw [if_pos (Nat.zero_le _)] at h1
             exact (mapM_get _ _ h1).2 j j (by simp [hsz, hj])
            obtain ⟨b, off, spot⟩ := a
            obtain ⟨u0, _, hc0⟩ := hcell 0 0 (by omega) hpos
            rw [show ((⟨b, off, spot⟩ : Addr).add (0 * P.cellsOf e)).add 0 = ⟨b, off, spot⟩ from by simp [Addr.add]] at hc0
            unfold World.cell? at hc0
            split at hc0
            case h_2 => cases hc0
            case h_1 c ct fz hb =>
             have hspot : spot = none := by
              cases spot with
              | none => rfl
              | some s => simp at hc0
             subst hspot
             have hadd : ∀ i j, (((⟨b, off, none⟩ : Addr).add (i * P.cellsOf e)).add j) = ⟨b, off + i * P.cellsOf e + j, none⟩ := fun i j => by rw [addr_add, addr_add]
             have hall : ∀ i j, i < len → j < lk.length → ∃ u, (g i)[j]? = some u ∧ c[off + i * lk.length + j]? = some u := by
              intro i j hi hj
              obtain ⟨u, h1, h2⟩ := hcell i j hi hj
              rw [hadd] at h2
              unfold World.cell? at h2
              simp only at hb
              rw [show W.heap[(⟨b, off + i * P.cellsOf e + j, none⟩ : Addr).block]? = some (.cells c ct fz) from hb] at h2
              simp only [Option.isSome_none, Bool.false_eq_true, if_false, hsz] at h2
              exact ⟨u, h1, h2⟩
             refine .rsl (c := c) (e := ct) (fz := fz) ?_ hb ?_ (fun i hi => by simp) (fun i j hi hj => ?_) hl.2.1
             ·exact (Array.getElem?_eq_some_iff.1 hb).1
             ·obtain ⟨u, _, h2⟩ := hall (len - 1) (lk.length - 1) (by omega) (by omega)
              have := (Array.getElem?_eq_some_iff.1 h2).1
              have e1 : len * lk.length = (len - 1) * lk.length + lk.length := by
               obtain ⟨q, rfl⟩ : ∃ q, len = q + 1 := ⟨len - 1, by omega⟩
               rw [Nat.add_sub_cancel, Nat.succ_mul]
              omega
             ·obtain ⟨u, h1, h2⟩ := hall i j hi hj
              obtain ⟨k', v, q1, q2, q3, q4⟩ := hF i j hi hj
              rw [h1] at q2; cases q2
              rw [hget i j hj, Array.getD_eq_getD_getElem?, h2]
              exact q4
       case struct fs =>
        split at h <;> try (simp_all; done)
        case _ fs' heq =>
         simp only [Option.some.injEq, TypeDesc.struct.injEq] at heq
         subst heq
         split at h
         case isFalse hl => cases h
         case isTrue hl =>
          rw [Option.map_eq_some_iff] at h
          obtain ⟨ys, hy, rfl⟩ := h
          have key : ∀ (c : List Value) (l : List Field) (acc ks : List CK), (∀ f ∈ l, ∃ y, DataW.trod enc P W 0 sp held fuel f.type ((c.drop f.offset).take (P.cellsOf f.type)) = some y) → CellsOk W acc (c.take acc.length) →
            l.foldl (fun acc f => match acc with
             | some ks => match cellsT P d f.type with
               | some l => if f.offset = ks.length ∧ P.cellsOf f.type = l.length then some (ks ++ l) else none
               | none => none
             | none => none) (some acc) = some ks → CellsOk W ks (c.take ks.length) := by
           intro c l
           induction l with
           | nil => intro acc ks _ ha he; simp at he; subst he; exact ha
           | cons f l ih2 =>
             intro acc ks hf ha he
             simp only [List.foldl_cons] at he
             have hnone : ∀ l : List Field, l.foldl (fun acc f => match acc with
              | some ks => match cellsT P d f.type with
                | some l => if f.offset = ks.length ∧ P.cellsOf f.type = l.length then some (ks ++ l) else none
                | none => none
              | none => none) none = (none : Option (List CK)) := by
              intro l; induction l with
              | nil => rfl
              | cons a l ih => simpa using ih
             cases hl2 : cellsT P d f.type with
             | none => rw [hl2] at he; simp only at he; rw [hnone] at he; cases he
             | some lk =>
               rw [hl2] at he
               simp only at he
               by_cases hc : f.offset = acc.length ∧ P.cellsOf f.type = lk.length
               ·rw [if_pos hc] at he
                obtain ⟨y, hy⟩ := hf f (by simp)
                have := ih fuel f.type _ y lk hl2 hy
                rw [hc.1, hc.2] at this
                have hap := ha.append this
                refine ih2 (acc ++ lk) ks (fun g hg => hf g (by simp [hg])) ?_ he
                rw [List.length_append, List.take_add]
                exact hap
               ·rw [if_neg hc, hnone] at he; cases he
          split at hg
          case h_2 => cases hg
          case h_1 ks' he =>
           split at hg
           case isFalse => cases hg
           case isTrue hc =>
            cases hg
            have := key _ fs.toList [] ks (fun f hf => by
             obtain ⟨i, hi⟩ := List.getElem?_of_mem hf
             obtain ⟨y, _, h2⟩ := (mapM_get _ _ hy).2 i f hi
             exact ⟨y, h2⟩) ⟨by simp, fun i k v hk => by simp at hk⟩ he
            rw [List.take_of_length_le (by rw [hl, hc]; exact Nat.le_refl _)] at this
            exact this

end Go.V
end
section
set_option linter.unusedVariables false
set_option linter.unusedSimpArgs false
namespace Go.V
set_option linter.unusedSectionVars false
variable [Inhabited GivT]
open Go.ChangeShapes
theorem AV.Le.rslD {n st : Nat} {f g : Nat → List AV} (h : ∀ i, i < n → (g i).length = st ∧ ∀ j, j < st → AV.Le ((f i).getD j .any) ((g i).getD j .any)) : AV.Le (.rsl n st f) (.rsl n st g) := by
 intro S v hv
 cases hv with
 | rsl0 => exact .rsl0
 | rsl hi hb hsz hf hh hcap => exact .rsl hi hb hsz (fun i hi => (h i hi).1) (fun i j hi hj => (h i hi).2 j hj _ _ (hh i j hi hj)) hcap
theorem AV.Le.aggD {cs ds : List AV} (hl : ds.length = cs.length) (h : ∀ j, j < cs.length → AV.Le (cs.getD j .any) (ds.getD j .any)) : AV.Le (.agg cs) (.agg ds) := by
 intro S v hv
 cases hv with
 | agg hn hh => exact .agg (hn.trans hl.symm) fun k hk => h k (by omega) _ _ (hh k (by omega))

/-- Cells that are told. -/
def Told (ks : List CK) (cs : List AV) : Prop := cs.length = ks.length ∧ ∀ j k, ks[j]? = some k → CKA k (cs.getD j .any)

/-- A struct that is handed in. -/
theorem trod_agg {H : Type} {enc : TypeId × Value → H} {P : Program} {W : World} {held : Bool} {sp : Nat → Bool} {t dd : Nat} {v : Value} {d : DataW H} {ps : List MemPlace} {ks : List CK}
  (hk : cellsT P dd t = some ks) (hn : 2 ≤ ks.length) (h : DataW.Trod enc P W 0 sp held t v d ps) : ∃ cs : List AV, Told ks cs ∧ VRel (st0 W) (.agg cs) v := by
 obtain ⟨fuel, h⟩ := h
 obtain ⟨hl, hz⟩ := trod_cells dd fuel t _ _ ks hk h
 cases v with
 | agg vs =>
   simp only [Value.cells] at hl hz
   have hl2 : vs.size = ks.length := by simpa using hl
   have hch : ∀ j : Nat, ∃ av : AV, ∀ (k : CK) (u : Value), ks[j]? = some k → vs[j]? = some u → CKA k av ∧ VRel (st0 W) av u := fun j => by
    cases hkj : ks[j]? with
    | none => exact ⟨.any, fun k u h => by cases h⟩
    | some k =>
      cases hvj : vs[j]? with
      | none => exact ⟨.any, fun k u _ h => by cases h⟩
      | some u =>
        obtain ⟨av, h1, h2⟩ := hz j k u hkj (by simpa using hvj)
        exact ⟨av, fun k' u' e1 e2 => by cases e1; cases e2; exact ⟨h1, h2⟩⟩
   obtain ⟨F, hF⟩ := Classical.axiomOfChoice hch
   have hget : ∀ j, j < ks.length → ((List.range ks.length).map F).getD j .any = F j := fun j hj => by
    rw [List.getD_eq_getElem?_getD, List.getElem?_map, List.getElem?_range hj]; rfl
   refine ⟨(List.range ks.length).map F, ⟨by simp, fun j k hk => ?_⟩, .agg (by simpa using hl2) fun j hj => ?_⟩
   ·have hj := (List.getElem?_eq_some_iff.1 hk).1
    rw [hget j hj]
    exact (hF j k vs[j] hk (by simp [show j < vs.size by omega])).1
   ·have hj : j < ks.length := by simpa using hj
    rw [hget j hj, Array.getD_eq_getD_getElem?, Array.getElem?_eq_getElem (by omega)]
    exact (hF j ks[j] vs[j] (List.getElem?_eq_getElem hj) (by simp [show j < vs.size by omega])).2
 | _ => simp [Value.cells] at hl; omega
/-- A slice of what can be told. -/
theorem told_slice {α : Type} {ks : List CK} (en : α → List AV) (d0 : α) (hd : ∀ cs, Told ks cs → ∃ x : α, (en x).length = ks.length ∧ ∀ j, j < ks.length → AV.Le (cs.getD j .any) ((en x).getD j .any)) {av : AV} (h : CKA (.sl ks) av) :
  ∃ l : List α, l.length ≤ maxLen ∧ AV.Le av (.rsl l.length ks.length fun i => en (l.getD i d0)) := by
 cases h with
 | @sl _ n f hn hl hh =>
   have hch : ∀ i, ∃ x : α, i < n → (en x).length = ks.length ∧ ∀ j, j < ks.length → AV.Le ((f i).getD j .any) ((en x).getD j .any) := fun i => by
    by_cases hi : i < n
    ·obtain ⟨x, h1⟩ := hd (f i) ⟨hl i hi, fun j k hk => hh i j k hi hk⟩
     exact ⟨x, fun _ => h1⟩
    ·exact ⟨d0, fun x => absurd x hi⟩
   obtain ⟨F, hF⟩ := Classical.axiomOfChoice hch
   refine ⟨(List.range n).map F, by simpa using hn, ?_⟩
   rw [List.length_map, List.length_range]
   refine AV.Le.rslD fun i hi => ?_
   have e : ((List.range n).map F).getD i d0 = F i := by
    rw [List.getD_eq_getElem?_getD, List.getElem?_map, List.getElem?_range hi]; rfl
   rw [e]
   exact hF i hi
theorem told_int {cs : List AV} {k : IntKind} (j : Nat) {ks : List CK} (h : Told ks cs) (hk : ks[j]? = some (.int k)) : ∃ z : Int, cs.getD j .any = .lit (.int k z) ∧ (Lit.int k z).wf = true := by
 have := h.2 j _ hk
 generalize cs.getD j .any = x at *
 cases this with
 | int hw => exact ⟨_, rfl, hw⟩
end Go.V
end
section
set_option linter.unusedVariables false
set_option linter.unusedSimpArgs false
set_option maxHeartbeats 4000000
set_option maxRecDepth 100000
namespace Go.Proofs.Ytdopkbldjagmlaa
open Go.V
theorem gsample_tri (n : Int) (H : Hp) : PTri Try.prog (fnA 35) [i64 n] H (smG n).av := by
 refine Tri.resLe (R1 := fun r H' => r = .ret (.agg [.rsl 3 4 (fun i => [[i64 20, i64 2, i64 12, i64 (-1)], [i64 12, i64 0, i64 n, i64 0], [i64 9, i64 3, i64 12, i64 1]].getD i []), .rsl 2 3 (fun i => [[i64 5, i64 6, i64 7], [i64 4, i64 4, i64 6]].getD i []), i64 8, i64 1, i64 16, .rsl 2 1 (fun i => [[i64 4], [i64 0]].getD i []), .rsl 2 3 (fun i => [[i64 4, i64 0, i64 8], [i64 6, i64 0, i64 8]].getD i [])]) ∧ H' = H) ?_ fun r H' h => .inr ⟨_, (smG n).av, h.1, ?_, rfl, h.2⟩
 ·refine Tri.drop ?_
  refine tri_v0 (fun _ => false) Try.func35 (by kernel_rfl) rfl (by simp only [List.length_append, List.length_cons, List.length_nil, Try.ntmps35]; decide) ?_
  simp only [vsAll, cellA, cellsA, fillA, okParts, buildSliceA, partIdx, elemsA, lensA, okAll, stAll, opsA, partsA, partsOk, opA, allocA, dstOk, argFr, Nat.reduceAdd, Nat.reduceMul, Nat.reduceLT, Nat.reduceLeDiff, Nat.reduceEqDiff, Int.reduceNeg, ↓reduceIte, reduceCtorEq, eq_self, wtAll, Try.ntmps35]
  intro i2 hh_i2; (try simp only [Hp.set_none, ite_none] at hh_i2)
  refine callK_pure (gspan_tri 5 6 _) ?_
  simp only [vsAll, cellA, cellsA, fillA, okParts, okAll, stAll, opsA, partsA, partsOk, opA, dstOk, Nat.reduceAdd, Nat.reduceLT, Nat.reduceLeDiff, Int.reduceNeg, ↓reduceIte, eq_self, wtAll]
  refine callK_pure (gspan_tri 4 4 _) ?_
  simp only [vsAll, loadA, loadRow, partA, partOk, cellA, cellsA, fillA, okParts, buildSliceA, partIdx, elemsA, lensA, partsA, partsOk, opA, newCells, okCells, storeObj, dstOk, resA, retA.eq_1, Nat.reduceAdd, Nat.reduceMul, Nat.reduceLT, Nat.reduceLeDiff, Nat.reduceEqDiff, Int.reduceNeg, ↓reduceIte, eq_self, wtAll, Try.results35]
  exact dropR_pure rfl (by (repeat (first | exact HSub_rfl | refine HSub_put_eq (by simp only [vsAll, ↓reduceIte, eq_self, reduceCtorEq, Nat.reduceEqDiff, hh_i2]) ?_ | refine HSub_drop2 (by simp only [eq_self, hh_i2]) ?_ | refine HSub_keep_eq (by simp only [vsAll, ↓reduceIte, eq_self, reduceCtorEq, Nat.reduceEqDiff, hh_i2]) ?_)))
 ·refine AV.Le.aggD rfl fun j hj => ?_
  match j, hj with
  | 0, _ =>
    refine AV.Le.rsl fun i hi => ?_
    match i, hi with
    | 0, _ => rfl
    | 1, _ => rfl
    | 2, _ => rfl
  | 1, _ =>
    refine AV.Le.rsl fun i hi => ?_
    match i, hi with
    | 0, _ => rfl
    | 1, _ => rfl
  | 2, _ => exact AV.Le.refl _
  | 3, _ => exact AV.Le.refl _
  | 4, _ => exact AV.Le.refl _
  | 5, _ =>
    refine AV.Le.rsl fun i hi => ?_
    match i, hi with
    | 0, _ => rfl
    | 1, _ => rfl
  | 6, _ =>
    refine AV.Le.rsl fun i hi => ?_
    match i, hi with
    | 0, _ => rfl
    | 1, _ => rfl
theorem gint2 (a b : Int) : AV.Le (.rsl 2 1 (fun i => [[i64 a], [i64 b]].getD i [])) (intsAV [a, b]) := AV.Le.rsl fun i hi => by
 match i, hi with
 | 0, _ => rfl
 | 1, _ => rfl
theorem gint3 (a b c : Int) : AV.Le (.rsl 3 1 (fun i => [[i64 a], [i64 b], [i64 c]].getD i [])) (intsAV [a, b, c]) := AV.Le.rsl fun i hi => by
 match i, hi with
 | 0, _ => rfl
 | 1, _ => rfl
 | 2, _ => rfl
theorem gint4 (a b c d : Int) : AV.Le (.rsl 4 1 (fun i => [[i64 a], [i64 b], [i64 c], [i64 d]].getD i [])) (intsAV [a, b, c, d]) := AV.Le.rsl fun i hi => by
 match i, hi with
 | 0, _ => rfl
 | 1, _ => rfl
 | 2, _ => rfl
 | 3, _ => rfl
theorem gsp3 (a b c d e f : Int) : AV.Le (.rsl 3 2 (fun i => [[i64 a, i64 b], [i64 c, i64 d], [i64 e, i64 f]].getD i [])) (spaAV [(a, b), (c, d), (e, f)]) := AV.Le.rsl fun i hi => by
 match i, hi with
 | 0, _ => rfl
 | 1, _ => rfl
 | 2, _ => rfl
theorem args2 {f : Nat} {x y y' : AV} {H : Hp} {v : AV} (h : PTri Try.prog (fnA f) [x, y'] H v) (hy : AV.Le y y') : PTri Try.prog (fnA f) [x, y] H v := Tri.args h rfl fun j hj => by
 match j, hj with
 | 0, _ => exact AV.Le.refl _
 | 1, _ => exact hy
theorem args3 {f : Nat} {x z y y' : AV} {H : Hp} {v : AV} (h : PTri Try.prog (fnA f) [x, z, y'] H v) (hy : AV.Le y y') : PTri Try.prog (fnA f) [x, z, y] H v := Tri.args h rfl fun j hj => by
 match j, hj with
 | 0, _ => exact AV.Le.refl _
 | 1, _ => exact AV.Le.refl _
 | 2, _ => exact hy
theorem awake_tri (H : Hp) : PTri Try.prog (fnA 10) [] H (boo true) := by
 have kn := sm_ok.near
 have kn8 := sm_ok8.near
 refine Tri.drop ?_
 refine tri_v0 (fun _ => false) Try.func10 (by kernel_rfl) rfl (by simp only [List.length_append, List.length_nil, Try.ntmps10]; decide) ?_
 simp only [vsAll, okAll, stAll, opsA, opA, dstOk, nilSliceOp, Nat.reduceLT, eq_self, Try.ntmps10]
 refine callK_pure (gsample_tri 10 _) ?_
 simp only [vsAll, loadA, loadRow, partA, partOk, cellA, okAll, stAll, opsA, opA, allocA, newCells, okCells, storeObj, dstOk, Nat.reduceAdd, Nat.reduceLT, Nat.reduceEqDiff, ↓reduceIte, eq_self, wtAll]
 intro i1 hh_i1; (try simp only [Hp.set_none, ite_none] at hh_i1)
 refine callK_pure (wready_tri (smG 10) 1 _ kn) ?_
 simp only [vsAll, loadA, loadRow, partA, partOk, extractA, cellA, cellsA, okParts, buildSliceA, partIdx, elemsA, lensA, okAll, stAll, opsA, partsA, partsOk, opA, dstOk, nilSliceOp, Nat.reduceAdd, Nat.reduceMul, Nat.reduceLT, Nat.reduceLeDiff, Nat.reduceEqDiff, ↓reduceIte, eq_self, wtAll, sm1, sm2]
 refine callK_pure (args3 (wrow_tri (smG 10) 0 [0, 1, 2] _ kn (by decide)) (gint3 0 1 2)) ?_
 simp only [vsAll, loadA, loadRow, partA, partOk, extractA, cellA, cellsA, okParts, buildSliceA, partIdx, elemsA, lensA, okAll, stAll, opsA, partsA, partsOk, opA, dstOk, nilSliceOp, Nat.reduceAdd, Nat.reduceMul, Nat.reduceLT, Nat.reduceLeDiff, Nat.reduceEqDiff, ↓reduceIte, eq_self, wtAll, sm3, sm4]
 refine callK_pure (args3 (wchk_tri (smG 10) 0 [1, 0] _ kn (by decide)) (gint2 1 0)) ?_
 simp only [vsAll, loadA, loadRow, partA, partOk, extractA, okAll, stAll, opsA, opA, dstOk, nilSliceOp, Nat.reduceAdd, Nat.reduceLT, Nat.reduceEqDiff, ↓reduceIte, eq_self, wtAll, sm5, sm6]
 refine callK_pure (wcan_tri (smG 10) 1 6 _ kn) ?_
 simp only [vsAll, loadA, loadRow, partA, partOk, extractA, okAll, stAll, opsA, opA, dstOk, nilSliceOp, Nat.reduceAdd, Nat.reduceLT, Nat.reduceEqDiff, ↓reduceIte, eq_self, wtAll, sm7, sm8]
 refine callK_pure (wsets_tri (smG 10) 1 _ kn) ?_
 simp only [vsAll, loadA, loadRow, partA, partOk, extractA, okAll, stAll, opsA, opA, dstOk, nilSliceOp, Nat.reduceAdd, Nat.reduceLT, Nat.reduceEqDiff, ↓reduceIte, eq_self, wtAll, sm9, sm10]
 refine callK_pure (wdeal_tri (smG 10) _ kn) ?_
 simp only [vsAll, loadA, loadRow, partA, partOk, extractA, okAll, stAll, opsA, opA, dstOk, nilSliceOp, Nat.reduceAdd, Nat.reduceLT, Nat.reduceEqDiff, ↓reduceIte, eq_self, wtAll, sm11, sm12, sm13]
 refine callK_pure (wenough_tri (smG 10) _ kn) ?_
 simp only [vsAll, extractA, okAll, stAll, opsA, opA, dstOk, nilSliceOp, Nat.reduceAdd, Nat.reduceLT, Nat.reduceEqDiff, ↓reduceIte, eq_self, sm14, sm15]
 refine callK_pure (gsample_tri 8 _) ?_
 simp only [vsAll, okAll, stAll, opsA, opA, dstOk, Nat.reduceLT, ↓reduceIte, eq_self]
 refine callK_pure (wleave_tri (smG 8) _ kn8) ?_
 simp only [vsAll, loadA, loadRow, partA, partOk, extractA, okAll, stAll, opsA, opA, dstOk, nilSliceOp, Nat.reduceAdd, Nat.reduceLT, Nat.reduceEqDiff, ↓reduceIte, eq_self, wtAll, sm16, sm17]
 refine callK_pure (wcan_tri (smG 10) 0 7 _ kn) ?_
 simp only [vsAll, binA, binLitA, intA, extractA, pickA, opA, guardV, dstOk, nilSliceOp, Nat.reduceAdd, Nat.reduceLT, Nat.reduceEqDiff, ↓reduceIte, implies_true, eq_self, sm18, sm19]
 refine gcall _ (fun hg => ⟨by simp only [vsAll, opA], by simp only [vsAll, okAll, opsA, opA], gspan_tri 6 6 _⟩) ?_
 simp only [vsAll, guardV, dstOk, Nat.reduceLT, Nat.reduceEqDiff, ↓reduceIte, eq_self]
 refine gcall _ (fun hg => ⟨by simp only [vsAll, opA], by simp only [vsAll, okAll, opsA, opA], gspan_tri 8 9 _⟩) ?_
 simp only [vsAll, guardV, dstOk, Nat.reduceLT, Nat.reduceEqDiff, ↓reduceIte, eq_self]
 refine gcall _ (fun hg => ⟨by simp only [vsAll, opA], by simp only [vsAll, okAll, opsA, opA], gspan_tri 10 11 _⟩) ?_
 simp only [vsAll, cellsA, okParts, buildSliceA, partIdx, elemsA, lensA, partsA, partsOk, opA, guardV, dstOk, Nat.reduceAdd, Nat.reduceMul, Nat.reduceLT, Nat.reduceLeDiff, Nat.reduceEqDiff, ↓reduceIte, eq_self, wtAll]
 refine gcall (boo true) (fun hg => ⟨by simp only [vsAll, opA], by simp only [vsAll, okAll, opsA, opA, Nat.reduceEqDiff, ↓reduceIte, eq_self], args2 (gspans_tri [(6, 6), (8, 9), (10, 11)] [(6, 6), (8, 9), (10, 11)] _ (by decide) (by decide)) (gsp3 6 6 8 9 10 11)⟩) ?_
 simp only [vsAll, binA, binLitA, intA, unA, cellA, cellsA, okParts, buildSliceA, partIdx, elemsA, lensA, pickA, partsA, partsOk, opA, guardV, dstOk, Nat.reduceAdd, Nat.reduceMul, Nat.reduceLT, Nat.reduceLeDiff, Nat.reduceEqDiff, ↓reduceIte, implies_true, eq_self, wtAll]
 refine gcall (boo true) (fun hg => ⟨by simp only [vsAll, opA], by simp only [vsAll, okAll, opsA, opA, Nat.reduceEqDiff, ↓reduceIte, eq_self], args2 (gints_tri [1, 2] [1, 2] _ (by decide) (by decide)) (gint2 1 2)⟩) ?_
 simp only [vsAll, binA, binLitA, intA, unA, cellA, cellsA, okParts, buildSliceA, partIdx, elemsA, lensA, pickA, partsA, partsOk, opA, guardV, dstOk, Nat.reduceAdd, Nat.reduceMul, Nat.reduceLT, Nat.reduceLeDiff, Nat.reduceEqDiff, ↓reduceIte, implies_true, eq_self, wtAll]
 refine gcall (boo true) (fun hg => ⟨by simp only [vsAll, opA], by simp only [vsAll, okAll, opsA, opA, Nat.reduceEqDiff, ↓reduceIte, eq_self], args2 (gints_tri [0, 1, 2] [0, 1, 2] _ (by decide) (by decide)) (gint3 0 1 2)⟩) ?_
 simp only [vsAll, binA, binLitA, intA, unA, cellA, cellsA, okParts, buildSliceA, partIdx, elemsA, lensA, pickA, okAll, stAll, opsA, partsA, partsOk, opA, guardV, dstOk, Nat.reduceAdd, Nat.reduceMul, Nat.reduceLT, Nat.reduceLeDiff, Nat.reduceEqDiff, ↓reduceIte, implies_true, eq_self, wtAll]
 refine callK_pure (v := boo true) (args2 (gints_tri [0, 2, 4, 6] [0, 2, 4, 6] _ (by decide) (by decide)) (gint4 0 2 4 6)) ?_
 simp only [vsAll, binA, binLitA, intA, cellA, cellsA, okParts, buildSliceA, partIdx, elemsA, lensA, pickA, partsA, partsOk, opA, guardV, dstOk, Nat.reduceAdd, Nat.reduceMul, Nat.reduceLT, Nat.reduceLeDiff, Nat.reduceEqDiff, ↓reduceIte, implies_true, eq_self, wtAll]
 refine gcall (boo true) (fun hg => ⟨by simp only [vsAll, opA], by simp only [vsAll, okAll, opsA, opA, Nat.reduceEqDiff, ↓reduceIte, eq_self], args2 (gints_tri [0, 0, 1] [0, 0, 1] _ (by decide) (by decide)) (gint3 0 0 1)⟩) ?_
 simp only [vsAll, binA, binLitA, intA, pickA, opA, guardV, dstOk, nilSliceOp, resA, retA.eq_1, Nat.reduceLT, Nat.reduceEqDiff, ↓reduceIte, implies_true, eq_self, Try.results10]
 exact dropR_pure rfl (by (repeat (first | exact HSub_rfl | refine HSub_put_eq (by simp only [vsAll, ↓reduceIte, eq_self, reduceCtorEq, Nat.reduceEqDiff, hh_i1]) ?_ | refine HSub_drop2 (by simp only [eq_self, hh_i1]) ?_ | refine HSub_keep_eq (by simp only [vsAll, ↓reduceIte, eq_self, reduceCtorEq, Nat.reduceEqDiff, hh_i1]) ?_)))
end Go.Proofs.Ytdopkbldjagmlaa
end
section
set_option linter.unusedVariables false
namespace Go.Proofs.Ytdopkbldjagmlaa
open Go.V
def byF (b : Nat → Int) : Nat → List AV := fun i => [.lit (.int .u8 (b i))]
theorem byF_at (b : Nat → Int) (i : Nat) : byF b i = [.lit (.int .u8 (b i))] := rfl
end Go.Proofs.Ytdopkbldjagmlaa
end
section
set_option linter.unusedVariables false
set_option linter.unusedSimpArgs false
set_option maxHeartbeats 4000000
set_option maxRecDepth 100000
namespace Go.Proofs.Ytdopkbldjagmlaa
open Go.V
def ascN (S i : Nat) : List Int := ((List.range i).filter fun n => S.testBit n).map fun n : Nat => (n : Int)
theorem ascN_yes {S i : Nat} (h : S.testBit i = true) : ascN S (i + 1) = ascN S i ++ [(i : Int)] := by
 simp [ascN, List.range_succ, List.filter_append, h]
theorem ascN_no {S i : Nat} (h : S.testBit i = false) : ascN S (i + 1) = ascN S i := by
 simp [ascN, List.range_succ, List.filter_append, h]
theorem ascN_len (S i : Nat) : (ascN S i).length ≤ i := by
 have := List.length_filter_le (fun n => S.testBit n) (List.range i)
 simpa [ascN] using this
theorem ascN_row (S i : Nat) : RowOf S (ascN S i) := by
 refine rowOf_iff.2 ⟨?_, fun x hx => ?_⟩
 ·unfold ascN
  refine List.pairwise_map.2 ?_
  refine List.Pairwise.imp (R := fun a b : Nat => a ≠ b) (S := fun a b : Nat => (a : Int) ≠ (b : Int)) (fun {a b} h e => h (by omega)) ?_
  exact List.Pairwise.filter _ List.nodup_range
 ·simp only [ascN, List.mem_map, List.mem_filter] at hx
  obtain ⟨n, ⟨_, hb⟩, e⟩ := hx
  exact ⟨n, e.symm, hb⟩
theorem ascN_full {g : Gg} {S : Nat} (hN : g.N ≤ 5) (hS : S < 2 ^ g.N) : (ascN S g.N).length = pop S := by
 refine (rowOf_full (lt32 hN hS) (ascN_row S g.N)).2.1 ?_
 refine Nat.eq_of_testBit_eq fun n => ?_
 rw [Bool.eq_iff_iff, rowOf_set (ascN_row S g.N)]
 constructor
 ·intro h
  simp only [ascN, List.mem_map, List.mem_filter] at h
  obtain ⟨m, ⟨_, hb⟩, e⟩ := h
  have : m = n := by omega
  subst this; exact hb
 ·intro h
  simp only [ascN, List.mem_map, List.mem_filter, List.mem_range]
  exact ⟨n, ⟨bit_lt hS h, h⟩, rfl⟩
/-- Two places of a list are exchanged. -/
def swI (i k q : Nat) : Nat := if q = i then k else if q = k then i else q
def swL (l : List Int) (i k : Nat) : List Int := (List.range l.length).map fun q => l.getD (swI i k q) 0
theorem swL_len (l : List Int) (i k : Nat) : (swL l i k).length = l.length := by simp [swL]
theorem swL_at (l : List Int) (i k : Nat) {q : Nat} (h : q < l.length) : (swL l i k).getD q 0 = l.getD (swI i k q) 0 := by
 simp [swL, List.getD_eq_getElem?_getD, h]
theorem swI_lt {i k n q : Nat} (hi : i < n) (hk : k < n) (h : q < n) : swI i k q < n := by
 unfold swI
 split
 ·exact hk
 ·split
  ·exact hi
  ·exact h
theorem swI_inj {i k a b : Nat} (h : swI i k a = swI i k b) : a = b := by
 unfold swI at h
 split at h <;> split at h <;> (try split at h) <;> (try split at h) <;> omega
theorem swL_row {S : Nat} {l : List Int} (h : RowOf S l) {i k : Nat} (hi : i < l.length) (hk : k < l.length) : RowOf S (swL l i k) := by
 refine ⟨fun q hq => ?_, fun a b hab hb e => ?_⟩
 ·rw [swL_len] at hq
  rw [swL_at _ _ _ hq]
  exact h.at_ _ (swI_lt hi hk hq)
 ·rw [swL_len] at hb
  rw [swL_at _ _ _ (by omega), swL_at _ _ _ hb] at e
  have ha' := swI_lt hi hk (show a < l.length by omega)
  have hb' := swI_lt hi hk hb
  rcases Nat.lt_trichotomy (swI i k a) (swI i k b) with q | q | q
  ·exact h.nd _ _ q hb' e
  ·have := swI_inj q; omega
  ·exact h.nd _ _ q ha' e.symm
theorem swL_upd (l : List Int) {i k : Nat} (hi : i < l.length) (hk : k < l.length) (q : Nat) (hq : q < l.length) : updF l.length k (updF l.length i (intF l) [i64 (l.getD k 0)]) [i64 (l.getD i 0)] q = intF (swL l i k) q := by
 rw [Go.V.updF_at hk hq, Go.V.updF_at hi hq]
 simp only [intF]
 rw [swL_at l i k hq]
 unfold swI
 by_cases e1 : q = k
 ·subst e1
  rw [if_pos rfl]
  by_cases e2 : q = i
  ·subst e2; rw [if_pos rfl]
  ·rw [if_neg e2, if_pos rfl]
 ·rw [if_neg e1]
  by_cases e2 : q = i
  ·subst e2; rw [if_pos rfl, if_pos rfl]
  ·rw [if_neg e2, if_neg e2, if_neg e1]
theorem upd_drop (n i q : Nat) (l : List Int) (x : Int) : List.drop 1 (updF n i (intF l) [i64 x] q) = [] := by
 unfold updF
 split
 ·rfl
 ·show List.drop 1 (if q = i then _ else _) = _
  split <;> rfl
def drawR (S : Nat) (H : Hp) : Res → Hp → Prop := fun r H' => ∃ l : List Int, RowOf S l ∧ l.length = pop S ∧ ∃ id, H id = none ∧ r = .ret (.sl id 1 l.length) ∧ H' = H.set id (.row 1 l.length (intF l))
theorem drawnM_tri (g : Gg) (S N : Nat) (b : Nat → Int) (H : Hp) (k : OkG g) (hS : S < 2 ^ g.N) (hN : N < 2 ^ 63) (hb : ∀ i, i < N → 0 ≤ b i ∧ b i ≤ 255) : Tri Try.prog (fnA 17) [g.av, i64 (S : Nat), .rsl N 1 (byF b)] H (drawR S H) := by
 have nS := k.nS
 have hN5 : g.N ≤ 5 := nS
 have hNe : g.N = g.sm.length := rfl
 have hS5 := lt32 hN5 hS
 have hal := fun i => ascN_len S i
 refine Tri.drop ?_
 refine tri_v0 (mset [7]) Try.func17 (by kernel_rfl) rfl (by simp only [List.length_append, List.length_cons, List.length_nil, Try.ntmps17]; decide) ?_
 simp only [vsAll, loadA, loadRow, partA, partOk, fieldAddrA, lenA, boxA, boxZ, opA, dstOk, nilSliceOp, argFr, Nat.reduceAdd, Nat.reduceLT, Nat.reduceEqDiff, Nat.reduceBEq, ↓reduceIte, eq_self, wtAll, Try.ntmps17, Go.V.nilA]
 intro i7 hh_i7; (try simp only [Hp.set_none, ite_none] at hh_i7)
 refine vs_loop (σ := Nat) (fun i => i ≤ g.N) (fun i => [(1, i64 (S : Nat)), (2, .rsl N 1 (byF b)), (7, .sl i7 1 (ascN S i).length), (13, i64 g.N), (14, i64 i)]) (fun i => H.set i7 (.row 1 (ascN S i).length (intF (ascN S i)))) (fun i => g.N - i) 0 (Nat.zero_le _) ?_ ?_ fun i hi => ?_
 ·simp only [vsAll, argFr, Nat.reduceEqDiff, ↓reduceIte, eq_self, hNe, Int.natCast_zero]
  try exact AV.Le.refl _
 ·refine HSub_put (o' := .row 1 0 fun _ => []) (by simp only [vsAll, ↓reduceIte, eq_self]) (row0_le _ _ _) ?_
  (repeat (first | exact HSub_rfl | refine HSub_put_eq (by simp only [vsAll, ↓reduceIte, eq_self, reduceCtorEq, Nat.reduceEqDiff, hh_i7]) ?_ | refine HSub_drop2 (by simp only [eq_self, hh_i7]) ?_ | refine HSub_keep_eq (by simp only [vsAll, ↓reduceIte, eq_self, reduceCtorEq, Nat.reduceEqDiff, hh_i7]) ?_))
 ·simp only [vsAll, binA, binLitA, intA, opA, dstOk, Nat.reduceLT, Nat.reduceEqDiff, ↓reduceIte, eq_self]
  refine condD (fun hd => ?_) (fun hd => ?_)
  ·have his : i < g.N := by ((try clear hh_i7); omega)
   have hl := hal i
   have h1 : (S : Int) / 2 ^ i = ((S / 2 ^ i : Nat) : Int) := by simp
   have h2 : S / 2 ^ i ≤ S := Nat.div_le_self _ _
   have hbq : decide ((((S : Int) / 2 ^ i).toNat &&& 1 : Nat) = (1 : Int)) = S.testBit i := bit_eq S i
   simp only [vsAll, binA, binLitA, intA, opA, dstOk, nilSliceOp, Nat.reduceLT, Nat.reduceEqDiff, Nat.reduceBEq, Int.reduceLE, Int.reduceToNat, ↓reduceIte, eq_self]
   refine ⟨⟨by ((try clear hh_i7); omega), by ((try clear hh_i7); omega), rfl⟩, ⟨?_, ?_, by simp only [InR_i64]; ((try clear hh_i7); omega)⟩, ?_⟩
   ·rw [h1]; exact Int.natCast_nonneg _
   ·rw [h1]
    generalize S / 2 ^ i = q at *
    simp only [InR_i64]; ((try clear hh_i7); omega)
   rw [hbq]
   refine condV (fun hc => ?_) (fun hc => ?_)
   ·have es := ascN_yes hc
    have el : (ascN S (i + 1)).length = (ascN S i).length + 1 := by rw [es]; simp
    simp only [vsAll, binA, binLitA, intA, cellA, cellsA, okParts, buildSliceA, partIdx, elemsA, lensA, partsA, partsOk, opA, appendA, dstOk, nilSliceOp, Nat.reduceMul, Nat.reduceLT, Nat.reduceLeDiff, Nat.reduceEqDiff, Nat.reduceBEq, ↓reduceIte, eq_self, wtAll]
    refine ⟨fun q hq => by (have : q = 0 := by ((try clear hh_i7); omega)); subst this; simp only [vsAll, cellA, okCells, eq_self], by ((try clear hh_i7); omega), by ((try clear hh_i7); omega), by simp only [InR_i64]; ((try clear hh_i7); omega), loop_next (i + 1) (by ((try clear hh_i7); omega)) (by ((try clear hh_i7); omega)) ?_ ?_⟩
    ·simp only [vsAll, Nat.reduceEqDiff, ↓reduceIte, eq_self, el, Int.natCast_add, Int.natCast_one]
     try exact AV.Le.refl _
    ·rw [el, es, app_ints (ascN S i) (i : Int) _ rfl]
     (repeat (first | exact HSub_rfl | refine HSub_put_eq (by simp only [vsAll, ↓reduceIte, eq_self]) ?_ | refine HSub_drop2 (by simp only [eq_self, hh_i7]) ?_ | refine HSub_keep_eq (by simp only [vsAll, ↓reduceIte, eq_self, reduceCtorEq, Nat.reduceEqDiff, hh_i7]) ?_))
   ·have es := ascN_no hc
    simp only [vsAll, binA, binLitA, intA, opA, dstOk, Nat.reduceLT, Nat.reduceEqDiff, ↓reduceIte, eq_self]
    refine ⟨by simp only [InR_i64]; ((try clear hh_i7); omega), loop_next (i + 1) (by ((try clear hh_i7); omega)) (by ((try clear hh_i7); omega)) ?_ ?_⟩
    ·simp only [vsAll, Nat.reduceEqDiff, ↓reduceIte, eq_self, es, Int.natCast_add, Int.natCast_one]
     try exact AV.Le.refl _
    ·rw [es]; exact HSub_rfl
  ·have ei : i = g.N := by ((try clear hh_i7); omega)
   subst ei
   have hfull := ascN_full hN5 hS
   have hrow := ascN_row S g.N
   have hLb := hal g.N
   generalize hL : (ascN S g.N).length = L at hfull hLb
   simp only [vsAll, lenA, opA, dstOk, Nat.reduceLT, Nat.reduceEqDiff, ↓reduceIte, eq_self, wtAll]
   refine vs_loop (σ := Nat × List Int) (fun y => y.1 ≤ L ∧ RowOf S y.2 ∧ y.2.length = L) (fun y => [(2, .rsl N 1 (byF b)), (7, .sl i7 1 L), (28, i64 L), (29, i64 y.1)]) (fun y => H.set i7 (.row 1 L (intF y.2))) (fun y => L - y.1) (0, ascN S g.N) ⟨Nat.zero_le _, hrow, hL⟩ ?_ HSub_rfl fun y hy => ?_
   ·simp only [vsAll, Nat.reduceEqDiff, ↓reduceIte, eq_self, Int.natCast_zero]
   ·obtain ⟨i, l⟩ := y
    obtain ⟨hi, hlr, hll⟩ := hy
    simp only [] at hi hlr hll
    have hfin : ∀ kk : Nat, i < L → kk < L → ∀ q, q < L → updF L kk (updF L i (intF l) [i64 (l.getD kk 0)]) [i64 (l.getD i 0)] q = intF (swL l i kk) q := fun kk h1 h2 q hq => by
     subst hll
     exact swL_upd l h1 h2 q hq
    simp only [vsAll, binA, binLitA, intA, opA, dstOk, Nat.reduceLT, Nat.reduceEqDiff, ↓reduceIte, eq_self]
    refine condD (fun hd => ?_) (fun hd => ?_)
    ·have his : i < L := by ((try clear hh_i7); omega)
     have hend : ∀ kk : Nat, i ≤ kk → kk < L → Go.V.HSub ((H.set i7 (.row 1 L (intF l))).set i7 (.row 1 L (updF L kk (updF L i (intF l) [i64 (l.getD kk 0)]) [i64 (l.getD i 0)]))) (H.set i7 (.row 1 L (intF (swL l i kk)))) := fun kk h1 h2 => by
      refine HSub_put (o' := .row 1 L (updF L kk (updF L i (intF l) [i64 (l.getD kk 0)]) [i64 (l.getD i 0)])) (by simp only [vsAll, ↓reduceIte, eq_self]) (row_ext fun q hq => hfin kk his h2 q hq) ?_
      (repeat (first | exact HSub_rfl | refine HSub_put_eq (by simp only [vsAll, ↓reduceIte, eq_self, reduceCtorEq, Nat.reduceEqDiff, hh_i7]) ?_ | refine HSub_drop2 (by simp only [eq_self, hh_i7]) ?_ | refine HSub_keep_eq (by simp only [vsAll, ↓reduceIte, eq_self, reduceCtorEq, Nat.reduceEqDiff, hh_i7]) ?_))
     have hrw := fun kk (h2 : kk < L) => swL_row hlr (i := i) (k := kk) (by ((try clear hh_i7); omega)) (by ((try clear hh_i7); omega))
     have hln := fun kk => swL_len l i kk
     have hd1 := upd_drop L i
     simp only [vsAll, binA, binLitA, intA, lenA, opA, dstOk, nilSliceOp, Nat.reduceLT, Nat.reduceEqDiff, Nat.reduceBEq, ↓reduceIte, eq_self, wtAll]
     refine condV (fun hc => ?_) (fun hc => ?_)
     ·have hN0 : 0 < N := by
       have := of_decide_eq_true hc
       ((try clear hh_i7); omega)
      have hm0 : 0 ≤ (i : Int).tmod N := Int.tmod_nonneg _ (by ((try clear hh_i7); omega))
      have hm1 : (i : Int).tmod N < N := Int.tmod_lt_of_pos _ (by ((try clear hh_i7); omega))
      simp only [vsAll, binA, binLitA, intA, loadA, loadRow, partA, partOk, indexAddrA, lenA, convA, opA, dstOk, nilSliceOp, Nat.reduceLT, Nat.reduceEqDiff, Nat.reduceBEq, ↓reduceIte, eq_self, ne_eq, wtAll, byF_at]
      generalize (i : Int).tmod N = r at hm0 hm1 ⊢
      have hbr := hb r.toNat (by ((try clear hh_i7); omega))
      generalize b r.toNat = br at hbr ⊢
      have hq0 : 0 ≤ br.tmod ((L : Int) - i) := Int.tmod_nonneg _ (by ((try clear hh_i7); omega))
      have hq1 : br.tmod ((L : Int) - i) < (L : Int) - i := Int.tmod_lt_of_pos _ (by ((try clear hh_i7); omega))
      refine ⟨by ((try clear hh_i7); omega), ⟨hm0, hm1⟩, by ((try clear hh_i7); omega), by simp only [InR_i64]; ((try clear hh_i7); omega), by simp only [InR_i64]; ((try clear hh_i7); omega), by ((try clear hh_i7); omega), by simp only [InR_i64]; ((try clear hh_i7); omega), ?_⟩
      obtain ⟨kk, ekk⟩ : ∃ q : Nat, (i : Int) + br.tmod ((L : Int) - i) = (q : Int) := ⟨((i : Int) + br.tmod ((L : Int) - i)).toNat, by ((try clear hh_i7); omega)⟩
      rw [ekk]
      have hk1 : i ≤ kk := by ((try clear hh_i7); omega)
      have hk2 : kk < L := by ((try clear hh_i7); omega)
      have hen := hend kk hk1 hk2
      have hr2 := hrw kk hk2
      have hl2 := hln kk
      refine vs_draw2 [0, 0, 0, 0, 0, 0, 0, 0, 0, 0, 0, 0, 0, 1, 2, 3] [([0, 1, 2, 3, 4, 5, 6, 7, 8, 9, 10, 11, 12], [], 13), ([14], [], 15)] [] (by decide +kernel) ?_
      simp only [vsAll, binA, binLitA, intA, loadA, loadRow, partA, partOk, indexAddrA, cellA, cellsA, opA, newCells, okCells, storeObj, dstOk, Nat.reduceLT, Nat.reduceEqDiff, ↓reduceIte, eq_self, wtAll, intF_at, hd1]
      refine ⟨⟨by ((try clear hh_i7); omega), by ((try clear hh_i7); omega)⟩, by ((try clear hh_i7); omega), ⟨by ((try clear hh_i7); omega), by ((try clear hh_i7); omega)⟩, by ((try clear hh_i7); omega), ⟨by ((try clear hh_i7); omega), by ((try clear hh_i7); omega)⟩, by ((try clear hh_i7); omega), ⟨by ((try clear hh_i7); omega), by ((try clear hh_i7); omega)⟩, by ((try clear hh_i7); omega), by simp only [InR_i64]; ((try clear hh_i7); omega), loop_next (i + 1, swL l i kk) ⟨by simp only []; ((try clear hh_i7); omega), hr2, by simp only []; ((try clear hh_i7); omega)⟩ (by simp only []; ((try clear hh_i7); omega)) ?_ ?_⟩
      ·simp only [vsAll, Nat.reduceEqDiff, ↓reduceIte, eq_self, Int.natCast_add, Int.natCast_one]
      ·rw [Hp.set_set]
       exact hen
     ·have hen := hend i (Nat.le_refl _) his
      have hr2 := hrw i his
      have hl2 := hln i
      simp only [vsAll]
      refine vs_draw2 [0, 0, 0, 0, 0, 0, 0, 0, 0, 0, 0, 0, 0, 1, 2, 3] [([0, 1, 2, 3, 4, 5, 6, 7, 8, 9, 10, 11, 12], [], 13), ([14], [], 15)] [] (by decide +kernel) ?_
      simp only [vsAll, binA, binLitA, intA, loadA, loadRow, partA, partOk, indexAddrA, cellA, cellsA, opA, newCells, okCells, storeObj, dstOk, Nat.reduceLT, Nat.reduceEqDiff, ↓reduceIte, eq_self, wtAll, intF_at, hd1]
      refine ⟨⟨by ((try clear hh_i7); omega), by ((try clear hh_i7); omega)⟩, by ((try clear hh_i7); omega), ⟨by ((try clear hh_i7); omega), by ((try clear hh_i7); omega)⟩, by ((try clear hh_i7); omega), ⟨by ((try clear hh_i7); omega), by ((try clear hh_i7); omega)⟩, by ((try clear hh_i7); omega), ⟨by ((try clear hh_i7); omega), by ((try clear hh_i7); omega)⟩, by ((try clear hh_i7); omega), by simp only [InR_i64]; ((try clear hh_i7); omega), loop_next (i + 1, swL l i i) ⟨by simp only []; ((try clear hh_i7); omega), hr2, by simp only []; ((try clear hh_i7); omega)⟩ (by simp only []; ((try clear hh_i7); omega)) ?_ ?_⟩
      ·simp only [vsAll, Nat.reduceEqDiff, ↓reduceIte, eq_self, Int.natCast_add, Int.natCast_one]
      ·rw [Hp.set_set]
       exact hen
    ·have ei : i = L := by ((try clear hh_i7); omega)
     subst ei
     simp only [vsAll, opA, dstOk, nilSliceOp, resA, retA.eq_1, Nat.reduceLT, Nat.reduceEqDiff, Nat.reduceBEq, ↓reduceIte, eq_self, Try.results17]
     refine ⟨H.set i7 (.row 1 l.length (intF l)), ?_, l, hlr, by ((try clear hh_i7); omega), i7, hh_i7, by rw [hll], rfl⟩
     rw [hll]; exact HSub_rfl
theorem drawn_tri (g : Gg) (S N : Nat) (b : Nat → Int) (H : Hp) (k : OkG g) (hS : S < 2 ^ g.N) (hN : N < 2 ^ 63) (hb : ∀ i, i < N → 0 ≤ b i ∧ b i ≤ 255) :
  Tri Try.prog (fnA 17) [g.av, i64 (S : Nat), .rsl N 1 (byF b)] H fun r H' => H' = H ∧ ∃ l : List Int, RowOf S l ∧ l.length = pop S ∧ r = .ret (intsAV l) := by
 refine Tri.thawX (drawnM_tri g S N b H k hS hN hb) fun r H' hr => ?_
 obtain ⟨l, h1, h2, id, hid, rfl, rfl⟩ := hr
 exact .inr ⟨_, intsAV l, id, 1, l.length, intF l, rfl, .inr ⟨Hp.set_same _ _ _, .leaf ⟨rfl, intF l, fun _ _ => rfl, rfl⟩⟩, set_del hid, l, h1, h2, rfl⟩
end Go.Proofs.Ytdopkbldjagmlaa
end
section
set_option linter.unusedVariables false
set_option linter.unusedSimpArgs false
namespace Go.Proofs.Ytdopkbldjagmlaa
open Go.V
/-- All is as easy, or easier, for the second gangs. -/
structure EasG (g x : Gg) : Prop where
 kg : OkG g
 kx : OkG x
 n : x.N = g.N
 m : x.cw.length = g.cw.length
 s : ∀ n, n < g.N → 0 ≤ begV g n → 0 ≤ begV x n ∧ begV x n ≤ begV g n
 f : ∀ n, n < g.N → (x.seam n).fa ≤ (g.seam n).fa ∧ (g.seam n).fl ≤ (x.seam n).fl
 c : ∀ c, c < g.cw.length → (g.crew c).lo ≤ (x.crew c).lo
 k : ∀ c n, c < g.cw.length → n < g.N → (g.crew c).st.toNat.testBit n = true → (x.crew c).st.toNat.testBit n = true
end Go.Proofs.Ytdopkbldjagmlaa
end
section
set_option linter.unusedVariables false
set_option linter.unusedSimpArgs false
namespace Go.Proofs.Ytdopkbldjagmlaa
open Go.V
/-- Seams of some gangs are those of others, by other numbers. -/
structure RenS (h g : Gg) (φ : Nat → Nat) : Prop where
 s : ∀ n, n < h.N → φ n < g.N ∧ begV h n = begV g (φ n) ∧ (h.seam n).fa = (g.seam (φ n)).fa ∧ (h.seam n).fl = (g.seam (φ n)).fl
 i : ∀ n m, n < h.N → m < h.N → φ n = φ m → n = m
/-- A crew is another one, by other numbers of seams. -/
structure RenC (h g : Gg) (φ : Nat → Nat) (c d : Nat) : Prop where
 lo : (h.crew c).lo = (g.crew d).lo
 hi : (h.crew c).hi = (g.crew d).hi
 k : ∀ n, n < h.N → (h.crew c).st.toNat.testBit n = (g.crew d).st.toNat.testBit (φ n)
structure Ren (h g : Gg) (φ ψ : Nat → Nat) : Prop extends RenS h g φ where
 c : ∀ c, c < h.cw.length → ψ c < g.cw.length ∧ RenC h g φ c (ψ c)
def mpL (φ : Nat → Nat) (l : List Int) : List Int := l.map fun x => ((φ x.toNat : Nat) : Int)
theorem mpL_len (φ : Nat → Nat) (l : List Int) : (mpL φ l).length = l.length := by simp [mpL]
theorem mpL_at (φ : Nat → Nat) (l : List Int) {i : Nat} (h : i < l.length) : (mpL φ l).getD i 0 = ((φ (l.getD i 0).toNat : Nat) : Int) := by
 simp [mpL, List.getD_eq_getElem?_getD, h]
/-- All of a list are seams. -/
def InG (h : Gg) (l : List Int) : Prop := ∀ i, i < l.length → ∃ n : Nat, l.getD i 0 = (n : Int) ∧ n < h.N
theorem ren_don {h g : Gg} {φ : Nat → Nat} (R : RenS h g φ) (sp : Int) {l : List Int} (hl : InG h l) : ∀ i, i ≤ l.length → donN g sp (mpL φ l) i = donN h sp l i
 | 0, _ => rfl
 | i + 1, hi => by
   obtain ⟨n, e, hn⟩ := hl i (by omega)
   obtain ⟨s1, s2, s3, s4⟩ := R.s n hn
   simp only [donN]
   rw [ren_don R sp hl i (by omega), mpL_at φ l (by omega), e, Int.toNat_natCast, Int.toNat_natCast]
   unfold stT tkG
   rw [s2, s3]
theorem ren_kn {h g : Gg} {φ : Nat → Nat} {c d : Nat} (R : RenS h g φ) (rc : RenC h g φ c d) {n : Nat} (hn : n < h.N) : knB g d (φ n) = knB h c n := by
 unfold knB
 rw [rc.k n hn, (R.s n hn).2.1]
theorem ren_rgt {h g : Gg} {φ : Nat → Nat} {c d : Nat} (R : RenS h g φ) (rc : RenC h g φ c d) {l : List Int} (hl : InG h l) : rgtB g d (mpL φ l) = rgtB h c l := by
 rw [Bool.eq_iff_iff, rgt_iff, rgt_iff, mpL_len]
 refine forall_congr' fun i => forall_congr' fun hi => ?_
 obtain ⟨n, e, hn⟩ := hl i hi
 rw [mpL_at φ l hi, e, Int.toNat_natCast, Int.toNat_natCast, ren_kn R rc hn, ren_don R _ hl _ hi, (R.s n hn).2.2.2, rc.lo]
theorem ren_kwn {h g : Gg} {φ : Nat → Nat} {c d : Nat} (R : RenS h g φ) (rc : RenC h g φ c d) {l : List Int} (hl : InG h l) : kwnB g d (mpL φ l) = kwnB h c l := by
 rw [Bool.eq_iff_iff, kwn_iff, kwn_iff, mpL_len]
 refine forall_congr' fun i => forall_congr' fun hi => ?_
 obtain ⟨n, e, hn⟩ := hl i hi
 rw [mpL_at φ l hi, e, Int.toNat_natCast, Int.toNat_natCast, ren_kn R rc hn]
theorem ren_lat {h g : Gg} {φ : Nat → Nat} {c d : Nat} (R : RenS h g φ) (rc : RenC h g φ c d) {l : List Int} (hl : InG h l) : latO g d (mpL φ l) = latO h c l := by
 unfold latO
 rw [mpL_len]
 refine find_congr _ fun i hi => ?_
 rw [List.mem_range] at hi
 obtain ⟨n, e, hn⟩ := hl i hi
 unfold ltB
 rw [mpL_at φ l hi, e, Int.toNat_natCast, Int.toNat_natCast, ren_don R _ hl _ hi, (R.s n hn).2.2.2, rc.lo]
/-- A set, by the other numbers. -/
def Img (h : Gg) (φ : Nat → Nat) (S T : Nat) : Prop := S < 2 ^ h.N ∧ ∀ n, T.testBit n = true ↔ ∃ m, S.testBit m = true ∧ φ m = n
theorem Img.lt {h g : Gg} {φ : Nat → Nat} (R : RenS h g φ) {S T : Nat} (I : Img h φ S T) : T < 2 ^ g.N := by
 refine Nat.lt_pow_two_of_testBit _ fun i hi => ?_
 cases e : T.testBit i with
 | false => rfl
 | true =>
   obtain ⟨m, h1, h2⟩ := (I.2 i).1 e
   have := (R.s m (bit_lt I.1 h1)).1
   omega
theorem row_in {h : Gg} {S : Nat} (hS : S < 2 ^ h.N) {l : List Int} (hl : RowOf S l) : InG h l := fun i hi => by
 obtain ⟨n, e, hn⟩ := hl.at_ i hi
 exact ⟨n, e, bit_lt hS hn⟩
theorem mpL_mem {φ : Nat → Nat} {l : List Int} {x : Int} : x ∈ mpL φ l ↔ ∃ y ∈ l, ((φ y.toNat : Nat) : Int) = x := by simp [mpL]
theorem ren_row {h g : Gg} {φ : Nat → Nat} (R : RenS h g φ) {S T : Nat} (I : Img h φ S T) {l : List Int} (hl : RowOf S l) : RowOf T (mpL φ l) := by
 have hi := row_in I.1 hl
 refine ⟨fun i hi2 => ?_, fun i j hij hj e => ?_⟩
 ·rw [mpL_len] at hi2
  obtain ⟨n, e, hn⟩ := hl.at_ i hi2
  exact ⟨φ n, by rw [mpL_at φ l hi2, e, Int.toNat_natCast], (I.2 _).2 ⟨n, hn, rfl⟩⟩
 ·rw [mpL_len] at hj
  rw [mpL_at φ l (by omega), mpL_at φ l hj] at e
  obtain ⟨n, e1, hn⟩ := hi i (by omega)
  obtain ⟨m, e2, hm⟩ := hi j hj
  rw [e1, e2, Int.toNat_natCast, Int.toNat_natCast] at e
  have := R.i n m hn hm (by omega)
  subst this
  exact hl.nd i j hij hj (by rw [e1, e2])
theorem ren_full {h g : Gg} {φ : Nat → Nat} (R : RenS h g φ) (hN : g.N ≤ 5) (hM : h.N ≤ 5) {S T : Nat} (I : Img h φ S T) {l : List Int} (hl : RowOf S l) : (mpL φ l).length = pop T ↔ l.length = pop S := by
 have hr := ren_row R I hl
 rw [← (rowOf_full (lt32 hN (Img.lt R I)) hr).2, ← (rowOf_full (lt32 hM I.1) hl).2]
 have hi := row_in I.1 hl
 constructor
 ·intro e
  refine Nat.eq_of_testBit_eq fun n => ?_
  rw [Bool.eq_iff_iff]
  constructor
  ·exact fun hb => rowOf_sub hl hb
  ·intro hb
   have : T.testBit (φ n) = true := (I.2 _).2 ⟨n, hb, rfl⟩
   rw [← e, setL_bit] at this
   obtain ⟨x, hx, ex⟩ := this
   obtain ⟨y, hy, ey⟩ := mpL_mem.1 hx
   obtain ⟨i, hi1, hi2⟩ := mem_at.1 hy
   obtain ⟨m, e1, hm⟩ := hi i hi1
   rw [setL_bit]
   refine ⟨y, hy, ?_⟩
   rw [hi2] at e1
   subst e1
   rw [Int.toNat_natCast] at ey ⊢
   exact R.i m n hm (bit_lt I.1 hb) (by omega)
 ·intro e
  refine Nat.eq_of_testBit_eq fun n => ?_
  rw [Bool.eq_iff_iff]
  constructor
  ·exact fun hb => rowOf_sub hr hb
  ·intro hb
   obtain ⟨m, hm, em⟩ := (I.2 n).1 hb
   rw [← e, rowOf_set hl] at hm
   rw [rowOf_set hr, mpL_mem]
   exact ⟨(m : Int), hm, by rw [Int.toNat_natCast, em]⟩
theorem ren_back {h g : Gg} {φ : Nat → Nat} (R : RenS h g φ) {S T : Nat} (I : Img h φ S T) {l : List Int} : RowOf T l → ∃ m, l = mpL φ m ∧ RowOf S m := by
 refine snoc_ind (P := fun l => RowOf T l → ∃ m, l = mpL φ m ∧ RowOf S m) (fun _ => ⟨[], rfl, rowOf_nil S⟩) (fun b x ih hr => ?_) l
 obtain ⟨m, e, hm⟩ := ih (rowOf_pre hr)
 obtain ⟨n, ex, hn⟩ := hr.at_ b.length (by simp)
 rw [snoc_end] at ex
 subst ex
 obtain ⟨q, hq, eq⟩ := (I.2 n).1 hn
 have e2 : b ++ [(n : Int)] = mpL φ (m ++ [(q : Int)]) := by
  rw [e]
  simp [mpL, eq]
 refine ⟨m ++ [(q : Int)], e2, rowOf_snoc.2 ⟨hm, hq, fun hmem => ?_⟩⟩
 have h3 := (rowOf_snoc.1 hr).2.2
 refine h3 ?_
 rw [e, mpL_mem]
 exact ⟨(q : Int), hmem, by rw [Int.toNat_natCast, eq]⟩
theorem ren_end {h g : Gg} {φ : Nat → Nat} {c d : Nat} (R : RenS h g φ) (rc : RenC h g φ c d) (hN : g.N ≤ 5) (hM : h.N ≤ 5) {S T : Nat} (I : Img h φ S T) : endO h c S = endO g d T := by
 refine (end_min I.1).uniq ((end_min (Img.lt R I)).congr fun x => ?_)
 constructor
 ·rintro ⟨l, h1, h2, h3, h4⟩
  obtain ⟨m, e, hm⟩ := ren_back R I h2
  subst e
  have hi := row_in I.1 hm
  rw [ren_rgt R rc hi] at h3
  refine ⟨m, (ren_full R hN hM I hm).1 h1, hm, h3, ?_⟩
  rw [← h4]
  unfold lastT
  rw [mpL_len, ren_don R _ hi _ (Nat.le_refl _), rc.lo]
 ·rintro ⟨l, h1, h2, h3, h4⟩
  have hi := row_in I.1 h2
  refine ⟨mpL φ l, (ren_full R hN hM I h2).2 h1, ren_row R I h2, by rw [ren_rgt R rc hi]; exact h3, ?_⟩
  rw [← h4]
  unfold lastT
  rw [mpL_len, ren_don R _ hi _ (Nat.le_refl _), rc.lo]

/-- Crews are numbered otherwise, all of them. -/
structure Prm (M : Nat) (ψ ψ' : Nat → Nat) : Prop where
 a : ∀ c, c < M → ψ c < M ∧ ψ' (ψ c) = c
 b : ∀ c, c < M → ψ' c < M ∧ ψ (ψ' c) = c
theorem dom_prm {g h : Gg} {f f' : Nat → Nat} {ψ ψ' : Nat → Nat} {M : Nat} (p : Prm M ψ ψ') (e : ∀ c, c < M → endO h c (f' c) = endO g (ψ c) (f (ψ c))) : domN h f' M = domN g f M := by
 have hs : (domN h f' M).isSome = (domN g f M).isSome := by
  rw [Bool.eq_iff_iff, domN_some, domN_some]
  constructor
  ·intro q c hc
   have := q (ψ' c) (p.b c hc).1
   rw [e _ (p.b c hc).1, (p.b c hc).2] at this
   exact this
  ·intro q c hc
   rw [e c hc]
   exact q _ (p.a c hc).1
 cases h1 : domN h f' M with
 | none =>
   rw [h1] at hs
   cases h2 : domN g f M with
   | none => rfl
   | some n => rw [h2] at hs; cases hs
 | some m =>
   rw [h1] at hs
   cases h2 : domN g f M with
   | none => rw [h2] at hs; cases hs
   | some n =>
     obtain ⟨a1, a2, a3⟩ := domN_le M h1
     obtain ⟨b1, b2, b3⟩ := domN_le M h2
     congr 1
     refine Int.le_antisymm ?_ ?_
     ·rcases a3 with a3 | ⟨c, hc, a3⟩
      ·omega
      ·rw [e c hc] at a3
       obtain ⟨t, ht, hle⟩ := b2 (ψ c) (p.a c hc).1
       rw [ht] at a3
       cases a3
       exact hle
     ·rcases b3 with b3 | ⟨c, hc, b3⟩
      ·omega
      ·obtain ⟨t, ht, hle⟩ := a2 (ψ' c) (p.b c hc).1
       rw [e _ (p.b c hc).1, (p.b c hc).2] at ht
       rw [ht] at b3
       cases b3
       exact hle
/-- The same deal, by either numbers. -/
structure DR (h g : Gg) (φ ψ : Nat → Nat) (S T C D : Nat) (l l' : List Int) : Prop where
 n1 : l.length = h.N
 n2 : l'.length = g.N
 at_ : ∀ m, m < h.N → S.testBit m = true → ∃ c : Nat, c < h.cw.length ∧ l.getD m 0 = (c : Int) ∧ C.testBit c = true ∧ l'.getD (φ m) 0 = ((ψ c : Nat) : Int)
 o1 : ∀ m, m < h.N → S.testBit m = false → l.getD m 0 = -1
 o2 : ∀ n, n < g.N → T.testBit n = false → l'.getD n 0 = -1
section
variable {h g : Gg} {φ ψ ψ' : Nat → Nat} {S T C D : Nat} {l l' : List Int}
theorem DR.img (d : DR h g φ ψ S T C D l l') (R : Ren h g φ ψ) (p : Prm h.cw.length ψ ψ') (I : Img h φ S T) {c : Nat} (hc : c < h.cw.length) : Img h φ (crS l c) (crS l' (ψ c)) := by
 refine ⟨by have := crN_lt l c l.length; rw [d.n1] at this; unfold crS; rw [d.n1]; exact this, fun n => ?_⟩
 rw [crS_bit, d.n2]
 constructor
 ·rintro ⟨hn, e⟩
  cases ht : T.testBit n with
  | false => rw [d.o2 n hn ht] at e; omega
  | true =>
    obtain ⟨m, hm, em⟩ := (I.2 n).1 ht
    have hm2 := bit_lt I.1 hm
    obtain ⟨c2, hc2, e1, _, e3⟩ := d.at_ m hm2 hm
    rw [em, e] at e3
    have : c2 = c := by rw [← (p.a c2 hc2).2, ← (p.a c hc).2]; congr 1; omega
    subst this
    exact ⟨m, crS_bit.2 ⟨by rw [d.n1]; exact hm2, e1⟩, em⟩
 ·rintro ⟨m, hm, em⟩
  rw [crS_bit, d.n1] at hm
  obtain ⟨hm2, e⟩ := hm
  cases hs : S.testBit m with
  | false => rw [d.o1 m hm2 hs] at e; omega
  | true =>
    obtain ⟨c2, hc2, e1, _, e3⟩ := d.at_ m hm2 hs
    have : c2 = c := by omega
    subst this
    subst em
    exact ⟨(R.s m hm2).1, e3⟩
theorem DR.dom (d : DR h g φ ψ S T C D l l') (R : Ren h g φ ψ) (p : Prm h.cw.length ψ ψ') (I : Img h φ S T) (hN : g.N ≤ 5) (hM : h.N ≤ 5) (hL : h.cw.length = g.cw.length) : domO h l = domO g l' := by
 unfold domO
 rw [← hL]
 exact dom_prm p fun c hc => ren_end R.toRenS (R.c c hc).2 hN hM (d.img R p I hc)
theorem getD_tab (f : Nat → Int) {n i : Nat} (hi : i < n) : ((List.range n).map f).getD i 0 = f i := by
 simp [List.getD_eq_getElem?_getD, hi]
theorem dr_to (R : Ren h g φ ψ) (p : Prm h.cw.length ψ ψ') (I : Img h φ S T) (hL : h.cw.length = g.cw.length) (hl : DealOf h S C l) : ∃ l', DR h g φ ψ S T C D l l' := by
 have hch : ∀ n, ∃ m, T.testBit n = true → S.testBit m = true ∧ φ m = n := fun n => by
  by_cases e : T.testBit n = true
  ·obtain ⟨m, hm⟩ := (I.2 n).1 e
   exact ⟨m, fun _ => hm⟩
  ·exact ⟨0, fun q => absurd q e⟩
 let inv : Nat → Nat := fun n => Classical.choose (hch n)
 have hinv : ∀ n, T.testBit n = true → S.testBit (inv n) = true ∧ φ (inv n) = n := fun n => Classical.choose_spec (hch n)
 refine ⟨(List.range g.N).map fun n => if T.testBit n = true then ((ψ (l.getD (inv n) 0).toNat : Nat) : Int) else -1, hl.len, by simp, fun m hm hs => ?_, fun m hm hs => ?_, fun n hn ht => ?_⟩
 ·have h1 := hl.at_ m hm
  rw [crOk, if_pos hs] at h1
  obtain ⟨c, e, hc, hC⟩ := h1
  refine ⟨c, hc, e, hC, ?_⟩
  have ht : T.testBit (φ m) = true := (I.2 _).2 ⟨m, hs, rfl⟩
  rw [getD_tab _ (R.s m hm).1, if_pos ht]
  obtain ⟨q1, q2⟩ := hinv _ ht
  rw [R.i _ m (bit_lt I.1 q1) hm q2, e, Int.toNat_natCast]
 ·have h1 := hl.at_ m hm
  rwa [crOk, if_neg (by rw [hs]; decide)] at h1
 ·rw [getD_tab _ hn, if_neg (by rw [ht]; decide)]
theorem dr_from (R : Ren h g φ ψ) (p : Prm h.cw.length ψ ψ') (I : Img h φ S T) (hL : h.cw.length = g.cw.length) (hC : ∀ c, c < h.cw.length → D.testBit (ψ c) = C.testBit c) (hl : DealOf g T D l') : ∃ l, DR h g φ ψ S T C D l l' := by
 refine ⟨(List.range h.N).map fun m => if S.testBit m = true then ((ψ' (l'.getD (φ m) 0).toNat : Nat) : Int) else -1, by simp, hl.len, fun m hm hs => ?_, fun m hm hs => ?_, fun n hn ht => ?_⟩
 ·have ht : T.testBit (φ m) = true := (I.2 _).2 ⟨m, hs, rfl⟩
  have h1 := hl.at_ (φ m) (R.s m hm).1
  rw [crOk, if_pos ht] at h1
  obtain ⟨c, e, hc, hD⟩ := h1
  obtain ⟨p1, p2⟩ := p.b c (by omega)
  refine ⟨ψ' c, p1, ?_, ?_, ?_⟩
  ·rw [getD_tab _ hm, if_pos hs, e, Int.toNat_natCast]
  ·rw [← hC _ p1, p2]; exact hD
  ·rw [e, p2]
 ·rw [getD_tab _ hm, if_neg (by rw [hs]; decide)]
 ·have h1 := hl.at_ n hn
  rwa [crOk, if_neg (by rw [ht]; decide)] at h1
theorem DR.isH (d : DR h g φ ψ S T C D l l') (hd : (domO h l).isSome = true) : DealOf h S C l := by
 refine ⟨d.n1, fun m hm => ?_, hd⟩
 unfold crOk
 split
 ·rename_i hs
  obtain ⟨c, h1, h2, h3, _⟩ := d.at_ m hm hs
  exact ⟨c, h2, h1, h3⟩
 ·rename_i hs
  exact d.o1 m hm (by simpa using hs)
theorem DR.isG (d : DR h g φ ψ S T C D l l') (R : Ren h g φ ψ) (I : Img h φ S T) (hL : h.cw.length = g.cw.length) (hC : ∀ c, c < h.cw.length → D.testBit (ψ c) = C.testBit c) (hd : (domO g l').isSome = true) : DealOf g T D l' := by
 refine ⟨d.n2, fun n hn => ?_, hd⟩
 unfold crOk
 split
 ·rename_i ht
  obtain ⟨m, hm, em⟩ := (I.2 n).1 ht
  obtain ⟨c, h1, h2, h3, h4⟩ := d.at_ m (bit_lt I.1 hm) hm
  rw [em] at h4
  exact ⟨ψ c, h4, (R.c c h1).1, by rw [hC c h1]; exact h3⟩
 ·rename_i ht
  exact d.o2 n hn (by simpa using ht)
/-- The least hour is the same by other numbers. -/
theorem ren_dO (R : Ren h g φ ψ) (p : Prm h.cw.length ψ ψ') (I : Img h φ S T) (hN : g.N ≤ 5) (hM : h.N ≤ 5) (hL : h.cw.length = g.cw.length) (hC : ∀ c, c < h.cw.length → D.testBit (ψ c) = C.testBit c) :
  dO h S C h.N [] = dO g T D g.N [] := by
 refine (dO_min h S C h.N []).uniq ((dO_min g T D g.N []).congr fun x => ?_)
 constructor
 ·rintro ⟨l', hl, e⟩
  have hl := mem_deals.1 hl
  obtain ⟨l, d⟩ := dr_from R p I hL hC hl
  have hd := d.dom R p I hN hM hL
  refine ⟨l, mem_deals.2 (d.isH (by rw [hd]; exact hl.dom)), ?_⟩
  rw [← e]
  unfold domI
  rw [hd]
 ·rintro ⟨l, hl, e⟩
  have hl := mem_deals.1 hl
  obtain ⟨l', d⟩ := dr_to (D := D) R p I hL hl
  have hd := d.dom R p I hN hM hL
  refine ⟨l', mem_deals.2 (d.isG R I hL hC (by rw [← hd]; exact hl.dom)), ?_⟩
  rw [← e]
  unfold domI
  rw [hd]
end
end Go.Proofs.Ytdopkbldjagmlaa
end
section
set_option linter.unusedVariables false
set_option linter.unusedSimpArgs false
set_option maxHeartbeats 4000000
set_option maxRecDepth 100000
namespace Go.Proofs.Ytdopkbldjagmlaa
open Go.V
theorem fineG_ok {g : Gg} (h : (!fineG g) = false) : OkG g ∧ NearG g := by
 unfold fineG at h
 simp only [Bool.not_eq_false', Bool.and_eq_true, decide_eq_true_eq] at h
 exact ⟨h.2, h.2.near⟩
def rdN (g : Gg) (l : List Int) (i : Nat) : List Int := (List.range i).map fun j => readyV g (l.getD j 0)
def kaN (g : Gg) (l : List Int) (b : Bool) : Nat → Bool
 | 0 => b
 | i + 1 => kaN g l b i && decide (readyE g (l.getD i 0) = 0)
def spk (a b c : Int) (q : Nat) : Int := [a, b, c].getD q 0
def mxF (g : Gg) (a b c : Int) (l : List Int) (i k : Nat) : Nat → List AV := fun q => [i64 (donN g (spk a b c q) l (if q < k then i + 1 else i))]
def lateV (g : Gg) (c : Nat) (l : List Int) (i : Nat) : Int := match (List.range i).find? (ltB g c l) with
 | some j => l.getD j 0
 | none => -1
end Go.Proofs.Ytdopkbldjagmlaa
end
section
set_option linter.unusedVariables false
set_option linter.unusedSimpArgs false
namespace Go.Proofs.Ytdopkbldjagmlaa
open Go.V
theorem filt_sorted (p : Nat → Bool) : ∀ n, ((List.range n).filter p).Pairwise (· < ·) := fun n => List.Pairwise.filter _ List.pairwise_lt_range
theorem map_get {l : List Nat} {i : Nat} (h : i < l.length) : (l.map fun n : Nat => (n : Int)).getD i 0 = ((l.getD i 0 : Nat) : Int) := by
 simp [List.getD_eq_getElem?_getD, h]
theorem sorted_at {l : List Nat} (h : l.Pairwise (· < ·)) {i j : Nat} (hij : i < j) (hj : j < l.length) : l.getD i 0 < l.getD j 0 := by
 have := List.pairwise_iff_getElem.1 h i j (by omega) hj hij
 simpa [List.getD_eq_getElem?_getD, hj, (show i < l.length by omega)] using this
theorem mem_filt {p : Nat → Bool} {n i : Nat} (h : i < ((List.range n).filter p).length) : ((List.range n).filter p).getD i 0 < n ∧ p (((List.range n).filter p).getD i 0) = true := by
 have : ((List.range n).filter p).getD i 0 ∈ (List.range n).filter p := by
  rw [List.getD_eq_getElem?_getD, List.getElem?_eq_getElem h]
  exact List.getElem_mem h
 rw [List.mem_filter, List.mem_range] at this
 exact this
end Go.Proofs.Ytdopkbldjagmlaa
end
section
set_option linter.unusedVariables false
set_option linter.unusedSimpArgs false
set_option maxHeartbeats 4000000
set_option maxRecDepth 100000
namespace Go.Proofs.Ytdopkbldjagmlaa
open Go.V
theorem mapZ64 : mapZ Try.prog 64 = some (.bool false) := by kernel_rfl
theorem und64 : Program.underlying Try.prog 64 = some (.map 3 4) := by kernel_rfl
theorem key3 : Maps.Keyed Try.prog 3 := Maps.int_keyed (q := .i64) (by kernel_rfl)
theorem und3 : Program.underlying Try.prog 3 = some (.int .i64) := by kernel_rfl
theorem key_int {d : Int} (hd : InR .i64 d) : ∃ l, keyOf Try.prog 3 (.int .i64 d) = some l := by
 refine ⟨.int .i64 d, ?_⟩
 simp only [keyOf, mapKey, und3]
 rw [if_pos ⟨trivial, wf_i64 hd⟩]
open Classical in
noncomputable def thrF (l : List Int) : Value → Option Value := fun v => if ∃ x ∈ l, v = .int .i64 x then some (.bool true) else none
theorem thrF_nil : thrF [] = fun _ => none := by
 funext v
 unfold thrF
 rw [if_neg]
 rintro ⟨x, hx, _⟩
 cases hx
theorem thrF_get (l : List Int) (x : Int) : thrF l (.int .i64 x) = if l.contains x = true then some (.bool true) else none := by
 unfold thrF
 by_cases h : x ∈ l
 ·rw [if_pos ⟨x, h, rfl⟩, if_pos (by simpa using h)]
 ·rw [if_neg, if_neg (by simpa using h)]
  rintro ⟨y, hy, e⟩
  cases e
  exact h hy
theorem thrF_upd (l : List Int) (x : Int) : updV (thrF l) (.int .i64 x) (.bool true) = thrF (l ++ [x]) := by
 funext v
 by_cases h : v = .int .i64 x
 ·subst h
  rw [updV_same, thrF_get, if_pos (by simp)]
 ·rw [updV_ne _ _ h]
  unfold thrF
  by_cases q : ∃ y ∈ l, v = .int .i64 y
  ·rw [if_pos q, if_pos]
   obtain ⟨y, hy, e⟩ := q
   exact ⟨y, List.mem_append_left _ hy, e⟩
  ·rw [if_neg q, if_neg]
   rintro ⟨y, hy, e⟩
   rcases List.mem_append.1 hy with hy | hy
   ·exact q ⟨y, hy, e⟩
   ·rw [List.mem_singleton] at hy
    subst hy
    exact h e
theorem thrF_key {l : List Int} (hl : ∀ x ∈ l, InR .i64 x) {k v : Value} (h : thrF l k = some v) : ∃ s, keyOf Try.prog 3 k = some s := by
 unfold thrF at h
 split at h
 ·rename_i q
  obtain ⟨x, hx, rfl⟩ := q
  exact key_int (hl x hx)
 ·cases h
theorem thr_val {l : List Int} {x : Int} : (thrF l (.int .i64 x)).getD (.bool false) = .bool (l.contains x) := by
 rw [thrF_get]
 split
 ·rename_i h; rw [h]; rfl
 ·rename_i h
  rw [Bool.not_eq_true] at h
  rw [h]; rfl

theorem sets_at {g : Gg} (k : OkG g) {c : Nat} (hc : c < g.cw.length) : setsE g (c : Int) = 0 ∧ setsV g (c : Int) = stsN g c (2 ^ g.N) := by
 have e : setsE g (c : Int) = 0 := by
  unfold setsE
  rw [(isCw_iff g _).2 (by omega)]
  exact errG_ok k
 refine ⟨e, ?_⟩
 unfold setsV
 rw [if_pos e, Int.toNat_natCast]
theorem sts_mem {g : Gg} {c n x : Nat} : (stsN g c n).contains (x : Int) = (decide (x < n) && (endO g c x).isSome) := by
 rw [Bool.eq_iff_iff]
 simp only [stsN, List.contains_iff_mem, List.mem_map, List.mem_filter, List.mem_range, Bool.and_eq_true, decide_eq_true_eq]
 constructor
 ·rintro ⟨m, ⟨h1, h2⟩, e⟩
  have : m = x := by omega
  subst this
  exact ⟨h1, h2⟩
 ·rintro ⟨h1, h2⟩
  exact ⟨x, ⟨h1, h2⟩, rfl⟩
theorem sts_at {g : Gg} {c n i : Nat} (h : i < (stsN g c n).length) : ∃ s : Nat, (stsN g c n).getD i 0 = (s : Int) ∧ s < n ∧ (endO g c s).isSome = true ∧ ∀ j, j < i → (stsN g c n).getD j 0 < (s : Int) := by
 have hl : (stsN g c n).length = ((List.range n).filter fun S => (endO g c S).isSome).length := by simp [stsN]
 rw [hl] at h
 obtain ⟨h1, h2⟩ := mem_filt h
 refine ⟨((List.range n).filter fun S => (endO g c S).isSome).getD i 0, map_get h, h1, h2, fun j hj => ?_⟩
 have e : (stsN g c n).getD j 0 = ((((List.range n).filter fun S => (endO g c S).isSome).getD j 0 : Nat) : Int) := map_get (by omega)
 rw [e]
 have := sorted_at (filt_sorted (fun S => (endO g c S).isSome) n) hj h
 omega
end Go.Proofs.Ytdopkbldjagmlaa
end
section
set_option linter.unusedVariables false
set_option linter.unusedSimpArgs false
set_option maxRecDepth 20000
namespace Go.Proofs.Ytdopkbldjagmlaa
open Go.V
/-- A set, if all is numbered from behind: the first bits of it. -/
def othN (n S : Nat) : Nat → Nat
 | 0 => 0
 | i + 1 => if S.testBit i = true then othN n S i ||| 2 ^ (n - 1 - i) else othN n S i
def oth (n S : Nat) : Nat := othN n S n
theorem othN_bit (n S j : Nat) : ∀ i, i ≤ n → (othN n S i).testBit j = (decide (j < n ∧ n - 1 - j < i) && S.testBit (n - 1 - j))
 | 0, _ => by simp [othN]
 | i + 1, hi => by
   have ih := othN_bit n S j i (by omega)
   simp only [othN]
   by_cases h : S.testBit i = true
   ·rw [if_pos h, Nat.testBit_or, ih, Nat.testBit_two_pow]
    by_cases e : n - 1 - i = j
    ·have e2 : n - 1 - j = i := by omega
     rw [e2, h, decide_eq_true e, decide_eq_true (p := j < n ∧ i < i + 1) ⟨by omega, by omega⟩]
     simp
    ·rw [decide_eq_false e, Bool.or_false]
     congr 1
     exact decide_eq_decide.2 (by omega)
   ·rw [if_neg h, ih]
    by_cases e : n - 1 - j = i
    ·rw [Bool.not_eq_true] at h
     rw [e, h, Bool.and_false, Bool.and_false]
    ·congr 1
     exact decide_eq_decide.2 (by omega)
theorem oth_bit (n S j : Nat) : (oth n S).testBit j = (decide (j < n) && S.testBit (n - 1 - j)) := by
 unfold oth
 rw [othN_bit n S j n (Nat.le_refl n)]
 congr 1
 exact decide_eq_decide.2 (by omega)
theorem othN_lt (n S i : Nat) (h : i ≤ n) : othN n S i < 2 ^ n := by
 refine Nat.lt_pow_two_of_testBit _ fun j hj => ?_
 rw [othN_bit n S j i h, decide_eq_false (by omega), Bool.false_and]
theorem oth_lt (n S : Nat) : oth n S < 2 ^ n := othN_lt n S n (Nat.le_refl n)
theorem oth_oth {n S : Nat} (h : S < 2 ^ n) : oth n (oth n S) = S := by
 refine Nat.eq_of_testBit_eq fun j => ?_
 rw [oth_bit, oth_bit]
 by_cases e : j < n
 ·rw [decide_eq_true e, decide_eq_true (p := n - 1 - j < n) (by omega), Bool.true_and, Bool.true_and]
  congr 1
  omega
 ·rw [decide_eq_false e, Bool.false_and]
  cases hb : S.testBit j with
  | false => rfl
  | true => exact absurd (bit_lt h hb) e
theorem oth_pop : ∀ n, n < 6 → ∀ a, a < 32 → a < 2 ^ n → pop (oth n a) = pop a := by decide +kernel
def turG (g : Gg) : Gg := ⟨(List.range g.N).map fun i => g.seam (g.N - 1 - i), (List.range g.cw.length).map fun c => ⟨(g.crew (g.cw.length - 1 - c)).lo, (g.crew (g.cw.length - 1 - c)).hi, (oth g.N (g.crew (g.cw.length - 1 - c)).st.toNat : Nat)⟩, g.pt⟩
theorem turG_N (g : Gg) : (turG g).N = g.N := by simp [turG, Gg.N]
theorem turG_len (g : Gg) : (turG g).cw.length = g.cw.length := by simp [turG]
theorem turG_seam (g : Gg) {n : Nat} (h : n < g.N) : (turG g).seam n = g.seam (g.N - 1 - n) := by
 simp [turG, Gg.seam, List.getD_eq_getElem?_getD, h]
theorem turG_crew (g : Gg) {c : Nat} (h : c < g.cw.length) : (turG g).crew c = ⟨(g.crew (g.cw.length - 1 - c)).lo, (g.crew (g.cw.length - 1 - c)).hi, (oth g.N (g.crew (g.cw.length - 1 - c)).st.toNat : Nat)⟩ := by
 simp [turG, Gg.crew, List.getD_eq_getElem?_getD, h]
theorem turG_ok {g : Gg} (k : OkG g) : OkG (turG g) := by
 have hN : g.N ≤ 5 := k.nS
 refine ⟨k.p, by have := turG_N g; show (turG g).N ≤ 5; omega, by rw [turG_len]; exact k.nC, fun i hi => ?_, fun c hc => ?_⟩
 ·have hi' : i < g.N := by rw [← turG_N g]; exact hi
  show okS (turG g) ((turG g).seam i)
  rw [turG_seam g hi']
  exact k.seam (by omega)
 ·rw [turG_len] at hc
  show okC (turG g) ((turG g).crew c)
  have h := k.crew (i := g.cw.length - 1 - c) (by omega)
  have e : (turG g).sm.length = g.N := turG_N g
  have hl := oth_lt g.N (g.crew (g.cw.length - 1 - c)).st.toNat
  rw [turG_crew g hc]
  unfold okC at h ⊢
  rw [e]
  refine ⟨h.1, h.2.1, h.2.2.1, Int.natCast_nonneg _, ?_⟩
  show ((oth g.N (g.crew (g.cw.length - 1 - c)).st.toNat : Nat) : Int) ≤ _
  omega
theorem tur_prm (M : Nat) : Prm M (fun c => M - 1 - c) (fun c => M - 1 - c) := ⟨fun c h => ⟨by omega, by omega⟩, fun c h => ⟨by omega, by omega⟩⟩
theorem tur_ren (g : Gg) : Ren (turG g) g (fun n => g.N - 1 - n) (fun c => g.cw.length - 1 - c) := by
 refine ⟨⟨fun n hn => ?_, fun n m hn hm e => ?_⟩, fun c hc => ?_⟩
 ·rw [turG_N] at hn
  have e := turG_seam g hn
  have eh : hotL (turG g) = hotL g := rfl
  refine ⟨by omega, ?_, by rw [e], by rw [e]⟩
  unfold begV
  rw [e, eh]
 ·rw [turG_N] at hn hm
  have e' : g.N - 1 - n = g.N - 1 - m := e
  omega
 ·rw [turG_len] at hc
  have e := turG_crew g hc
  refine ⟨by omega, by rw [e], by rw [e], fun n hn => ?_⟩
  rw [turG_N] at hn
  rw [e]
  show ((oth g.N (g.crew (g.cw.length - 1 - c)).st.toNat : Nat) : Int).toNat.testBit n = _
  rw [Int.toNat_natCast, oth_bit, decide_eq_true hn, Bool.true_and]
theorem tur_img (g : Gg) {S : Nat} (h : S < 2 ^ g.N) : Img (turG g) (fun n => g.N - 1 - n) S (oth g.N S) := by
 refine ⟨by rw [turG_N]; exact h, fun n => ?_⟩
 rw [oth_bit, Bool.and_eq_true, decide_eq_true_eq]
 constructor
 ·rintro ⟨h1, h2⟩
  exact ⟨g.N - 1 - n, h2, by show g.N - 1 - (g.N - 1 - n) = n; omega⟩
 ·rintro ⟨m, h1, h2⟩
  have hm := bit_lt h h1
  have h2' : g.N - 1 - m = n := h2
  refine ⟨by omega, ?_⟩
  rw [show g.N - 1 - n = m by omega]
  exact h1
theorem tur_end {g : Gg} (k : OkG g) {c S : Nat} (hc : c < g.cw.length) (hS : S < 2 ^ g.N) : endO (turG g) c S = endO g (g.cw.length - 1 - c) (oth g.N S) :=
 ren_end (tur_ren g).toRenS ((tur_ren g).c c (by rw [turG_len]; exact hc)).2 k.nS (by rw [turG_N]; exact k.nS) (tur_img g hS)
theorem tur_dO {g : Gg} (k : OkG g) {S C D : Nat} (hS : S < 2 ^ g.N) (hC : ∀ c, c < g.cw.length → D.testBit (g.cw.length - 1 - c) = C.testBit c) : dO (turG g) S C (turG g).N [] = dO g (oth g.N S) D g.N [] :=
 ren_dO (tur_ren g) (by rw [turG_len]; exact tur_prm _) (tur_img g hS) k.nS (by rw [turG_N]; exact k.nS) (turG_len g) fun c hc => hC c (by rw [← turG_len g]; exact hc)
theorem full_oth (n : Nat) : oth n (2 ^ n - 1) = 2 ^ n - 1 := by
 have h0 := Nat.two_pow_pos n
 refine Nat.eq_of_testBit_eq fun j => ?_
 rw [oth_bit]
 by_cases e : j < n
 ·rw [decide_eq_true e, Bool.true_and, full_bit _ _ e, full_bit _ _ (by omega)]
 ·rw [decide_eq_false e, Bool.false_and]
  cases hb : (2 ^ n - 1).testBit j with
  | false => rfl
  | true => exact absurd (bit_lt (by omega) hb) e
theorem tur_deal {g : Gg} (k : OkG g) : dO (turG g) (turG g).F (turG g).A (turG g).N [] = dO g g.F g.A g.N [] := by
 have h0 := Nat.two_pow_pos g.N
 have eF : (turG g).F = g.F := by unfold Gg.F; rw [turG_N]
 have eA : (turG g).A = g.A := by unfold Gg.A; rw [turG_len]
 have eO : oth g.N g.F = g.F := full_oth g.N
 have := tur_dO k (S := g.F) (C := g.A) (D := g.A) (by unfold Gg.F; omega) fun c hc => by rw [A_bit g (by omega), A_bit g hc]
 rw [eF, eA, this, eO]
theorem tur_gen {g : Gg} (k : OkG g) {C : Nat} : genB (turG g) C = genB g (oth g.cw.length C) := by
 have h0 := Nat.two_pow_pos g.N
 have eF : (turG g).F = g.F := by unfold Gg.F; rw [turG_N]
 have eO : oth g.N g.F = g.F := full_oth g.N
 have := tur_dO k (S := g.F) (C := C) (D := oth g.cw.length C) (by unfold Gg.F; omega) fun c hc => by
  rw [oth_bit, decide_eq_true (by omega), Bool.true_and]
  congr 1
  omega
 unfold genB
 rw [eF, this, eO]
theorem tur_lea {g : Gg} (k : OkG g) {S : Nat} (hS : S < 2 ^ g.N) : leaB (turG g) S = leaB g (oth g.N S) := by
 have h0 := Nat.two_pow_pos g.N
 have hF : g.F < 2 ^ g.N := by unfold Gg.F; omega
 have eF : (turG g).F = g.F := by unfold Gg.F; rw [turG_N]
 have eA : (turG g).A = g.A := by unfold Gg.A; rw [turG_len]
 have eO : oth g.N (dif g.F S) = dif g.F (oth g.N S) := by
  refine Nat.eq_of_testBit_eq fun j => ?_
  rw [oth_bit, dif_bit, dif_bit, oth_bit]
  by_cases e : j < g.N
  ·rw [decide_eq_true e, Bool.true_and, Bool.true_and, F_bit g (show g.N - 1 - j < g.N by omega), F_bit g e]
  ·rw [decide_eq_false e, Bool.false_and]
   cases hb : g.F.testBit j with
   | false => rfl
   | true => exact absurd (bit_lt hF hb) e
 have := tur_dO k (S := dif g.F S) (C := g.A) (D := g.A) (dif_lt hF) fun c hc => by rw [A_bit g (by omega), A_bit g hc]
 unfold leaB
 rw [eF, eA, this, eO]
theorem few_tur {f f' : Nat → Bool} {m : Nat} (hm : m ≤ 5) (h : ∀ C, C < 2 ^ m → f' C = f (oth m C)) : (fewV f' m).isSome = (fewV f m).isSome ∧ ∀ s s', fewV f m = some s → fewV f' m = some s' → pop s = pop s' := by
 have h' : ∀ C, C < 2 ^ m → f C = f' (oth m C) := fun C hC => by rw [h _ (oth_lt m C), oth_oth hC]
 constructor
 ·cases e : fewV f m with
  | none =>
    have hn := fewV_none (by omega) e
    cases e' : fewV f' m with
    | none => rfl
    | some s' =>
      have hs := fewV_some e'
      have := hn _ (oth_lt m s')
      rw [← h _ hs.lt, hs.is] at this
      cases this
  | some s =>
    have hs := fewV_some e
    cases e' : fewV f' m with
    | some s' => rfl
    | none =>
      have := fewV_none (by omega) e' _ (oth_lt m s)
      rw [← h' _ hs.lt, hs.is] at this
      cases this
 ·intro s s' e e'
  have hs := fewV_some e
  have hs' := fewV_some e'
  have p1 := oth_pop m (by omega) s (lt32 hm hs.lt) hs.lt
  have p2 := oth_pop m (by omega) s' (lt32 hm hs'.lt) hs'.lt
  have h1 := hs.le _ (oth_lt m s') (by rw [← h _ hs'.lt]; exact hs'.is)
  have h2 := hs'.le _ (oth_lt m s) (by rw [← h' _ hs.lt]; exact hs.is)
  omega
end Go.Proofs.Ytdopkbldjagmlaa
end
section
set_option linter.unusedVariables false
set_option linter.unusedSimpArgs false
set_option maxHeartbeats 1000000
set_option maxRecDepth 100000
namespace Go.Proofs.Ytdopkbldjagmlaa
open Go.V
theorem bandI (S i : Nat) : (((S : Int) / 2 ^ i).toNat &&& 1 : Nat) = if S.testBit i = true then 1 else 0 := by
 have h : decide ((((S : Int) / 2 ^ i).toNat &&& 1 : Nat) = (1 : Int)) = S.testBit i := bit_eq S i
 have h2 : ((S : Int) / 2 ^ i).toNat &&& 1 = 0 ∨ ((S : Int) / 2 ^ i).toNat &&& 1 = 1 := by
  rw [Nat.and_one_is_mod]; omega
 rcases h2 with e | e
 ·rw [e] at h ⊢
  rw [← h]; rfl
 ·rw [e] at h ⊢
  rw [← h]; rfl
theorem othN_succ (n S i : Nat) : othN n S (i + 1) = othN n S i ||| (if S.testBit i = true then 1 else 0) * 2 ^ (n - 1 - i) := by
 simp only [othN]
 split
 ·rw [Nat.one_mul]
 ·rw [Nat.zero_mul, Nat.or_zero]
theorem oth_tri (n S i9 : Nat) (H : Hp) (hn : n ≤ 5) (hS : S < 2 ^ 60) (h9 : H i9 = some (.box 1 1 fun _ => [i64 (n : Int)])) : PTri Try.prog (.func (.func 32) [] [.ref i9 0 1 0 0]) [i64 (S : Nat)] H (i64 (oth n S : Nat)) := by
 refine Tri.drop ?_
 refine tri_v0 (fun _ => false) Try.func32 (by kernel_rfl) rfl (by simp only [List.length_append, List.length_cons, List.length_nil, Try.ntmps32]; decide) ?_
 skip
 simp only [vsAll, loadA, loadRow, partA, partOk, opA, dstOk, nilSliceOp, argFr, Nat.reduceLT, Nat.reduceEqDiff, ↓reduceIte, eq_self, wtAll, Try.ntmps32, h9]
 refine vs_loop (σ := Nat) (fun i => i ≤ n) (fun i => [(0, i64 (S : Nat)), (1, .ref i9 0 1 0 0), (4, i64 (othN n S i : Nat)), (6, i64 n), (7, i64 i)]) (fun _ => H) (fun i => n - i) 0 (Nat.zero_le _) ?_ HSub_rfl fun i hi => ?_
 ·simp only [vsAll, argFr, Nat.reduceEqDiff, ↓reduceIte, reduceCtorEq, eq_self, Int.natCast_zero]
  exact AV.Le.refl _
 ·simp only [vsAll, binA, binLitA, intA, opA, dstOk, Nat.reduceLT, Nat.reduceEqDiff, ↓reduceIte, reduceCtorEq, eq_self]
  refine condD (fun hd => ?_) (fun hd => ?_)
  ·have his : i < n := by ((try clear h9); omega)
   have h1 : (S : Int) / 2 ^ i = ((S / 2 ^ i : Nat) : Int) := by simp
   have h2 : S / 2 ^ i ≤ S := Nat.div_le_self _ _
   have hdv : 0 ≤ (S : Int) / 2 ^ i ∧ InR .i64 ((S : Int) / 2 ^ i) := by
    rw [h1]
    refine ⟨Int.natCast_nonneg _, ?_⟩
    generalize S / 2 ^ i = q at *
    simp only [InR_i64]; ((try clear h9); omega)
   have hbe := bandI S i
   have hsu := othN_succ n S i
   have hol := othN_lt n S i hi
   have hpn : 2 ^ n ≤ 2 ^ 5 := Nat.pow_le_pow_right (by decide) hn
   have hp2 : 2 ^ (n - 1 - i) ≤ 2 ^ 5 := Nat.pow_le_pow_right (by decide) (by ((try clear h9); omega))
   have ett : ((n : Int) - 1 - (i : Int)).toNat = n - 1 - i := by ((try clear h9); omega)
   generalize hB : (if S.testBit i = true then 1 else 0 : Nat) = B at hbe hsu
   have hB1 : B ≤ 1 := by rw [← hB]; split <;> ((try clear h9); omega)
   have hBm : B * 2 ^ (n - 1 - i) ≤ 1 * 2 ^ (n - 1 - i) := Nat.mul_le_mul_right _ hB1
   have emu : (B : Int) * 2 ^ (n - 1 - i) = ((B * 2 ^ (n - 1 - i) : Nat) : Int) := by simp
   simp only [vsAll, opA, dstOk, nilSliceOp, Nat.reduceLT, Nat.reduceEqDiff, ↓reduceIte, reduceCtorEq, eq_self]
   refine vs_draw2 [0, 0, 0, 0, 0, 0, 0, 0, 0, 0, 0, 1] [([0, 1, 2, 3, 4, 5, 6, 7, 8, 9, 10], [], 11)] [] (by decide +kernel) ?_
   simp only [vsAll, binA, binLitA, intA, loadA, loadRow, partA, partOk, opA, dstOk, nilSliceOp, Nat.reduceLT, Nat.reduceEqDiff, Int.reduceLE, Int.reduceToNat, ↓reduceIte, reduceCtorEq, eq_self, wtAll, h9, hbe, ett, emu]
   generalize hQ : B * 2 ^ (n - 1 - i) = Q at *
   refine ⟨⟨by ((try clear h9); omega), by ((try clear h9); omega), rfl⟩, ⟨hdv.1, hdv.2, by simp only [InR_i64]; ((try clear h9); omega)⟩, by simp only [InR_i64]; ((try clear h9); omega), by simp only [InR_i64]; ((try clear h9); omega), ⟨by ((try clear h9); omega), by ((try clear h9); omega), by simp only [InR_i64]; ((try clear h9); omega)⟩, ⟨by ((try clear h9); omega), by ((try clear h9); omega), by simp only [InR_i64]; ((try clear h9); omega), by simp only [InR_i64]; ((try clear h9); omega)⟩, by simp only [InR_i64]; ((try clear h9); omega), loop_next (i + 1) his (by ((try clear h9); omega)) ?_ HSub_rfl⟩
   rw [hsu]
   simp only [vsAll, Nat.reduceEqDiff, ↓reduceIte, reduceCtorEq, eq_self, Int.natCast_add, Int.natCast_one]
  ·have ei : i = n := by ((try clear h9); omega)
   subst ei
   have e : othN i S i = oth i S := rfl
   rw [e]
   simp only [vsAll, opA, dstOk, nilSliceOp, resA, retA.eq_1, Nat.reduceLT, Nat.reduceEqDiff, ↓reduceIte, reduceCtorEq, eq_self, Try.results32]
   exact dropR_pure rfl HSub_rfl
/-- A row, by the other numbers. -/
def bkL (g : Gg) (l : List Int) : List Int := mpL (fun n => g.N - 1 - n) l
theorem bk_in {g : Gg} {l : List Int} (h : InG g l) : InG (turG g) (bkL g l) := fun i hi => by
 unfold bkL at hi ⊢
 rw [mpL_len] at hi
 obtain ⟨n, e, hn⟩ := h i hi
 rw [mpL_at _ _ hi, e, Int.toNat_natCast, turG_N]
 exact ⟨g.N - 1 - n, rfl, by omega⟩
theorem bk_bk {g : Gg} {l : List Int} (h : InG g l) : mpL (fun n => g.N - 1 - n) (bkL g l) = l := by
 refine List.ext_getElem (by simp [bkL, mpL_len]) fun i h1 h2 => ?_
 obtain ⟨n, e, hn⟩ := h i h2
 have e2 : (mpL (fun n => g.N - 1 - n) (bkL g l)).getD i 0 = l.getD i 0 := by
  unfold bkL
  rw [mpL_at _ _ (by rw [mpL_len]; exact h2), mpL_at _ _ h2, e, Int.toNat_natCast, Int.toNat_natCast]
  omega
 rw [List.getD_eq_getElem?_getD, List.getElem?_eq_getElem h1, List.getD_eq_getElem?_getD, List.getElem?_eq_getElem h2] at e2
 exact e2
theorem row_inG {g : Gg} {l : List Int} (h : rowB g l = true) : InG g l := fun i hi => by
 obtain ⟨n, e, hn⟩ := row_nat h hi
 exact ⟨n, e, hn⟩
theorem bk_row {g : Gg} {l : List Int} (h : rowB g l = true) : rowB (turG g) (bkL g l) = true := by
 have hi := row_inG h
 obtain ⟨r1, r2⟩ := rowB_iff.1 h
 refine rowB_iff.2 ⟨fun i hi2 => ?_, fun i j hij hj => ?_⟩
 ·obtain ⟨n, e, hn⟩ := bk_in hi i hi2
  omega
 ·unfold bkL at hj ⊢
  rw [mpL_len] at hj
  obtain ⟨n, e1, hn⟩ := hi i (by omega)
  obtain ⟨m, e2, hm⟩ := hi j hj
  rw [mpL_at _ _ (by omega), mpL_at _ _ hj, e1, e2, Int.toNat_natCast, Int.toNat_natCast]
  have := r2 i j hij hj
  rw [e1, e2] at this
  omega
theorem tur_row {g : Gg} (k : OkG g) {c : Nat} (hc : c < g.cw.length) {l : List Int} (h : rowB g l = true) :
  rowE (turG g) ((g.cw.length - 1 - c : Nat) : Int) (bkL g l) = rowE g (c : Int) l ∧ rowV (turG g) ((g.cw.length - 1 - c : Nat) : Int) (bkL g l) = rowV g (c : Int) l ∧
  chkE (turG g) ((g.cw.length - 1 - c : Nat) : Int) (bkL g l) = chkE g (c : Int) l ∧ (chkE g (c : Int) l = 0 → chkV g (c : Int) l = (g.N : Int) - 1 - chkV (turG g) ((g.cw.length - 1 - c : Nat) : Int) (bkL g l)) := by
 have kx := turG_ok k
 have hi := row_inG h
 have hix := bk_in hi
 have hbb := bk_bk hi
 have hd : g.cw.length - 1 - c < (turG g).cw.length := by rw [turG_len]; omega
 have ed : g.cw.length - 1 - (g.cw.length - 1 - c) = c := by omega
 have R := (tur_ren g).toRenS
 have rc := ((tur_ren g).c _ hd).2
 rw [ed] at rc
 have hkw := ren_kwn R rc hix
 have hla := ren_lat R rc hix
 rw [hbb] at hkw hla
 have hlen : (bkL g l).length = l.length := mpL_len _ _
 have hv : vRow g (c : Int) l = true := by
  unfold vRow
  rw [h, (isCw_iff g _).2 (by omega)]; rfl
 have hvx : vRow (turG g) ((g.cw.length - 1 - c : Nat) : Int) (bkL g l) = true := by
  unfold vRow
  rw [bk_row h, (isCw_iff (turG g) _).2 (by rw [turG_len]; omega)]; rfl
 have e1 : rowE (turG g) ((g.cw.length - 1 - c : Nat) : Int) (bkL g l) = rowE g (c : Int) l := by
  unfold rowE
  rw [hv, hvx, errG_ok k, errG_ok kx, if_pos rfl, if_pos rfl, Int.toNat_natCast, Int.toNat_natCast, hkw]
 have e3 : chkE (turG g) ((g.cw.length - 1 - c : Nat) : Int) (bkL g l) = chkE g (c : Int) l := by
  unfold chkE
  rw [e1, Int.toNat_natCast, Int.toNat_natCast, hla]
 refine ⟨e1, ?_, e3, fun h0 => ?_⟩
 ·unfold rowV
  rw [e1, hlen, Int.toNat_natCast, Int.toNat_natCast]
  split
  ·unfold rwH
   refine List.map_congr_left fun i hi2 => ?_
   rw [List.mem_range] at hi2
   have d1 := ren_don R ((turG g).crew (g.cw.length - 1 - c)).hi hix (i + 1) (by omega)
   have d2 := ren_don R ((turG g).crew (g.cw.length - 1 - c)).lo hix (i + 1) (by omega)
   rw [hbb] at d1 d2
   rw [← d1, ← d2, rc.hi, rc.lo]
  ·rfl
 ·unfold chkV
  rw [e3, if_pos h0, if_pos h0, Int.toNat_natCast, Int.toNat_natCast, ← hla]
  cases hl : latO g c l with
  | none =>
    unfold chkE at h0
    rw [Int.toNat_natCast, hl] at h0
    split at h0
    ·simp at h0
    ·omega
  | some i =>
    have hil := (lat_some.1 hl).1
    obtain ⟨n, e, hn⟩ := hi i hil
    unfold bkL
    show l.getD i 0 = (g.N : Int) - 1 - (mpL (fun n => g.N - 1 - n) l).getD i 0
    rw [mpL_at _ _ hil, e, Int.toNat_natCast]
    omega
theorem tur_sets {g : Gg} (k : OkG g) {c : Nat} (hc : c < g.cw.length) : (stsN (turG g) (g.cw.length - 1 - c) (2 ^ g.N)).length = (stsN g c (2 ^ g.N)).length ∧ ∀ S, S < 2 ^ g.N → (endO (turG g) (g.cw.length - 1 - c) S).isSome = (endO g c (oth g.N S)).isSome := by
 have h : ∀ S, S < 2 ^ g.N → (endO (turG g) (g.cw.length - 1 - c) S).isSome = (endO g c (oth g.N S)).isSome := fun S hS => by
  rw [tur_end k (by omega) hS, show g.cw.length - 1 - (g.cw.length - 1 - c) = c by omega]
 refine ⟨?_, h⟩
 have hp : (((List.range (2 ^ g.N)).filter fun S => (endO (turG g) (g.cw.length - 1 - c) S).isSome).map (oth g.N)).Perm ((List.range (2 ^ g.N)).filter fun S => (endO g c S).isSome) := by
  refine (List.perm_ext_iff_of_nodup ?_ (List.Pairwise.filter _ List.nodup_range)).2 fun S => ?_
  ·refine List.pairwise_map.2 (List.Pairwise.imp_of_mem (S := fun a b => oth g.N a ≠ oth g.N b) (R := fun a b => a ≠ b) (fun {a b} ha hb hab e => ?_) (List.Pairwise.filter _ List.nodup_range))
   rw [List.mem_filter, List.mem_range] at ha hb
   apply hab
   rw [← oth_oth ha.1, ← oth_oth hb.1, e]
  ·simp only [List.mem_map, List.mem_filter, List.mem_range]
   constructor
   ·rintro ⟨q, ⟨h1, h2⟩, rfl⟩
    exact ⟨oth_lt _ _, by rw [← h q h1]; exact h2⟩
   ·rintro ⟨h1, h2⟩
    exact ⟨oth g.N S, ⟨oth_lt _ _, by rw [h _ (oth_lt _ _), oth_oth h1]; exact h2⟩, oth_oth h1⟩
 have := hp.length_eq
 simpa [stsN] using this
end Go.Proofs.Ytdopkbldjagmlaa
end
