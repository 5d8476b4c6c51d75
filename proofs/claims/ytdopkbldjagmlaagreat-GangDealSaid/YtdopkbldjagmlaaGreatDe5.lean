/- Helper lemmas of this claim, part 5. -/
import Derived.Test.YtdopkbldjagmlaaGreatRows
import Derived.ChangeVars
import Derived.Test.YtdopkbldjagmlaaGreatDe4
section
set_option linter.unusedVariables false
set_option linter.unusedSimpArgs false
set_option maxHeartbeats 4000000
set_option maxRecDepth 100000
namespace Go.Proofs.YtdopkbldjagmlaaGreat
open Go.V
/-- The table so far. -/
def tF (g : Gg) (c i : Nat) (v : Int) : Nat → List AV := fun q => [i64 (if q < i then tabV g c q else if q = i then v else 0)]
theorem tF_at (g : Gg) (c i : Nat) (v : Int) {q : Nat} (h : q < i) : tF g c i v q = [i64 (tabV g c q)] := by
 unfold tF
 rw [if_pos h]
theorem tF_now (g : Gg) (c i : Nat) (v : Int) : tF g c i v i = [i64 v] := by
 unfold tF
 rw [if_neg (Nat.lt_irrefl i), if_pos rfl]
theorem tF_upd (g : Gg) (c i : Nat) (v w : Int) : updF 32 i (tF g c i v) (i64 w :: List.drop 1 (tF g c i v i)) = tF g c i w := by
 funext q
 show (if q = i then i64 w :: List.drop 1 (tF g c i v i) else tF g c i v q) = _
 rw [tF_now]
 unfold tF
 by_cases e : q = i
 ·subst e
  rw [if_pos rfl, if_neg (Nat.lt_irrefl q), if_pos rfl]
  rfl
 ·rw [if_neg e, if_neg e, if_neg e]
theorem tF_upd2 (g : Gg) (c i : Nat) (v w : Int) : updF 32 i (tF g c i v) [i64 w] = tF g c i w := by
 have := tF_upd g c i v w
 rw [tF_now] at this
 exact this
theorem tF_ok (g : Gg) (c i : Nat) (v : Int) (q : Nat) : okCells (tF g c i v q) := by
 unfold tF
 exact ⟨rfl, trivial⟩
theorem tF_next (g : Gg) (c i : Nat) : tF g c i (tabV g c i) = tF g c (i + 1) 0 := by
 funext q
 unfold tF
 by_cases e : q = i
 ·subst e
  rw [if_neg (Nat.lt_irrefl q), if_pos rfl, if_pos (Nat.lt_succ_self q)]
 ·by_cases e2 : q < i
  ·rw [if_pos e2, if_pos (by omega)]
  ·rw [if_neg e2, if_neg e, if_neg (by omega)]
   split <;> rfl
theorem tF_zero (g : Gg) (c : Nat) : tF g c 0 0 = fun _ => [i64 0] := by
 funext q
 unfold tF
 rw [if_neg (Nat.not_lt_zero q)]
 split <;> rfl
def tabF (g : Gg) (c : Nat) : Nat → List AV := tF g c (2 ^ g.N) 0
abbrev tabA (g : Gg) (c : Nat) : AV := .arr 32 1 (tabF g c)
theorem table_tri (g : Gg) (c : Nat) (H : Hp) (k : OkG g) (hc : c < g.cw.length) : PTri Tryz.prog (fnA 58) [gP g, i64 c] H (tabA g c) := by
 have nS := k.nS
 have hN : g.N ≤ 5 := nS
 have hNe : g.N = g.sm.length := rfl
 have hpw : 2 ^ g.N ≤ 2 ^ 5 := Nat.pow_le_pow_right (by omega) hN
 have hp0 : 0 < 2 ^ g.N := Nat.two_pow_pos _
 refine Tri.drop ?_
 refine tri_v0 (fun _ => false) Tryz.func58 (by kernel_rfl) rfl (by simp only [List.length_append, List.length_cons, List.length_nil, Tryz.ntmps58]; decide) ?_
 simp only [vsAll, okAll, stAll, opsA, opA, allocA, dstOk, argFr, Nat.reduceLT, Nat.reduceEqDiff, ↓reduceIte, reduceCtorEq, eq_self, wtAll, Tryz.ntmps58]
 intro i4 hh_i4; (try simp only [Hp.set_none, ite_none] at hh_i4)
 refine callK_pure (knows_tri g c _ k hc) ?_
 simp only [vsAll, loadA, loadRow, partA, partOk, fieldAddrA, lenA, nilCheckA, okAll, stAll, opsA, opA, dstOk, nilSliceOp, argFr, Nat.reduceLT, ↓reduceIte, reduceCtorEq, eq_self, wtAll]
 refine callK_pure (every_tri g.sm.length _ nS) ?_
 have e21 : ((2 ^ g.sm.length - 1 : Nat) : Int) + 1 = ((2 ^ g.N : Nat) : Int) := by rw [hNe] at *; ((try clear hh_i4); omega)
 simp only [vsAll, binA, binLitA, intA, opA, dstOk, Nat.reduceLT, ↓reduceIte, eq_self, e21]
 refine ⟨by simp only [InR_u64]; ((try clear hh_i4); omega), ?_⟩
 refine vs_loop (σ := Nat) (fun i => i ≤ 2 ^ g.N) (fun i => [(0, gP g), (1, i64 c), (4, .ref i4 0 1 0 0), (5, knG g c), (6, .func (.func 95) [] []), (21, u64 ((2 ^ g.N : Nat) : Int)), (22, u64 (i : Nat))]) (fun i => H.set i4 (.box 1 32 (tF g c i 0))) (fun i => 2 ^ g.N - i) 0 (Nat.zero_le _) ?_ ?_ fun i hi => ?_
 ·simp only [vsAll, argFr, Nat.reduceEqDiff, ↓reduceIte, reduceCtorEq, eq_self, Int.natCast_zero]
 ·rw [tF_zero]
  (repeat (first | exact HSub_rfl | refine HSub_put_eq (by simp only [vsAll, ↓reduceIte, eq_self, reduceCtorEq, Nat.reduceEqDiff, hh_i4]) ?_ | refine HSub_drop2 (by simp only [vsAll, ↓reduceIte, eq_self, reduceCtorEq, Nat.reduceEqDiff, hh_i4]) ?_ | refine HSub_keep_eq (by simp only [vsAll, ↓reduceIte, eq_self, reduceCtorEq, Nat.reduceEqDiff, hh_i4]) ?_))
 ·simp only [vsAll, binA, binLitA, intA, opA, dstOk, Nat.reduceLT, Nat.reduceEqDiff, ↓reduceIte, reduceCtorEq, eq_self]
  refine condD (fun hd => ?_) (fun hd => ?_)
  ·have his : i < 2 ^ g.N := by ((try clear hh_i4); omega)
   have hi5 : i < 32 := lt32 hN his
   simp only [vsAll, binA, binLitA, intA, indexAddrA, cellA, cellsA, opA, newCells, okCells, storeObj, dstOk, nilSliceOp, Nat.reduceLT, Nat.reduceEqDiff, ↓reduceIte, reduceCtorEq, eq_self, wtAll]
   refine ⟨⟨by ((try clear hh_i4); omega), by ((try clear hh_i4); omega)⟩, by ((try clear hh_i4); omega), ?_⟩
   rw [Hp.set_set]
   rw [tF_upd g c i 0 10000]
   have hts := tb_start g c i
   refine condV (fun hc0 => ?_) (fun hc0 => ?_)
   ·have e0 : i = 0 := by rw [decide_eq_true_eq] at hc0; ((try clear hh_i4); omega)
    rw [if_pos e0] at hts
    simp only [vsAll, loadA, loadRow, partA, partOk, fieldAddrA, indexAddrA, lenA, nilCheckA, cellA, cellsA, opA, newCells, okCells, storeObj, dstOk, Nat.reduceLT, Nat.reduceEqDiff, ↓reduceIte, reduceCtorEq, eq_self, wtAll]
    refine ⟨⟨by ((try clear hh_i4); omega), by ((try clear hh_i4); omega)⟩, by ((try clear hh_i4); omega), ?_⟩
    have eh : tF g c i 0 = tF g c i (tbN g c i 0) := by rw [hts]
    rw [Hp.set_set, tF_upd g c i 10000 0, eh]
    refine vs_loop (σ := Nat) (fun j => j ≤ g.N) (fun j => [(0, gP g), (1, i64 c), (4, .ref i4 0 1 0 0), (5, knG g c), (6, .func (.func 95) [] []), (7, u64 (i : Nat)), (21, u64 ((2 ^ g.N : Nat) : Int)), (22, u64 (i : Nat)), (36, i64 g.N), (37, i64 j)]) (fun j => H.set i4 (.box 1 32 (tF g c i (tbN g c i j)))) (fun j => g.N - j) 0 (Nat.zero_le _) ?_ HSub_rfl fun j hj => ?_
    ·simp only [vsAll, Nat.reduceEqDiff, ↓reduceIte, reduceCtorEq, eq_self, hNe, Int.natCast_zero]
    ·simp only [vsAll, binA, binLitA, intA, opA, dstOk, Nat.reduceLT, Nat.reduceEqDiff, ↓reduceIte, reduceCtorEq, eq_self]
     refine condD (fun hd2 => ?_) (fun hd2 => ?_)
     ·have hjs : j < g.N := by ((try clear hh_i4); omega)
      have hts2 := tb_step k (i := j) hc his hjs
      simp only [vsAll, okAll, stAll, opsA, opA, dstOk, nilSliceOp, Nat.reduceLT, Nat.reduceEqDiff, ↓reduceIte, reduceCtorEq, eq_self]
      refine callK_pure (ghas_tri i j _ (by ((try clear hh_i4); omega)) (by ((try clear hh_i4); omega))) ?_
      simp only [vsAll, unA, opA, guardV, dstOk, Nat.reduceLT, Nat.reduceEqDiff, ↓reduceIte, reduceCtorEq, implies_true, eq_self]
      refine gcall (boo (knB g c j)) (fun q => ⟨by simp only [vsAll, opA, Nat.reduceEqDiff, ↓reduceIte, eq_self, q], by simp only [vsAll, okAll, opsA, opA, ↓reduceIte, eq_self, q], knows1_tri g c j _ k hc hjs⟩) ?_
      simp only [vsAll, unA, pickA, opA, guardV, dstOk, Nat.reduceLT, Nat.reduceEqDiff, ↓reduceIte, implies_true, eq_self]
      refine condV (fun hc1 => ?_) (fun hc1 => ?_)
      ·have en : ¬ ((i.testBit j = true ∧ knB g c j = true) ∧ tabV g c (dif i (2 ^ j)) < 10000 ∧ stT g (g.crew c).lo (tabV g c (dif i (2 ^ j))) j ≤ (g.seam j).fl) := by
        rintro ⟨⟨q1, q2⟩, _⟩
        rw [q1, q2] at hc1
        simp at hc1
       rw [if_neg en] at hts2
       rw [← hts2]
       simp only [vsAll, binA, binLitA, intA, opA, dstOk, Nat.reduceLT, Nat.reduceEqDiff, ↓reduceIte, reduceCtorEq, eq_self]
       refine ⟨by simp only [InR_i64]; ((try clear hh_i4); omega), loop_next (j + 1) (by ((try clear hh_i4); omega)) (by ((try clear hh_i4); omega)) ?_ HSub_rfl⟩
       simp only [vsAll, Nat.reduceEqDiff, ↓reduceIte, reduceCtorEq, eq_self, Int.natCast_add, Int.natCast_one]
      ·have hb1 : i.testBit j = true := by
        revert hc1
        cases i.testBit j <;> simp
       have hb2 : knB g c j = true := by
        revert hc1
        cases i.testBit j <;> cases knB g c j <;> simp
       have hbg : 0 ≤ begV g j := by
        have := hb2
        unfold knB at this
        rw [Bool.and_eq_true, decide_eq_true_eq] at this
        exact this.2
       have hdi := dif_pop i hi5 j (by ((try clear hh_i4); omega)) hb1
       have hdl : dif i (2 ^ j) < 2 ^ g.N := dif_lt his
       have htl := tab_le k hc hdl
       have ep : (1 : Int) * 2 ^ j = ((2 ^ j : Nat) : Int) := by rw [Int.one_mul]; simp
       have hpj : 2 ^ j ≤ 2 ^ 5 := Nat.pow_le_pow_right (by ((try clear hh_i4); omega)) (by ((try clear hh_i4); omega))
       have eS : g.sm.getD j sm0 = g.seam j := rfl
       have hnx := next_tri g (dif i (2 ^ j)) (tabV g c (dif i (2 ^ j))) c j false
       rw [show spd (g.crew c) false = (g.crew c).lo from rfl] at hnx
       have eta := tF_at g c i (tbN g c i j) hdi.2
       have hnow := tF_now g c i (tbN g c i j)
       simp only [vsAll]
       refine vs_draw2 [0, 0, 0, 0, 0, 0, 0, 0, 0, 0, 0, 1, 3] [([0, 1, 2, 3, 4, 5, 6, 7, 8, 9, 10], [3, 7, 9], 11), ([], [], 12)] [] (by decide +kernel) ?_
       simp only [vsAll, binA, binLitA, intA, opA, dstOk, Nat.reduceLT, Nat.reduceEqDiff, ↓reduceIte, reduceCtorEq, eq_self, ep]
       generalize 2 ^ j = Q at hdi hdl htl hpj hnx eta hts2 ep ⊢
       refine ⟨⟨by ((try clear hh_i4); omega), by ((try clear hh_i4); omega), by simp only [InR_u64]; ((try clear hh_i4); omega)⟩, ?_⟩
       refine qcall _ ⟨trivial, by simp only [vsAll, okAll, opsA, opA, Nat.reduceEqDiff, ↓reduceIte, eq_self], without_tri i Q _ (by ((try clear hh_i4); omega)) (by ((try clear hh_i4); omega))⟩ ?_
       simp only [vsAll, binA, binLitA, intA, opA, dstOk, Nat.reduceLT, Nat.reduceEqDiff, ↓reduceIte, reduceCtorEq, eq_self, ep]
       refine ⟨⟨by ((try clear hh_i4); omega), by ((try clear hh_i4); omega), by simp only [InR_u64]; ((try clear hh_i4); omega)⟩, ?_⟩
       refine qcall _ ⟨trivial, by simp only [vsAll, okAll, opsA, opA, Nat.reduceEqDiff, ↓reduceIte, eq_self], without_tri i Q _ (by ((try clear hh_i4); omega)) (by ((try clear hh_i4); omega))⟩ ?_
       simp only [vsAll, loadA, loadRow, partA, partOk, indexAddrA, cellA, cellsA, fillA, okParts, ifaceA, okAll, stAll, opsA, partsA, partsOk, opA, allocA, newCells, okCells, storeObj, dstOk, Nat.reduceAdd, Nat.reduceLT, Nat.reduceLeDiff, Nat.reduceEqDiff, ↓reduceIte, reduceCtorEq, eq_self, wtAll, eta]
       refine ⟨⟨by ((try clear hh_i4); omega), by ((try clear hh_i4); omega)⟩, by ((try clear hh_i4); omega), ?_⟩
       intro i9 hh_i9; (try simp only [ite_none] at hh_i9)
       simp only [vsAll, Nat.reduceLT, ↓reduceIte, eq_self, hh_i9, eta]
       refine ⟨⟨rcall _ ⟨trivial, by simp only [vsAll, okAll, opsA, opA, Nat.reduceEqDiff, ↓reduceIte, eq_self], without_tri i Q _ (by ((try clear hh_i4 hh_i9); omega)) (by ((try clear hh_i4 hh_i9); omega))⟩ (by simp only [vsAll, Nat.reduceEqDiff, ↓reduceIte, eq_self]), rcall _ ⟨trivial, by simp only [vsAll, okAll, opsA, opA, Nat.reduceEqDiff, ↓reduceIte, eq_self], without_tri i Q _ (by ((try clear hh_i4 hh_i9); omega)) (by ((try clear hh_i4 hh_i9); omega))⟩ (by simp only [vsAll, Nat.reduceEqDiff, ↓reduceIte, eq_self]), by ((try clear hh_i4 hh_i9); omega)⟩, ?_⟩
       refine callK_pure (hnx _ k (by ((try clear hh_i4 hh_i9); omega)) (by ((try clear hh_i4 hh_i9); omega)) hc hjs hbg) ?_
       simp only [vsAll, cellA, opA, allocA, newCells, okCells, storeObj, dstOk, Nat.reduceAdd, Nat.reduceLT, Nat.reduceEqDiff, ↓reduceIte, eq_self, wtAll]
       intro i10 hh_i10; (try simp only [ite_none] at hh_i10)
       refine vs_draw2 [0, 0, 0, 0, 0, 0, 0, 0, 0, 0, 0, 0, 0, 0, 0, 0, 0] [] [0, 1, 2, 3, 4, 5, 6, 7, 8, 9, 10, 11, 12, 13, 14, 15, 16] (by decide +kernel) ?_
       simp only [vsAll, binA, binLitA, intA, loadA, loadRow, partA, partOk, fieldAddrA, indexAddrA, nilCheckA, pickA, opA, guardV, dstOk, Nat.reduceLT, Nat.reduceEqDiff, ↓reduceIte, reduceCtorEq, implies_true, eq_self, wtAll, hh_i10, smF_at, eS]
       refine ⟨fun q => ⟨q, q, by ((try clear hh_i4 hh_i9 hh_i10); omega), by ((try clear hh_i4 hh_i9 hh_i10); omega)⟩, fun q => ⟨q, by ((try clear hh_i4 hh_i9 hh_i10); omega)⟩, ?_⟩
       rw [Hp.set_set, Hp.set_set]
       refine condV (fun hc2 => ?_) (fun hc2 => ?_)
       ·rw [Bool.and_eq_true, decide_eq_true_eq, decide_eq_true_eq] at hc2
        rw [if_pos ⟨⟨hb1, hb2⟩, hc2⟩] at hts2
        refine vs_draw2 [0, 0, 0, 0, 0, 0, 0, 0, 1] [([0, 1, 2, 3, 4, 5, 6, 7], [], 8)] [] (by decide +kernel) ?_
        simp only [vsAll, binA, binLitA, intA, loadA, loadRow, partA, partOk, fieldAddrA, indexAddrA, cellA, cellsA, mmA, okAll, stAll, opsA, opA, newCells, okCells, storeObj, dstOk, Nat.reduceLT, Nat.reduceEqDiff, ↓reduceIte, reduceCtorEq, eq_self, wtAll, hh_i9, hh_i10, hnow]
        rw [tF_upd2, ← hts2]
        refine ⟨⟨by ((try clear hh_i4 hh_i9 hh_i10); omega), by ((try clear hh_i4 hh_i9 hh_i10); omega)⟩, by ((try clear hh_i4 hh_i9 hh_i10); omega), ⟨by ((try clear hh_i4 hh_i9 hh_i10); omega), by ((try clear hh_i4 hh_i9 hh_i10); omega)⟩, by ((try clear hh_i4 hh_i9 hh_i10); omega), by simp only [InR_i64]; ((try clear hh_i4 hh_i9 hh_i10); omega), loop_next (j + 1) (by ((try clear hh_i4 hh_i9 hh_i10); omega)) (by ((try clear hh_i4 hh_i9 hh_i10); omega)) ?_ (by (repeat (first | exact HSub_rfl | refine HSub_put_eq (by simp only [vsAll, ↓reduceIte, eq_self]) ?_ | refine HSub_drop2 (by simp only [eq_self, hh_i4, hh_i9, hh_i10]) ?_ | refine HSub_keep_eq (by simp only [vsAll, ↓reduceIte, eq_self, reduceCtorEq, Nat.reduceEqDiff, hh_i4, hh_i9, hh_i10]) ?_)))⟩
        simp only [vsAll, Nat.reduceEqDiff, ↓reduceIte, reduceCtorEq, eq_self, Int.natCast_add, Int.natCast_one]
       ·rw [if_neg (by
         rintro ⟨_, q1, q2⟩
         rw [decide_eq_true q1, decide_eq_true q2] at hc2
         cases hc2)] at hts2
        rw [← hts2]
        simp only [vsAll, binA, binLitA, intA, opA, dstOk, Nat.reduceLT, Nat.reduceEqDiff, ↓reduceIte, reduceCtorEq, eq_self]
        refine ⟨by simp only [InR_i64]; ((try clear hh_i4 hh_i9 hh_i10); omega), loop_next (j + 1) (by ((try clear hh_i4 hh_i9 hh_i10); omega)) (by ((try clear hh_i4 hh_i9 hh_i10); omega)) ?_ (by (repeat (first | exact HSub_rfl | refine HSub_put_eq (by simp only [vsAll, ↓reduceIte, eq_self, hh_i9, hh_i10]) ?_ | refine HSub_drop2 (by simp only [eq_self, hh_i4, hh_i9, hh_i10]) ?_ | refine HSub_keep_eq (by simp only [vsAll, ↓reduceIte, eq_self, reduceCtorEq, Nat.reduceEqDiff, hh_i4, hh_i9, hh_i10]) ?_)))⟩
        simp only [vsAll, Nat.reduceEqDiff, ↓reduceIte, reduceCtorEq, eq_self, Int.natCast_add, Int.natCast_one]
     ·have ej : j = g.N := by ((try clear hh_i4); omega)
      subst ej
      rw [tb_end hN his, tF_next]
      simp only [vsAll, binA, binLitA, intA, opA, dstOk, Nat.reduceLT, Nat.reduceEqDiff, ↓reduceIte, reduceCtorEq, eq_self]
      refine ⟨by simp only [InR_u64]; ((try clear hh_i4); omega), loop_next (i + 1) (by ((try clear hh_i4); omega)) (by ((try clear hh_i4); omega)) ?_ HSub_rfl⟩
      simp only [vsAll, Nat.reduceEqDiff, ↓reduceIte, reduceCtorEq, eq_self, Int.natCast_add, Int.natCast_one]
   ·have e0 : ¬ i = 0 := by rw [decide_eq_false_iff_not] at hc0; ((try clear hh_i4); omega)
    rw [if_neg e0] at hts
    have eh : tF g c i 10000 = tF g c i (tbN g c i 0) := by rw [hts]
    rw [eh]
    simp only [vsAll, loadA, loadRow, partA, partOk, fieldAddrA, lenA, nilCheckA, opA, dstOk, Nat.reduceLT, ↓reduceIte, reduceCtorEq, eq_self, wtAll]
    refine vs_loop (σ := Nat) (fun j => j ≤ g.N) (fun j => [(0, gP g), (1, i64 c), (4, .ref i4 0 1 0 0), (5, knG g c), (6, .func (.func 95) [] []), (7, u64 (i : Nat)), (21, u64 ((2 ^ g.N : Nat) : Int)), (22, u64 (i : Nat)), (36, i64 g.N), (37, i64 j)]) (fun j => H.set i4 (.box 1 32 (tF g c i (tbN g c i j)))) (fun j => g.N - j) 0 (Nat.zero_le _) ?_ HSub_rfl fun j hj => ?_
    ·simp only [vsAll, Nat.reduceEqDiff, ↓reduceIte, reduceCtorEq, eq_self, hNe, Int.natCast_zero]
    ·simp only [vsAll, binA, binLitA, intA, opA, dstOk, Nat.reduceLT, Nat.reduceEqDiff, ↓reduceIte, reduceCtorEq, eq_self]
     refine condD (fun hd2 => ?_) (fun hd2 => ?_)
     ·have hjs : j < g.N := by ((try clear hh_i4); omega)
      have hts2 := tb_step k (i := j) hc his hjs
      simp only [vsAll, okAll, stAll, opsA, opA, dstOk, nilSliceOp, Nat.reduceLT, Nat.reduceEqDiff, ↓reduceIte, reduceCtorEq, eq_self]
      refine callK_pure (ghas_tri i j _ (by ((try clear hh_i4); omega)) (by ((try clear hh_i4); omega))) ?_
      simp only [vsAll, unA, opA, guardV, dstOk, Nat.reduceLT, Nat.reduceEqDiff, ↓reduceIte, reduceCtorEq, implies_true, eq_self]
      refine gcall (boo (knB g c j)) (fun q => ⟨by simp only [vsAll, opA, Nat.reduceEqDiff, ↓reduceIte, eq_self, q], by simp only [vsAll, okAll, opsA, opA, ↓reduceIte, eq_self, q], knows1_tri g c j _ k hc hjs⟩) ?_
      simp only [vsAll, unA, pickA, opA, guardV, dstOk, Nat.reduceLT, Nat.reduceEqDiff, ↓reduceIte, implies_true, eq_self]
      refine condV (fun hc1 => ?_) (fun hc1 => ?_)
      ·have en : ¬ ((i.testBit j = true ∧ knB g c j = true) ∧ tabV g c (dif i (2 ^ j)) < 10000 ∧ stT g (g.crew c).lo (tabV g c (dif i (2 ^ j))) j ≤ (g.seam j).fl) := by
        rintro ⟨⟨q1, q2⟩, _⟩
        rw [q1, q2] at hc1
        simp at hc1
       rw [if_neg en] at hts2
       rw [← hts2]
       simp only [vsAll, binA, binLitA, intA, opA, dstOk, Nat.reduceLT, Nat.reduceEqDiff, ↓reduceIte, reduceCtorEq, eq_self]
       refine ⟨by simp only [InR_i64]; ((try clear hh_i4); omega), loop_next (j + 1) (by ((try clear hh_i4); omega)) (by ((try clear hh_i4); omega)) ?_ HSub_rfl⟩
       simp only [vsAll, Nat.reduceEqDiff, ↓reduceIte, reduceCtorEq, eq_self, Int.natCast_add, Int.natCast_one]
      ·have hb1 : i.testBit j = true := by
        revert hc1
        cases i.testBit j <;> simp
       have hb2 : knB g c j = true := by
        revert hc1
        cases i.testBit j <;> cases knB g c j <;> simp
       have hbg : 0 ≤ begV g j := by
        have := hb2
        unfold knB at this
        rw [Bool.and_eq_true, decide_eq_true_eq] at this
        exact this.2
       have hdi := dif_pop i hi5 j (by ((try clear hh_i4); omega)) hb1
       have hdl : dif i (2 ^ j) < 2 ^ g.N := dif_lt his
       have htl := tab_le k hc hdl
       have ep : (1 : Int) * 2 ^ j = ((2 ^ j : Nat) : Int) := by rw [Int.one_mul]; simp
       have hpj : 2 ^ j ≤ 2 ^ 5 := Nat.pow_le_pow_right (by ((try clear hh_i4); omega)) (by ((try clear hh_i4); omega))
       have eS : g.sm.getD j sm0 = g.seam j := rfl
       have hnx := next_tri g (dif i (2 ^ j)) (tabV g c (dif i (2 ^ j))) c j false
       rw [show spd (g.crew c) false = (g.crew c).lo from rfl] at hnx
       have eta := tF_at g c i (tbN g c i j) hdi.2
       have hnow := tF_now g c i (tbN g c i j)
       simp only [vsAll]
       refine vs_draw2 [0, 0, 0, 0, 0, 0, 0, 0, 0, 0, 0, 1, 3] [([0, 1, 2, 3, 4, 5, 6, 7, 8, 9, 10], [3, 7, 9], 11), ([], [], 12)] [] (by decide +kernel) ?_
       simp only [vsAll, binA, binLitA, intA, opA, dstOk, Nat.reduceLT, Nat.reduceEqDiff, ↓reduceIte, reduceCtorEq, eq_self, ep]
       generalize 2 ^ j = Q at hdi hdl htl hpj hnx eta hts2 ep ⊢
       refine ⟨⟨by ((try clear hh_i4); omega), by ((try clear hh_i4); omega), by simp only [InR_u64]; ((try clear hh_i4); omega)⟩, ?_⟩
       refine qcall _ ⟨trivial, by simp only [vsAll, okAll, opsA, opA, Nat.reduceEqDiff, ↓reduceIte, eq_self], without_tri i Q _ (by ((try clear hh_i4); omega)) (by ((try clear hh_i4); omega))⟩ ?_
       simp only [vsAll, binA, binLitA, intA, opA, dstOk, Nat.reduceLT, Nat.reduceEqDiff, ↓reduceIte, reduceCtorEq, eq_self, ep]
       refine ⟨⟨by ((try clear hh_i4); omega), by ((try clear hh_i4); omega), by simp only [InR_u64]; ((try clear hh_i4); omega)⟩, ?_⟩
       refine qcall _ ⟨trivial, by simp only [vsAll, okAll, opsA, opA, Nat.reduceEqDiff, ↓reduceIte, eq_self], without_tri i Q _ (by ((try clear hh_i4); omega)) (by ((try clear hh_i4); omega))⟩ ?_
       simp only [vsAll, loadA, loadRow, partA, partOk, indexAddrA, cellA, cellsA, fillA, okParts, ifaceA, okAll, stAll, opsA, partsA, partsOk, opA, allocA, newCells, okCells, storeObj, dstOk, Nat.reduceAdd, Nat.reduceLT, Nat.reduceLeDiff, Nat.reduceEqDiff, ↓reduceIte, reduceCtorEq, eq_self, wtAll, eta]
       refine ⟨⟨by ((try clear hh_i4); omega), by ((try clear hh_i4); omega)⟩, by ((try clear hh_i4); omega), ?_⟩
       intro i9 hh_i9; (try simp only [ite_none] at hh_i9)
       simp only [vsAll, Nat.reduceLT, ↓reduceIte, eq_self, hh_i9, eta]
       refine ⟨⟨rcall _ ⟨trivial, by simp only [vsAll, okAll, opsA, opA, Nat.reduceEqDiff, ↓reduceIte, eq_self], without_tri i Q _ (by ((try clear hh_i4 hh_i9); omega)) (by ((try clear hh_i4 hh_i9); omega))⟩ (by simp only [vsAll, Nat.reduceEqDiff, ↓reduceIte, eq_self]), rcall _ ⟨trivial, by simp only [vsAll, okAll, opsA, opA, Nat.reduceEqDiff, ↓reduceIte, eq_self], without_tri i Q _ (by ((try clear hh_i4 hh_i9); omega)) (by ((try clear hh_i4 hh_i9); omega))⟩ (by simp only [vsAll, Nat.reduceEqDiff, ↓reduceIte, eq_self]), by ((try clear hh_i4 hh_i9); omega)⟩, ?_⟩
       refine callK_pure (hnx _ k (by ((try clear hh_i4 hh_i9); omega)) (by ((try clear hh_i4 hh_i9); omega)) hc hjs hbg) ?_
       simp only [vsAll, cellA, opA, allocA, newCells, okCells, storeObj, dstOk, Nat.reduceAdd, Nat.reduceLT, Nat.reduceEqDiff, ↓reduceIte, eq_self, wtAll]
       intro i10 hh_i10; (try simp only [ite_none] at hh_i10)
       refine vs_draw2 [0, 0, 0, 0, 0, 0, 0, 0, 0, 0, 0, 0, 0, 0, 0, 0, 0] [] [0, 1, 2, 3, 4, 5, 6, 7, 8, 9, 10, 11, 12, 13, 14, 15, 16] (by decide +kernel) ?_
       simp only [vsAll, binA, binLitA, intA, loadA, loadRow, partA, partOk, fieldAddrA, indexAddrA, nilCheckA, pickA, opA, guardV, dstOk, Nat.reduceLT, Nat.reduceEqDiff, ↓reduceIte, reduceCtorEq, implies_true, eq_self, wtAll, hh_i10, smF_at, eS]
       refine ⟨fun q => ⟨q, q, by ((try clear hh_i4 hh_i9 hh_i10); omega), by ((try clear hh_i4 hh_i9 hh_i10); omega)⟩, fun q => ⟨q, by ((try clear hh_i4 hh_i9 hh_i10); omega)⟩, ?_⟩
       rw [Hp.set_set, Hp.set_set]
       refine condV (fun hc2 => ?_) (fun hc2 => ?_)
       ·rw [Bool.and_eq_true, decide_eq_true_eq, decide_eq_true_eq] at hc2
        rw [if_pos ⟨⟨hb1, hb2⟩, hc2⟩] at hts2
        refine vs_draw2 [0, 0, 0, 0, 0, 0, 0, 0, 1] [([0, 1, 2, 3, 4, 5, 6, 7], [], 8)] [] (by decide +kernel) ?_
        simp only [vsAll, binA, binLitA, intA, loadA, loadRow, partA, partOk, fieldAddrA, indexAddrA, cellA, cellsA, mmA, okAll, stAll, opsA, opA, newCells, okCells, storeObj, dstOk, Nat.reduceLT, Nat.reduceEqDiff, ↓reduceIte, reduceCtorEq, eq_self, wtAll, hh_i9, hh_i10, hnow]
        rw [tF_upd2, ← hts2]
        refine ⟨⟨by ((try clear hh_i4 hh_i9 hh_i10); omega), by ((try clear hh_i4 hh_i9 hh_i10); omega)⟩, by ((try clear hh_i4 hh_i9 hh_i10); omega), ⟨by ((try clear hh_i4 hh_i9 hh_i10); omega), by ((try clear hh_i4 hh_i9 hh_i10); omega)⟩, by ((try clear hh_i4 hh_i9 hh_i10); omega), by simp only [InR_i64]; ((try clear hh_i4 hh_i9 hh_i10); omega), loop_next (j + 1) (by ((try clear hh_i4 hh_i9 hh_i10); omega)) (by ((try clear hh_i4 hh_i9 hh_i10); omega)) ?_ (by (repeat (first | exact HSub_rfl | refine HSub_put_eq (by simp only [vsAll, ↓reduceIte, eq_self]) ?_ | refine HSub_drop2 (by simp only [eq_self, hh_i4, hh_i9, hh_i10]) ?_ | refine HSub_keep_eq (by simp only [vsAll, ↓reduceIte, eq_self, reduceCtorEq, Nat.reduceEqDiff, hh_i4, hh_i9, hh_i10]) ?_)))⟩
        simp only [vsAll, Nat.reduceEqDiff, ↓reduceIte, reduceCtorEq, eq_self, Int.natCast_add, Int.natCast_one]
       ·rw [if_neg (by
         rintro ⟨_, q1, q2⟩
         rw [decide_eq_true q1, decide_eq_true q2] at hc2
         cases hc2)] at hts2
        rw [← hts2]
        simp only [vsAll, binA, binLitA, intA, opA, dstOk, Nat.reduceLT, Nat.reduceEqDiff, ↓reduceIte, reduceCtorEq, eq_self]
        refine ⟨by simp only [InR_i64]; ((try clear hh_i4 hh_i9 hh_i10); omega), loop_next (j + 1) (by ((try clear hh_i4 hh_i9 hh_i10); omega)) (by ((try clear hh_i4 hh_i9 hh_i10); omega)) ?_ (by (repeat (first | exact HSub_rfl | refine HSub_put_eq (by simp only [vsAll, ↓reduceIte, eq_self, hh_i9, hh_i10]) ?_ | refine HSub_drop2 (by simp only [eq_self, hh_i4, hh_i9, hh_i10]) ?_ | refine HSub_keep_eq (by simp only [vsAll, ↓reduceIte, eq_self, reduceCtorEq, Nat.reduceEqDiff, hh_i4, hh_i9, hh_i10]) ?_)))⟩
        simp only [vsAll, Nat.reduceEqDiff, ↓reduceIte, reduceCtorEq, eq_self, Int.natCast_add, Int.natCast_one]
     ·have ej : j = g.N := by ((try clear hh_i4); omega)
      subst ej
      rw [tb_end hN his, tF_next]
      simp only [vsAll, binA, binLitA, intA, opA, dstOk, Nat.reduceLT, Nat.reduceEqDiff, ↓reduceIte, reduceCtorEq, eq_self]
      refine ⟨by simp only [InR_u64]; ((try clear hh_i4); omega), loop_next (i + 1) (by ((try clear hh_i4); omega)) (by ((try clear hh_i4); omega)) ?_ HSub_rfl⟩
      simp only [vsAll, Nat.reduceEqDiff, ↓reduceIte, reduceCtorEq, eq_self, Int.natCast_add, Int.natCast_one]
  ·have ei : i = 2 ^ g.N := by ((try clear hh_i4); omega)
   subst ei
   simp only [vsAll, loadA, loadRow, opA, storeObj, dstOk, resA, retA.eq_1, Nat.reduceMul, Nat.reduceLT, Nat.reduceEqDiff, ↓reduceIte, reduceCtorEq, eq_self, wtAll, Tryz.results58]
   exact ⟨fun q _ => tF_ok g c _ _ q, dropR_pure rfl (by (repeat (first | exact HSub_rfl | refine HSub_put_eq (by simp only [vsAll, ↓reduceIte, eq_self, reduceCtorEq, Nat.reduceEqDiff, hh_i4]) ?_ | refine HSub_drop2 (by simp only [eq_self, hh_i4]) ?_ | refine HSub_keep_eq (by simp only [vsAll, ↓reduceIte, eq_self, reduceCtorEq, Nat.reduceEqDiff, hh_i4]) ?_)))⟩
end Go.Proofs.YtdopkbldjagmlaaGreat
end
section
set_option linter.unusedVariables false
set_option linter.unusedSimpArgs false
set_option maxHeartbeats 4000000
set_option maxRecDepth 100000
namespace Go.Proofs.YtdopkbldjagmlaaGreat
open Go.V
abbrev onR (g : Gg) (c S i5 i6 : Nat) (yf : Fn) : AV := .func (.func 94) [] [.rptr 1 1 (fun _ => [u64 (S : Nat)]) 0 0, .rptr 1 1 (fun _ => [.func yf [] []]) 0 0, ggA g, .ref i5 0 1 0 0, bx c, .ref i6 0 1 0 0]
theorem cpRow (b : List Int) (z : Int) (i : Nat) (hi : i < b.length + 1) : appF b.length 1 (cpF 0 b.length (fun x => [AV.lit (Value.int IntKind.i64 0)]) 0 (intF b)) (fun i => [[AV.lit (Value.int IntKind.i64 z)]].getD i []) i = intF (b ++ [z]) i := by
 rw [appF_at (by omega)]
 simp only [intF, getD_snoc, cpF]
 by_cases e : i = b.length
 ·rw [if_neg (by omega), if_pos e, e, Nat.sub_self]; rfl
 ·rw [if_pos (by omega), if_neg e, if_pos (by omega)]; simp
theorem on_call {fv : AV} {b : List Int} {z : Int} {x : AV} {id1 : Nat} {X : Hp} {F : Nat → List AV} {R : Res → Hp → Prop} (hF : ∀ i, i < b.length + 1 → F i = intF (b ++ [z]) i) (h1 : X id1 = some (.row 1 (b.length + 1) F))
  (h : Tri Tryz.prog fv [intsAV (b ++ [z]), x] (X.del id1) R) :
  Tri Tryz.prog fv [.sl id1 1 (b.length + 1), x] X R := by
 refine tri_freezeD (args' := [intsAV (b ++ [z]), x]) h1 rfl (fun k hk => ?_) h
 match k, hk with
 | 0, _ =>
   have hl : (b ++ [z]).length = b.length + 1 := by simp
   show FrzD _ _ _ _ (AV.sl id1 1 (b.length + 1)) (AV.rsl (b ++ [z]).length 1 (intF (b ++ [z])))
   rw [hl]; exact .hit hF
 | 1, _ => exact .same _
theorem flat_nil {α : Type} {f : Nat → List α} {n : Nat} : (List.range n).flatMap f = [] ↔ ∀ j, j < n → f j = [] := by
 rw [List.flatMap_eq_nil_iff]
 exact ⟨fun h j hj => h j (List.mem_range.2 hj), fun h j hj => h j (List.mem_range.1 hj)⟩
theorem flat_head {α : Type} {f : Nat → List α} {i : Nat} {x : α} (h : ∀ j, j < i → f j = []) (hx : (f i).head? = some x) : ∀ n, i < n → ((List.range n).flatMap f).head? = some x
 | 0, hn => absurd hn (Nat.not_lt_zero i)
 | n + 1, hn => by
   rw [List.range_succ, List.flatMap_append]
   by_cases e : i = n
   ·subst e
    rw [flat_nil.2 h]
    simpa using hx
   ·rw [List.head?_append, flat_head h hx n (by omega)]
    rfl
theorem rowB_of {g : Gg} {S : Nat} (hS : S < 2 ^ g.N) {l : List Int} (h : RowOf S l) : rowB g l = true := by
 refine rowB_iff.2 ⟨fun i hi => ?_, fun i j hij hj => h.nd i j hij hj⟩
 obtain ⟨n, e, hn⟩ := h.at_ i hi
 have := bit_lt hS hn
 omega
theorem last_le {g : Gg} (k : OkG g) {c S : Nat} (hc : c < g.cw.length) (hS : S < 2 ^ g.N) {l : List Int} (h : RowOf S l) : 0 ≤ lastT g c l ∧ lastT g c l ≤ 400 := by
 have hr := rowB_of hS h
 have h1 := donN_le k (by have h := k.crew hc; unfold okC at h; omega) hr l.length (Nat.le_refl _) (sp := (g.crew c).lo)
 have h2 := row_len k hr
 unfold lastT
 omega
def onP (g : Gg) (c S n : Nat) (b : List Int) (H : Hp) (K : Hp → Prop) : Res → Hp → Prop := fun r H' => (rws g c S n b = [] ∧ r = .ret (boo true) ∧ H' = H) ∨ (rws g c S n b ≠ [] ∧ r = .ret (boo false) ∧ K H')
theorem rwOn_tri {g : Gg} (k : OkG g) {c S i5 i6 : Nat} (hc : c < g.cw.length) (hS : S < 2 ^ g.N) {yf : Fn} {H0 : Hp} {K : Hp → Prop} :
  ∀ (n : Nat) (b : List Int) (H : Hp), b.length + n = pop S → RowOf S b → rgtB g c b = true → H i5 = some (.box 1 1 fun _ => [knG g c]) → H i6 = some (.box 1 1 fun _ => [onR g c S i5 i6 yf]) → Go.V.HSub H H0 →
    (∀ l, (rws g c S n b).head? = some l → Tri Tryz.prog (.func yf [] []) [intsAV l, stA S (lastT g c l)] H0 fun r H' => r = .ret (boo false) ∧ K H') →
    Tri Tryz.prog (onR g c S i5 i6 yf) [intsAV b, stA (setL b) (lastT g c b)] H (onP g c S n b H K) := by
 have nS := k.nS
 have nC := k.nC
 have hN : g.N ≤ 5 := nS
 have hNe : g.N = g.sm.length := rfl
 have hS5 : S < 32 := lt32 hN hS
 intro n
 induction n with
 | zero =>
   intro b H hl hb hr h5 h6 hH hy
   have hf := (rowOf_full hS5 hb).2.2 (by omega)
   have e0 : rws g c S 0 b = [b] := rfl
   rw [e0] at hy
   have hy := hy b rfl
   refine Tri.drop ?_
   have e1 : dif S S = 0 := by
    refine Nat.eq_of_testBit_eq fun j => ?_
    rw [dif_bit, Nat.zero_testBit]
    cases S.testBit j <;> rfl
   refine tri_v0 (fun _ => false) Tryz.func94 (by kernel_rfl) rfl (by simp only [List.length_append, List.length_cons, List.length_nil, Tryz.ntmps94]; decide) ?_
   rw [hf]
   simp only [vsAll, binA, binLitA, intA, loadA, loadRow, partA, partOk, fieldAddrA, boxA, boxZ, okAll, stAll, opsA, opA, dstOk, nilSliceOp, argFr, Nat.reduceAdd, Nat.reduceLT, Nat.reduceEqDiff, ↓reduceIte, reduceCtorEq, eq_self, wtAll, Tryz.ntmps94]
   refine callK (Tri.less hH hy) ?_
   rintro r H' ⟨rfl, hk⟩
   simp only [vsAll, opA, dstOk, nilSliceOp, resA, retA.eq_1, Nat.reduceLT, ↓reduceIte, eq_self, Tryz.results94]
   exact ⟨H', HSub_rfl, .inr ⟨by rw [e0]; exact List.cons_ne_nil _ _, rfl, hk⟩⟩
 | succ n ih =>
   intro b H hl hb hr h5 h6 hH hy
   have hne : ¬ setL b = S := fun e => by
    have := (rowOf_full hS5 hb).2.1 e
    omega
   have hsb : setL b < 32 := setL_lt hS5 hb
   have dne : decide (((setL b : Nat) : Int) = ((S : Nat) : Int)) = false := decide_eq_false (by omega)
   have hlast := last_le k hc hS hb
   have hbl := row_len k (rowB_of hS hb)
   generalize hfl : (fun i : Nat => if goR g c S b i = true then rws g c S n (b ++ [(i : Int)]) else []) = fl
   have efl : rws g c S (n + 1) b = (List.range g.N).flatMap fl := by rw [← hfl]; rfl
   have hfi : ∀ i, fl i = if goR g c S b i = true then rws g c S n (b ++ [(i : Int)]) else [] := fun i => by rw [← hfl]
   rw [efl] at hy
   have eno : ∀ i, goR g c S b i = false → fl i = [] := fun i h => by rw [hfi, h]; rfl
   have hspl : spd (g.crew c) false = (g.crew c).lo := rfl
   have hst : ∀ i : Nat, i < g.N → lastT g c (b ++ [(i : Int)]) = stT g (g.crew c).lo (lastT g c b) i := fun i _ => by
    unfold lastT
    rw [List.length_append, List.length_cons, List.length_nil, donN_last, Int.toNat_natCast]
   have hse : ∀ i : Nat, setL (b ++ [(i : Int)]) = setL b ||| 2 ^ i := fun i => by rw [setL_snoc, Int.toNat_natCast]
   have hgo : ∀ i : Nat, goR g c S b i = ((dif S (setL b)).testBit i && (knB g c i && decide (lastT g c (b ++ [(i : Int)]) ≤ (g.seam i).fl))) := fun i => by
    rw [Bool.eq_iff_iff, goR_iff, rgt_snoc, dif_bit]
    have hbi : (setL b).testBit i = true ↔ (i : Int) ∈ b := rowOf_set hb
    have e2 : stT g (g.crew c).lo (donN g (g.crew c).lo b b.length) i = lastT g c (b ++ [(i : Int)]) := by
     unfold lastT
     rw [List.length_append, List.length_cons, List.length_nil, donN_last, Int.toNat_natCast]
    rw [Int.toNat_natCast, e2]
    simp only [Bool.and_eq_true, Bool.not_eq_true', decide_eq_true_eq]
    rw [← Bool.not_eq_true, hbi]
    constructor
    ·rintro ⟨a1, a2, _, a3, a4⟩; exact ⟨⟨a1, a2⟩, a3, a4⟩
    ·rintro ⟨⟨a1, a2⟩, a3, a4⟩; exact ⟨a1, a2, hr, a3, a4⟩
   refine Tri.drop ?_
   refine tri_v0 (mset [68]) Tryz.func94 (by kernel_rfl) rfl (by simp only [List.length_append, List.length_cons, List.length_nil, Tryz.ntmps94]; decide) ?_
   skip
   simp only [vsAll, binA, binLitA, intA, loadA, loadRow, partA, partOk, fieldAddrA, lenA, nilCheckA, boxA, boxZ, opA, dstOk, nilSliceOp, argFr, Nat.reduceAdd, Nat.reduceLT, Nat.reduceEqDiff, Nat.reduceBEq, ↓reduceIte, eq_self, wtAll, Tryz.ntmps94, dne]
   refine vs_loop (σ := Nat) (fun i => i ≤ g.N ∧ ∀ j, j < i → fl j = []) (fun i => [(0, intsAV b), (2, .rptr 1 1 (fun _ => [u64 (S : Nat)]) 0 0), (3, .rptr 1 1 (fun _ => [.func yf [] []]) 0 0), (4, ggA g), (5, .ref i5 0 1 0 0), (6, bx c), (7, .ref i6 0 1 0 0), (9, .rptr 1 2 (fun _ => stC (setL b) (lastT g c b)) 0 0), (27, i64 g.N), (28, i64 i)]) (fun _ => H) (fun i => g.N - i) 0 ⟨Nat.zero_le _, fun j hj => absurd hj (Nat.not_lt_zero j)⟩ ?_ HSub_rfl fun i hi => ?_
   ·simp only [vsAll, argFr, Nat.reduceEqDiff, ↓reduceIte, reduceCtorEq, eq_self, hNe, Int.natCast_zero]
   ·obtain ⟨hi, hall⟩ := hi
    simp only [vsAll, binA, binLitA, intA, opA, dstOk, Nat.reduceLT, Nat.reduceEqDiff, ↓reduceIte, reduceCtorEq, eq_self]
    refine condD (fun hd => ?_) (fun hd => ?_)
    ·have his : i < g.N := by ((try clear h5 h6); omega)
     have hdl : dif S (setL b) < 2 ^ 60 := Nat.lt_of_lt_of_le (dif_lt hS) (Nat.pow_le_pow_right (by decide) (by ((try clear h5 h6); omega)))
     have eng := eno i
     rw [hgo] at eng
     have hnxt : ∀ H, 0 ≤ begV g i → PTri Tryz.prog (fnA 89) [gP g, stA (setL b) (lastT g c b), i64 c, i64 i, slowA] H (stA (setL b ||| 2 ^ i) (lastT g c (b ++ [(i : Int)]))) := fun H hb => by
      rw [hst i his]
      exact next_tri g (setL b) (lastT g c b) c i false H k (by ((try clear h5 h6); omega)) (by ((try clear h5 h6); omega)) hc his hb
     simp only [vsAll, loadA, loadRow, partA, partOk, fieldAddrA, okAll, stAll, opsA, opA, dstOk, nilSliceOp, Nat.reduceLT, Nat.reduceEqDiff, Nat.reduceBEq, ↓reduceIte, reduceCtorEq, eq_self, wtAll]
     refine callK_pure (without_tri S (setL b) _ (by ((try clear h5 h6); omega)) (by ((try clear h5 h6); omega))) ?_
     simp only [vsAll, okAll, stAll, opsA, opA, dstOk, Nat.reduceLT, Nat.reduceEqDiff, ↓reduceIte, eq_self]
     refine callK_pure (ghas_tri _ i _ hdl (by ((try clear h5 h6); omega))) ?_
     simp only [vsAll, unA, loadA, loadRow, partA, partOk, opA, guardV, dstOk, Nat.reduceLT, Nat.reduceEqDiff, ↓reduceIte, reduceCtorEq, implies_true, eq_self, wtAll, h5]
     refine gcall (boo (knB g c i)) (fun g => ⟨by simp only [vsAll, opA, Nat.reduceEqDiff, ↓reduceIte, eq_self, g], by simp only [vsAll, okAll, opsA, opA, ↓reduceIte, eq_self, g], knows1_tri _ c i _ k hc his⟩) ?_
     simp only [vsAll, unA, pickA, opA, guardV, dstOk, Nat.reduceLT, Nat.reduceEqDiff, ↓reduceIte, implies_true, eq_self]
     refine condV (fun hc1 => ?_) (fun hc1 => ?_)
     ·have hf0 : fl i = [] := eng (by
       have : ((dif S (setL b)).testBit i && knB g c i) = false := by
        rw [Bool.and_eq_false_iff]
        revert hc1
        cases (dif S (setL b)).testBit i <;> cases knB g c i <;> simp
       rw [← Bool.and_assoc, this, Bool.false_and])
      simp only [vsAll, binA, binLitA, intA, opA, dstOk, Nat.reduceLT, Nat.reduceEqDiff, ↓reduceIte, reduceCtorEq, eq_self]
      refine ⟨by simp only [InR_i64]; ((try clear h5 h6); omega), loop_next (i + 1) ⟨by ((try clear h5 h6); omega), fun j hj => ?_⟩ (by ((try clear h5 h6); omega)) ?_ HSub_rfl⟩
      ·by_cases e : j = i
       ·subst e; exact hf0
       ·exact hall j (by ((try clear h5 h6); omega))
      ·simp only [vsAll, Nat.reduceEqDiff, ↓reduceIte, reduceCtorEq, eq_self, Int.natCast_add, Int.natCast_one]
     ·have hb1 : (dif S (setL b)).testBit i = true := by
       revert hc1
       cases (dif S (setL b)).testBit i <;> simp
      have hb2 : knB g c i = true := by
       revert hc1
       cases (dif S (setL b)).testBit i <;> cases knB g c i <;> simp
      have hbg : 0 ≤ begV g i := by
       unfold knB at hb2
       rw [Bool.and_eq_true, decide_eq_true_eq] at hb2
       exact hb2.2
      have hgi := hgo i
      rw [hb1, hb2] at hgi eng
      simp only [Bool.true_and] at hgi eng
      have eS : g.sm.getD i sm0 = g.seam i := rfl
      simp only [vsAll, loadA, loadRow, partA, partOk, fillA, okParts, ifaceA, okAll, stAll, opsA, partsA, partsOk, opA, dstOk, Nat.reduceLT, Nat.reduceEqDiff, ↓reduceIte, reduceCtorEq, eq_self, wtAll]
      refine callK_pure (hnxt _ hbg) ?_
      simp only [vsAll, cellA, opA, allocA, newCells, okCells, storeObj, dstOk, Nat.reduceAdd, Nat.reduceLT, Nat.reduceEqDiff, ↓reduceIte, eq_self, wtAll]
      intro i12 hh_i12; (try simp only [Hp.set_none, ite_none] at hh_i12)
      have a1 := ne_some hh_i12 h5
      have a2 := ne_some hh_i12 h6
      skip
      refine vs_draw2 [0, 0, 0, 0, 0, 0, 0, 0, 0, 0, 0, 0] [] [0, 1, 2, 3, 4, 5, 6, 7, 8, 9, 10, 11] (by decide +kernel) ?_
      simp only [vsAll, binA, binLitA, intA, loadA, loadRow, partA, partOk, fieldAddrA, indexAddrA, nilCheckA, opA, dstOk, Nat.reduceLT, Nat.reduceEqDiff, ↓reduceIte, reduceCtorEq, eq_self, wtAll, smF_at, eS]
      refine ⟨⟨by ((try clear h5 h6 hh_i12 a1 a2); omega), by ((try clear h5 h6 hh_i12 a1 a2); omega)⟩, by ((try clear h5 h6 hh_i12 a1 a2); omega), ?_⟩
      rw [Hp.set_set]
      refine condV (fun hc2 => ?_) (fun hc2 => ?_)
      ·have hf0 : fl i = [] := eng (by rw [decide_eq_true_eq] at hc2; exact decide_eq_false (by ((try clear h5 h6 hh_i12 a1 a2); omega)))
       simp only [vsAll, binA, binLitA, intA, opA, dstOk, Nat.reduceLT, Nat.reduceEqDiff, ↓reduceIte, reduceCtorEq, eq_self]
       refine ⟨by simp only [InR_i64]; ((try clear h5 h6 hh_i12 a1 a2); omega), loop_next (i + 1) ⟨by ((try clear h5 h6 hh_i12 a1 a2); omega), fun j hj => ?_⟩ (by ((try clear h5 h6 hh_i12 a1 a2); omega)) ?_ ?_⟩
       ·by_cases e : j = i
        ·subst e; exact hf0
        ·exact hall j (by ((try clear h5 h6 hh_i12 a1 a2); omega))
       ·simp only [vsAll, Nat.reduceEqDiff, ↓reduceIte, reduceCtorEq, eq_self, Int.natCast_add, Int.natCast_one]
       ·(repeat (first | exact HSub_rfl | refine HSub_put_eq (by simp only [vsAll, ↓reduceIte, eq_self, reduceCtorEq, Nat.reduceEqDiff, h5, h6, hh_i12, a1, a2]) ?_ | refine HSub_drop2 (by simp only [eq_self, hh_i12]) ?_ | refine HSub_keep_eq (by simp only [vsAll, ↓reduceIte, eq_self, reduceCtorEq, Nat.reduceEqDiff, h5, h6, hh_i12, a1, a2]) ?_))
      ·have hg1 : goR g c S b i = true := by
        rw [hgi]
        rw [decide_eq_false_iff_not] at hc2
        exact decide_eq_true (by ((try clear h5 h6 hh_i12 a1 a2); omega))
       have hfc : fl i = rws g c S n (b ++ [(i : Int)]) := by rw [hfi, hg1]; rfl
       obtain ⟨q1, q2, q3⟩ := goR_iff.1 hg1
       have hro : RowOf S (b ++ [(i : Int)]) := rowOf_snoc.2 ⟨hb, q1, q2⟩
       simp only [vsAll, binA, binLitA, intA, lenA, makeSliceA, opA, copyA, dstOk, nilSliceOp, Nat.reduceLT, Nat.reduceEqDiff, Nat.reduceBEq, ↓reduceIte, reduceCtorEq, eq_self, wtAll]
       refine ⟨by simp only [InR_i64]; ((try clear h5 h6 hh_i12 a1 a2); omega), by ((try clear h5 h6 hh_i12 a1 a2); omega), by ((try clear h5 h6 hh_i12 a1 a2); omega), by ((try clear h5 h6 hh_i12 a1 a2); omega), by ((try clear h5 h6 hh_i12 a1 a2); omega), ?_⟩
       intro i13 hh_i13; (try simp only [ite_none] at hh_i13)
       have a3 := ne_some hh_i13.2 h5
       have a4 := ne_some hh_i13.2 h6
       skip
       refine ⟨fun q hq => by simp only [vsAll, cellA, okCells, eq_self, intF_at], ?_⟩
       refine vs_draw2 [0, 0, 0, 0, 1, 0, 3, 4] [([0, 1, 2, 3, 5], [0, 5], 4), ([], [], 6)] [7] (by decide +kernel) ?_
       simp only [vsAll, loadA, loadRow, partA, partOk, cellA, cellsA, okParts, buildSliceA, partIdx, elemsA, lensA, okAll, stAll, opsA, partsA, partsOk, opA, appendA, dstOk, Nat.reduceMul, Nat.reduceLT, Nat.reduceLeDiff, Nat.reduceEqDiff, ↓reduceIte, reduceCtorEq, eq_self, wtAll, h6, a2, hh_i13, a4, Nat.min_self]
       refine ⟨fun q hq => by (have : q = 0 := by ((try clear h5 h6 hh_i12 a1 a2 hh_i13 a3 a4); omega)); subst this; simp only [vsAll, cellA, okCells, eq_self], by ((try clear h5 h6 hh_i12 a1 a2 hh_i13 a3 a4); omega), by ((try clear h5 h6 hh_i12 a1 a2 hh_i13 a3 a4); omega), ?_⟩
       rw [← hse, Hp.set_set, Hp.set_set]
       refine callK (on_call (b := b) (z := (i : Int)) (cpRow b i) (Hp.set_same _ _ _) (ih (b ++ [(i : Int)]) _ (by rw [List.length_append, List.length_cons, List.length_nil]; ((try clear h5 h6 hh_i12 a1 a2 hh_i13 a3 a4); omega)) hro q3 (by simp only [vsAll, ↓reduceIte, eq_self, h5, a1, a3, Hp.del_get]) (by simp only [vsAll, ↓reduceIte, eq_self, h6, a2, a4, Hp.del_get]) ?_ ?_)) ?_
       ·exact Go.V.HSub.trans (HSub_del hh_i13.2 (by (repeat (first | exact HSub_rfl | refine HSub_put_eq (by simp only [vsAll, ↓reduceIte, eq_self, reduceCtorEq, Nat.reduceEqDiff, h5, h6, hh_i12, a1, a2, hh_i13, a3, a4]) ?_ | refine HSub_drop2 (by simp only [eq_self, hh_i12, hh_i13]) ?_ | refine HSub_keep_eq (by simp only [vsAll, ↓reduceIte, eq_self, reduceCtorEq, Nat.reduceEqDiff, h5, h6, hh_i12, a1, a2, hh_i13, a3, a4]) ?_)))) hH
       ·intro l hl2
        rw [← hfc] at hl2
        exact hy l (flat_head hall hl2 g.N his)
       rintro r H' (⟨hnil, rfl, rfl⟩ | ⟨hnn, rfl, hk⟩)
       ·simp only [vsAll, binA, binLitA, intA, unA, opA, dstOk, Nat.reduceLT, Nat.reduceEqDiff, ↓reduceIte, reduceCtorEq, eq_self]
        refine ⟨by simp only [InR_i64]; ((try clear h5 h6 hh_i12 a1 a2 hh_i13 a3 a4); omega), loop_next (i + 1) ⟨by ((try clear h5 h6 hh_i12 a1 a2 hh_i13 a3 a4); omega), fun j hj => ?_⟩ (by ((try clear h5 h6 hh_i12 a1 a2 hh_i13 a3 a4); omega)) ?_ ?_⟩
        ·by_cases e : j = i
         ·subst e; rw [hfc]; exact hnil
         ·exact hall j (by ((try clear h5 h6 hh_i12 a1 a2 hh_i13 a3 a4); omega))
        ·simp only [vsAll, Nat.reduceEqDiff, ↓reduceIte, reduceCtorEq, eq_self, Int.natCast_add, Int.natCast_one]
        ·exact HSub_del hh_i13.2 (by (repeat (first | exact HSub_rfl | refine HSub_put_eq (by simp only [vsAll, ↓reduceIte, eq_self, reduceCtorEq, Nat.reduceEqDiff, h5, h6, hh_i12, a1, a2, hh_i13, a3, a4]) ?_ | refine HSub_drop2 (by simp only [eq_self, hh_i12, hh_i13]) ?_ | refine HSub_keep_eq (by simp only [vsAll, ↓reduceIte, eq_self, reduceCtorEq, Nat.reduceEqDiff, h5, h6, hh_i12, a1, a2, hh_i13, a3, a4]) ?_)))
       ·simp only [vsAll, unA, opA, dstOk, nilSliceOp, resA, retA.eq_1, Nat.reduceLT, Nat.reduceBEq, ↓reduceIte, eq_self, Tryz.results94]
        refine ⟨H', HSub_rfl, .inr ⟨fun e => hnn ?_, rfl, hk⟩⟩
        rw [efl, flat_nil] at e
        rw [← hfc]
        exact e i his
    ·simp only [vsAll, opA, dstOk, nilSliceOp, resA, retA.eq_1, Nat.reduceLT, Nat.reduceBEq, ↓reduceIte, eq_self, Tryz.results94]
     have ei : i = g.N := by ((try clear h5 h6); omega)
     subst ei
     exact ⟨H, HSub_rfl, .inl ⟨by rw [efl]; exact flat_nil.2 hall, rfl, rfl⟩⟩
end Go.Proofs.YtdopkbldjagmlaaGreat
end
section
set_option linter.unusedVariables false
set_option linter.unusedSimpArgs false
namespace Go.V
set_option linter.unusedSectionVars false
variable [Inhabited GivT]
section
variable {P : Program} {m : Option Tmp → Bool} {n : Nat} {k : List It} {s : Fr} {ds : List AD} {H : Hp} {Q : Post}
theorem vs_rangeO {g : Operand} {ps : Array Tmp} {assign body : Code} {f : FuncId} {fn : Func} {c : Code} {caps : List AV} (o : Option (List AV))
  (hf : P.funcs[f]? = some fn) (hname : (fn.name == "runtime.NumGoroutine") = false) (hb : fn.body = some c)
  (hg : (opA s g).ok) (hgv : (opA s g).st = .func (.func f) [] caps) (hps : ∀ t ∈ ps.toList, t < n) (hpl : ∀ x, o = some x → x.length = ps.size)
  (hit : ∀ yf (H : Hp) (K : Hp → Prop), (o = none → K H) → (∀ x, o = some x → Tri P (.func yf [] []) x H fun r H' => r = .ret (.lit (.bool false)) ∧ K H') → Tri P (.func (.func f) [] caps) [.func yf [] []] H fun r H' => (∃ v, r = .ret v) ∧ K H')
  (round : ∀ x, o = some x → ∀ lid did l (lo : LoopState → Option Code → Obj), H lid = none → H did = none → lid ≠ did →
   VS (some l) P m n [.code assign] (putAll s ps.toList x) [] ((H.set did (.raw (.deferred (some [])))).set lid (lo .ready none)) (AsgS P m n l body k Q (fun _ => False) s ds lid did lo))
  (fin : o = none → ∀ lid did (lo : LoopState → Option Code → Obj), H lid = none → H did = none → lid ≠ did →
   VS none P m n k s (.mark did :: ds) ((H.set did (.raw (.deferred (some [])))).set lid (lo .exhausted none)) Q) :
  VS none P m n (.code (.rangeFunc g ps assign body) :: k) s ds H Q := by
 show WPS none P n (.rangeFunc g ps assign body) s ds H (TK none P m n k Q)
 refine wps_range hg hgv hf hname hb fun lid did l h1 h2 h3 => ?_
 let lo : LoopState → Option Code → Obj := fun st pd => .loop l n s ps assign body st pd did
 let K : Hp → Prop := fun H' => ∃ st pend, H' lid = some (lo st pend) ∧ st ≠ .busy ∧ jumpQ pend fun x => VX none P m n k x s (.mark did :: ds) (H'.set lid (lo .exhausted pend)) Q
 refine ⟨_, hit (.yield l) _ K (fun ho => ⟨.ready, none, Hp.set_same _ _ _, by simp, ?_⟩) (fun x hx => ?_), ?_⟩
 ·simp only [jumpQ, Hp.set_set]
  exact fin ho lid did lo h1 h2 h3
 ·refine Tri.drop ?_
  refine tri_yield (lid := lid) (n := n) (s := s) (ps := ps) (assign := assign) (body := body) (did := did) (Hp.set_same _ _ _) (hpl x hx) hps ?_
  refine (vcC_sound assign (round x hx lid did l lo h1 h2 h3)).mono ?_
  intro x1 s1 ds1 H1 hq
  cases x1 with
  | normal =>
    obtain ⟨q1, q2⟩ := hq
    refine ⟨rfl, q1, (vcC_sound body q2).mono ?_⟩
    intro x2 s2 ds2 H2 hq2
    cases x2 with
    | normal =>
      obtain ⟨_, nx, hF, _⟩ := hq2
      exact hF.elim
    | ret => obtain ⟨⟨st, pd, ho⟩, hv⟩ := hq2; exact ⟨st, pd, ho, _, HSub.refl _, ⟨rfl, .done, some .ret, Hp.set_same _ _ _, by simp, by rw [Hp.set_set]; exact hv⟩⟩
    | exit j => obtain ⟨⟨st, pd, ho⟩, hv⟩ := hq2; exact ⟨st, pd, ho, _, HSub.refl _, ⟨rfl, .done, some (.exit j), Hp.set_same _ _ _, by simp, by rw [Hp.set_set]; exact hv⟩⟩
    | pan v => exact hq2.elim
  | _ => exact hq.elim
 ·rintro r H' ⟨⟨v, rfl⟩, st, pend, ho, hst, hj⟩
  exact ⟨st, pend, ho, hst, hj⟩
end
/-- A result of which less is said. -/
theorem Tri.resLe {P : Program} {fv : AV} {args : List AV} {H : Hp} {R1 R : Res → Hp → Prop} (h : Tri P fv args H R1)
  (hR : ∀ r H', R1 r H' → R r H' ∨ ∃ v v', r = .ret v ∧ AV.Le v v' ∧ R (.ret v') H') : Tri P fv args H R := by
 intro S vf vs hH hvf ha
 obtain ⟨nx, h1, h2⟩ := h S vf vs hH hvf ha
 have ho : ∀ e w, Out S R1 e w → Out S R e w := by
  rintro e w ⟨S', r, H', hw, hle, hH', hres, hr⟩
  rcases hR r H' hr with hr | ⟨v, v', rfl, hl, hr⟩
  ·exact ⟨S', r, H', hw, hle, hH', hres, hr⟩
  ·cases e with
   | returned cv => exact ⟨S', .ret v', H', hw, hle, hH', hl _ _ hres, hr⟩
   | _ => exact hres.elim
 refine ⟨nx, h1, ?_⟩
 cases nx <;> simp only [NextOk] at h2 ⊢
 ·exact Calls.mono h2 ho
 ·exact h2.mono ho
theorem AV.Le.tupleD {cs ds : List AV} (hl : ds.length = cs.length) (h : ∀ j, j < cs.length → AV.Le (cs.getD j .any) (ds.getD j .any)) : AV.Le (.tuple cs) (.tuple ds) := by
 intro S v hv
 cases hv with
 | tuple hn hh => exact .tuple (hn.trans hl.symm) fun k hk => h k (by omega) _ _ (hh k (by omega))
end Go.V
end
section
set_option linter.unusedVariables false
set_option linter.unusedSimpArgs false
set_option maxHeartbeats 4000000
set_option maxRecDepth 100000
namespace Go.Proofs.YtdopkbldjagmlaaGreat
open Go.V
theorem azT172q : azT Tryz.prog 141 = some (1, 1, [.nilFunc]) := by kernel_rfl
abbrev rwF (g : Gg) (c S : Nat) : AV := .func (.func 93) [] [ggA g, bx c, .rptr 1 1 (fun _ => [u64 (S : Nat)]) 0 0]
theorem rows_tri (g : Gg) (c S : Nat) (H : Hp) : PTri Tryz.prog (fnA 54) [gP g, i64 c, u64 (S : Nat)] H (rwF g c S) := by
 refine tri_v0 (fun _ => false) Tryz.func54 (by kernel_rfl) rfl (by simp only [List.length_append, List.length_cons, List.length_nil, Tryz.ntmps54]; decide) ?_
 simp only [vsAll, boxA, boxZ, cellA, okAll, stAll, opsA, opA, dstOk, nilSliceOp, resA, argFr, retA.eq_1, Nat.reduceLT, Nat.reduceEqDiff, ↓reduceIte, eq_self, wtAll, Tryz.ntmps54, Tryz.results54]
theorem rows1_tri {g : Gg} (k : OkG g) {c S : Nat} (hc : c < g.cw.length) (hS : S < 2 ^ g.N) (yf : Fn) (H : Hp) (K : Hp → Prop) (h0 : rowsL g c S = [] → K H)
  (h1 : ∀ l, (rowsL g c S).head? = some l → Tri Tryz.prog (.func yf [] []) [intsAV l, stA S (lastT g c l)] H fun r H' => r = .ret (boo false) ∧ K H') :
  Tri Tryz.prog (rwF g c S) [.func yf [] []] H fun r H' => (∃ v, r = .ret v) ∧ K H' := by
 refine Tri.drop ?_
 refine tri_v0 (fun _ => false) Tryz.func93 (by kernel_rfl) rfl (by simp only [List.length_append, List.length_cons, List.length_nil, Tryz.ntmps93]; decide) ?_
 simp only [vsAll, loadA, loadRow, partA, partOk, boxA, boxZ, cellA, okAll, stAll, opsA, opA, dstOk, argFr, Nat.reduceLT, Nat.reduceEqDiff, ↓reduceIte, eq_self, wtAll, Tryz.ntmps93]
 refine callK_pure (knows_tri g c _ k hc) ?_
 simp only [vsAll, loadA, loadRow, partA, partOk, cellA, cellsA, fillA, okParts, okAll, stAll, opsA, partsA, partsOk, opA, allocA, newCells, okCells, storeObj, dstOk, argFr, Nat.reduceLT, Nat.reduceEqDiff, ↓reduceIte, eq_self, wtAll, azT86q, azT172q]
 intro i5 hh_i5; (try simp only [Hp.set_none, ite_none] at hh_i5)
 intro i6 hh_i6; (try simp only [ite_none] at hh_i6)
 rw [Hp.set_set, Hp.set_set]
 have hh := rwOn_tri k (i5 := i5) (i6 := i6) (S := S) hc hS (yf := yf) (H0 := H) (K := K) (pop S) [] ((H.set i5 (.box 1 1 fun _ => [knG g c])).set i6 (.box 1 1 fun _ => [onR g c S i5 i6 yf])) (by simp) (rowOf_nil S) (rgt_nil g c) (by simp only [vsAll, ↓reduceIte, eq_self, hh_i6]) (by simp only [vsAll, ↓reduceIte, eq_self]) (by (repeat (first | exact HSub_rfl | refine HSub_put_eq (by simp only [vsAll, ↓reduceIte, eq_self, reduceCtorEq, Nat.reduceEqDiff, hh_i5, hh_i6]) ?_ | refine HSub_drop2 (by simp only [eq_self, hh_i5, hh_i6]) ?_ | refine HSub_keep_eq (by simp only [vsAll, ↓reduceIte, eq_self, reduceCtorEq, Nat.reduceEqDiff, hh_i5, hh_i6]) ?_))) h1
 refine callK (Tri.args hh rfl fun q hq => ?_) ?_
 ·match q, hq with
  | 0, _ => exact AV.Le.nil _ _
  | 1, _ => exact AV.Le.refl _
 rintro r H' (⟨hn, rfl, rfl⟩ | ⟨hn, rfl, hk⟩)
 ·simp only [vsAll, resA, retA.eq_2, eq_self, Tryz.results93]
  exact ⟨H, by (repeat (first | exact HSub_rfl | refine HSub_put_eq (by simp only [vsAll, ↓reduceIte, eq_self, reduceCtorEq, Nat.reduceEqDiff, hh_i5, hh_i6]) ?_ | refine HSub_drop2 (by simp only [eq_self, hh_i5, hh_i6]) ?_ | refine HSub_keep_eq (by simp only [vsAll, ↓reduceIte, eq_self, reduceCtorEq, Nat.reduceEqDiff, hh_i5, hh_i6]) ?_)), ⟨_, rfl⟩, h0 hn⟩
 ·simp only [vsAll, resA, retA.eq_2, eq_self, Tryz.results93]
  exact ⟨H', HSub_rfl, ⟨_, rfl⟩, hk⟩
end Go.Proofs.YtdopkbldjagmlaaGreat
end
section
set_option linter.unusedVariables false
set_option linter.unusedSimpArgs false
set_option maxHeartbeats 4000000
set_option maxRecDepth 100000
namespace Go.Proofs.YtdopkbldjagmlaaGreat
open Go.V
/-- What is told of a row of some seams. -/
def canE (g : Gg) (c n : Int) : Int := if errG g (vCan g c n) = 0 then if rowsL g c.toNat n.toNat = [] then 4 else 0 else errG g (vCan g c n)
def canV (g : Gg) (c n : Int) : List Int := if canE g c n = 0 then ((rowsL g c.toNat n.toNat).head?).getD [] else []
def canA (g : Gg) (c n : Int) : AV := if canE g c n = 0 then intsAV (canV g c n) else .lit (.slice none 0 0)
def canP (g : Gg) (c : Nat) (S : Nat) : Option (List AV) := ((rowsL g c S).head?).map fun l => [intsAV l, stA S (lastT g c l)]
theorem wcanA_tri (g : Gg) (c n : Int) (H : Hp) (kn : NearG g) : PTri Tryz.prog (fnA 16) [g.av, i64 c, i64 n] H (.tuple [canA g c n, i64 (canE g c n)]) := by
 refine Tri.drop ?_
 refine tri_am (m := fun _ => false) gans Tryz.func16 (by kernel_rfl) rfl (by simp only [List.length_append, List.length_cons, List.length_nil, Tryz.ntmps16]; decide) ?_
 simp only [vsAll, loadA, loadRow, partA, partOk, boxA, boxZ, cellA, okAll, stAll, opsA, opA, allocA, dstOk, argFr, Nat.reduceAdd, Nat.reduceLT, Nat.reduceEqDiff, ↓reduceIte, eq_self, wtAll, Tryz.ntmps16]
 intro i6 hh_i6; (try simp only [Hp.set_none, ite_none] at hh_i6); intro i7 hh_i7; (try simp only [ite_none] at hh_i7)
 refine gopen_call (openG_tri g _ (vCan g c n) _ kn trivial rfl (fun k H' id ho => can1_tri g c n id H' k ho)) (fun he => ?_) (fun k hv => ?_)
 ·have e : canE g c n = errG g (vCan g c n) := if_neg he
  have e2 : canA g c n = .lit (.slice none 0 0) := if_neg (by rw [e]; exact he)
  simp only [vsAll, loadA, loadRow, partA, partOk, resA, retA.eq_2, Nat.reduceEqDiff, ↓reduceIte, eq_self, wtAll, Tryz.results16, hh_i7]
  refine ⟨errG g (vCan g c n), i7, _, rfl, rfl, by simp only [↓reduceIte, eq_self]; try rfl, ?_⟩
  simp only [vsAll, Nat.reduceLT, ↓reduceIte, eq_self, hh_i7]
  refine dropR_pure ?_ (by (repeat (first | exact HSub_rfl | refine HSub_put_eq (by simp only [vsAll, ↓reduceIte, eq_self, reduceCtorEq, Nat.reduceEqDiff, hh_i6, hh_i7]) ?_ | refine HSub_drop2 (by simp only [eq_self, hh_i6, hh_i7]) ?_ | refine HSub_keep_eq (by simp only [vsAll, ↓reduceIte, eq_self, reduceCtorEq, Nat.reduceEqDiff, hh_i6, hh_i7]) ?_)))
  simp only [eq_self, e, e2]
  try rfl
 ·have he : errG g (vCan g c n) = 0 := by rw [hv]; exact errG_ok k
  have hv0 := hv
  unfold vCan isSet at hv
  simp only [Bool.and_eq_true, decide_eq_true_eq] at hv
  obtain ⟨hv1, hn0, hn1⟩ := hv
  rw [isCw_iff] at hv1
  obtain ⟨hc1, hc2⟩ := hv1
  obtain ⟨c, rfl⟩ : ∃ q : Nat, c = (q : Int) := ⟨c.toNat, by ((try clear hh_i6 hh_i7); omega)⟩
  obtain ⟨S, rfl⟩ : ∃ q : Nat, n = (q : Int) := ⟨n.toNat, by ((try clear hh_i6 hh_i7); omega)⟩
  have hc : c < g.cw.length := by ((try clear hh_i6 hh_i7); omega)
  have hS : S < 2 ^ g.N := by
   have := Nat.two_pow_pos g.N
   ((try clear hh_i6 hh_i7); omega)
  have hS5 : S < 32 := lt32 k.nS hS
  simp only [vsAll, loadA, loadRow, partA, partOk, convA, okAll, stAll, opsA, opA, dstOk, nilSliceOp, Nat.reduceLT, Nat.reduceEqDiff, ↓reduceIte, eq_self, wtAll]
  refine ⟨by simp only [InR_u64]; ((try clear hh_i6 hh_i7); omega), ?_⟩
  refine callK_pure (rows_tri g c S _) ?_
  simp only [vsAll]
  have ec : canE g (c : Int) (S : Int) = if rowsL g c S = [] then 4 else 0 := by
   unfold canE
   rw [if_pos he, Int.toNat_natCast, Int.toNat_natCast]
  refine vs_rangeO (canP g c S) Tryz.func93 (by kernel_rfl) rfl (by simp only [vsAll, opA, ↓reduceIte, eq_self]) (by simp only [vsAll, opA, ↓reduceIte, eq_self]) (by decide) (fun x hx => by
   unfold canP at hx
   rw [Option.map_eq_some_iff] at hx
   obtain ⟨l, _, rfl⟩ := hx
   rfl) (fun yf H K h0 h1 => rows1_tri k hc hS yf H K (fun hn => h0 (by unfold canP; rw [hn]; rfl)) fun l hl => h1 _ (by unfold canP; rw [hl]; rfl)) ?_ ?_
  ·intro x hx lid did l' lo h1 h2 h3
   unfold canP at hx
   rw [Option.map_eq_some_iff] at hx
   obtain ⟨l, hl, rfl⟩ := hx
   have hne : ¬ rowsL g c S = [] := fun e => by rw [e] at hl; cases hl
   rw [if_neg hne] at ec
   have ev : canA g (c : Int) (S : Int) = intsAV l := by
    unfold canA canV
    rw [if_pos ec, if_pos ec, Int.toNat_natCast, Int.toNat_natCast, hl]; rfl
   simp only [Hp.set_none] at h1 h2
   have h4 : ¬ did = lid := fun e => h3 e.symm
   skip
   simp only [vsAll, loadA, loadRow, partA, partOk, cellA, cellsA, opA, newCells, okCells, storeObj, dstOk, quietOk, nilSliceOp, resA, retA.eq_2, Nat.reduceLT, Nat.reduceEqDiff, ↓reduceIte, eq_self, wtAll, Tryz.results16, hh_i7, h1, h2, h4]
   refine ⟨⟨_, _, rfl⟩, i7, _, rfl, by simp only [↓reduceIte, eq_self, h1, h2]; try rfl, dropR_pure (by rw [ec, ev]) (by (repeat (first | exact HSub_rfl | refine HSub_put_eq (by simp only [vsAll, ↓reduceIte, eq_self, reduceCtorEq, Nat.reduceEqDiff, hh_i6, hh_i7, h1, h2, h3, h4]) ?_ | refine HSub_drop2 (by simp only [eq_self, hh_i6, hh_i7, h1, h2]) ?_ | refine HSub_keep_eq (by simp only [vsAll, ↓reduceIte, eq_self, reduceCtorEq, Nat.reduceEqDiff, hh_i6, hh_i7, h1, h2, h3, h4]) ?_)))⟩
  ·intro hx lid did lo h1 h2 h3
   have hn : rowsL g c S = [] := by
    unfold canP at hx
    rw [Option.map_eq_none_iff, List.head?_eq_none_iff] at hx
    exact hx
   rw [if_pos hn] at ec
   have ev : canA g (c : Int) (S : Int) = .lit (.slice none 0 0) := if_neg (by rw [ec]; decide)
   simp only [Hp.set_none] at h1 h2
   have h4 : ¬ did = lid := fun e => h3 e.symm
   skip
   simp only [vsAll, loadA, loadRow, partA, partOk, cellA, cellsA, opA, newCells, okCells, storeObj, dstOk, resA, retA.eq_2, Nat.reduceLT, Nat.reduceEqDiff, ↓reduceIte, eq_self, wtAll, Tryz.results16, hh_i7, h1, h2, h4]
   refine ⟨i7, _, rfl, by simp only [↓reduceIte, eq_self, h2]; try rfl, dropR_pure (by rw [ec, ev]) (by (repeat (first | exact HSub_rfl | refine HSub_put_eq (by simp only [vsAll, ↓reduceIte, eq_self, reduceCtorEq, Nat.reduceEqDiff, hh_i6, hh_i7, h1, h2, h3, h4]) ?_ | refine HSub_drop2 (by simp only [eq_self, hh_i6, hh_i7, h1, h2]) ?_ | refine HSub_keep_eq (by simp only [vsAll, ↓reduceIte, eq_self, reduceCtorEq, Nat.reduceEqDiff, hh_i6, hh_i7, h1, h2, h3, h4]) ?_)))⟩
theorem wcan_tri (g : Gg) (c n : Int) (H : Hp) (kn : NearG g) : PTri Tryz.prog (fnA 16) [g.av, i64 c, i64 n] H (.tuple [intsAV (canV g c n), i64 (canE g c n)]) := by
 refine Tri.resLe (wcanA_tri g c n H kn) fun r H' h => .inr ⟨_, .tuple [intsAV (canV g c n), i64 (canE g c n)], h.1, AV.Le.tupleD rfl fun j hj => ?_, rfl, h.2⟩
 match j, hj with
 | 0, _ =>
   show AV.Le (canA g c n) (intsAV (canV g c n))
   unfold canA
   split
   ·exact AV.Le.refl _
   ·rename_i hn
    have : canV g c n = [] := if_neg hn
    rw [this]
    exact AV.Le.nil _ _
 | 1, _ => exact AV.Le.refl _
end Go.Proofs.YtdopkbldjagmlaaGreat
end
section
set_option linter.unusedVariables false
set_option linter.unusedSimpArgs false
set_option maxHeartbeats 4000000
set_option maxRecDepth 100000
namespace Go.Proofs.YtdopkbldjagmlaaGreat
open Go.V
def tabC (g : Gg) (c : Nat) : List AV := arrL (tabF g c) 32
theorem tabF_len (g : Gg) (c q : Nat) : (tabF g c q).length = 1 := rfl
theorem tabC_len (g : Gg) (c : Nat) : (tabC g c).length = 32 := (arrL_spec 32 fun i _ => tabF_len g c i).1
theorem tabC_at (g : Gg) (c : Nat) {q : Nat} (h : q < 32) : (tabC g c).getD q .any = i64 (if q < 2 ^ g.N then tabV g c q else 0) := by
 have := (arrL_spec 32 fun i _ => tabF_len g c i).2 q 0 h (by decide)
 rw [Nat.mul_one, Nat.add_zero] at this
 unfold tabC
 rw [this]
 show i64 _ = _
 by_cases e : q < 2 ^ g.N
 ·rw [if_pos e, if_pos e]
 ·rw [if_neg e, if_neg e]
  split <;> rfl
theorem okCells_app : ∀ {a b : List AV}, (okCells a = True) → (okCells b = True) → okCells (a ++ b) = True
 | [], b, _, h => h
 | x :: a, b, h1, h2 => by
   have h := of_eq_true h1
   exact eq_true ⟨h.1, of_eq_true (okCells_app (eq_true h.2) h2)⟩
theorem okCells_arr {f : Nat → List AV} (h : ∀ i, okCells (f i) = True) : ∀ n, okCells (arrL f n) = True
 | 0 => eq_true trivial
 | n + 1 => okCells_app (okCells_arr h n) (h n)
theorem tabC_ok (g : Gg) (c : Nat) : okCells (tabC g c) = True := by
 have h := okCells_arr (f := tabF g c) fun i => eq_true (tF_ok g c (2 ^ g.N) 0 i)
 unfold tabC
 generalize 32 = n
 exact h n
abbrev tbsF (g : Gg) : Nat → List AV := fun c => tabC g c
abbrev tbsA (g : Gg) : AV := .rsl g.cw.length 32 (tbsF g)
def fillR (g : Gg) (H : Hp) : Res → Hp → Prop := fun r H' => ∃ id, H id = none ∧ r = .ret (.sl id 32 g.cw.length) ∧ H' = H.set id (.row 32 g.cw.length (tbsF g))
theorem filled_tri (g : Gg) (H : Hp) (k : OkG g) : Tri Tryz.prog (fnA 98) [i64 g.cw.length, .agg [.func (.func 58) [gP g] []]] H (fillR g H) := by
 have nC := k.nC
 refine Tri.drop ?_
 refine tri_v0 (mset [4]) Tryz.func98 (by kernel_rfl) rfl (by simp only [List.length_append, List.length_cons, List.length_nil, Tryz.ntmps98]; decide) ?_
 simp only [vsAll, boxA, boxZ, opA, dstOk, argFr, Nat.reduceLT, Nat.reduceBEq, ↓reduceIte, reduceCtorEq, eq_self, wtAll, Tryz.ntmps98, Go.V.nilA]
 intro i4 hh_i4; (try simp only [Hp.set_none, ite_none] at hh_i4)
 refine vs_loop (σ := Nat) (fun i => i ≤ g.cw.length) (fun i => [(3, .rptr 1 1 (fun _ => [.func (.func 58) [gP g] []]) 0 0), (4, .sl i4 32 i), (6, i64 g.cw.length), (7, i64 i)]) (fun i => H.set i4 (.row 32 i (tbsF g))) (fun i => g.cw.length - i) 0 (Nat.zero_le _) ?_ ?_ fun i hi => ?_
 ·simp only [vsAll, Nat.reduceEqDiff, ↓reduceIte, eq_self, Int.natCast_zero]
 ·refine HSub_put (o' := .row 32 0 fun _ => []) (by simp only [vsAll, ↓reduceIte, eq_self]) (row0_le _ _ _) ?_
  (repeat (first | exact HSub_rfl | refine HSub_put_eq (by simp only [vsAll, ↓reduceIte, eq_self, reduceCtorEq, Nat.reduceEqDiff, hh_i4]) ?_ | refine HSub_drop2 (by simp only [eq_self, hh_i4]) ?_ | refine HSub_keep_eq (by simp only [vsAll, ↓reduceIte, eq_self, reduceCtorEq, Nat.reduceEqDiff, hh_i4]) ?_))
 ·simp only [vsAll, binA, binLitA, intA, opA, dstOk, Nat.reduceLT, Nat.reduceEqDiff, ↓reduceIte, eq_self]
  refine condD (fun hd => ?_) (fun hd => ?_)
  ·have his : i < g.cw.length := by ((try clear hh_i4); omega)
   simp only [vsAll, loadA, loadRow, partA, partOk, fieldAddrA, okAll, stAll, opsA, opA, dstOk, nilSliceOp, Nat.reduceLT, Nat.reduceEqDiff, Nat.reduceBEq, ↓reduceIte, eq_self, wtAll]
   refine callK_pure (tri_bound (table_tri g i _ k his)) ?_
   have e1 : arrL (tabF g i) 32 = tabC g i := by unfold tabC; exact Eq.refl _
   have e2 := tabC_len g i
   have e3 := tabC_ok g i
   simp only [vsAll, binA, binLitA, intA, cellsA, okParts, buildSliceA, partIdx, elemsA, lensA, partsA, partsOk, opA, appendA, dstOk, nilSliceOp, Nat.reduceMul, Nat.reduceLT, Nat.reduceLeDiff, Nat.reduceEqDiff, Nat.reduceBEq, ↓reduceIte, eq_self, wtAll, e1, e2]
   refine ⟨fun q hq => by (have : q = 0 := by ((try clear hh_i4); omega)); subst this; simp only [List.getD_cons_zero, e3], by ((try clear hh_i4); omega), by ((try clear hh_i4); omega), by simp only [InR_i64]; ((try clear hh_i4); omega), loop_next (i + 1) (by ((try clear hh_i4); omega)) (by ((try clear hh_i4); omega)) ?_ ?_⟩
   ·simp only [vsAll, Nat.reduceEqDiff, ↓reduceIte, eq_self, Int.natCast_add, Int.natCast_one]
   ·rw [Hp.set_set]
    refine HSub_put (o' := .row 32 (i + 1) (appF i 1 (tbsF g) fun q => [tabC g i].getD q [])) (by simp only [vsAll, ↓reduceIte, eq_self]) (row_ext fun q hq => ?_) ?_
    ·rw [appF_at (by ((try clear hh_i4); omega))]
     by_cases e : q < i
     ·rw [if_pos e]
     ·have : q = i := by ((try clear hh_i4); omega)
      subst this
      rw [if_neg e, Nat.sub_self]; rfl
    ·(repeat (first | exact HSub_rfl | refine HSub_put_eq (by simp only [vsAll, ↓reduceIte, eq_self, reduceCtorEq, Nat.reduceEqDiff, hh_i4]) ?_ | refine HSub_drop2 (by simp only [eq_self, hh_i4]) ?_ | refine HSub_keep_eq (by simp only [vsAll, ↓reduceIte, eq_self, reduceCtorEq, Nat.reduceEqDiff, hh_i4]) ?_))
  ·have ei : i = g.cw.length := by ((try clear hh_i4); omega)
   subst ei
   simp only [vsAll, opA, dstOk, nilSliceOp, resA, retA.eq_1, Nat.reduceLT, Nat.reduceEqDiff, Nat.reduceBEq, ↓reduceIte, eq_self, Tryz.results98]
   exact ⟨_, HSub_rfl, i4, hh_i4, rfl, rfl⟩
/-- The tables of all crews. -/
theorem tables_tri (g : Gg) (H : Hp) (k : OkG g) : PTri Tryz.prog (fnA 64) [gP g] H (tbsA g) := by
 refine Tri.thawX (R1 := fillR g H) ?_ fun r H' hr => ?_
 ·refine Tri.drop ?_
  refine tri_v0 (mset [2]) Tryz.func64 (by kernel_rfl) rfl (by simp only [List.length_append, List.length_cons, List.length_nil, Tryz.ntmps64]; decide) ?_
  simp only [vsAll, loadA, loadRow, partA, partOk, fieldAddrA, lenA, nilCheckA, cellA, cellsA, fillA, okParts, okAll, stAll, opsA, partsA, partsOk, opA, dstOk, argFr, Nat.reduceLT, Nat.reduceEqDiff, Nat.reduceBEq, ↓reduceIte, reduceCtorEq, eq_self, wtAll, Tryz.ntmps64, Go.V.nilA]
  intro i2 hh_i2; (try simp only [Hp.set_none, ite_none] at hh_i2)
  refine callK (filled_tri g _ k) ?_
  rintro r H' ⟨id, hid, rfl, rfl⟩
  simp only [Hp.set_none] at hid
  skip
  simp only [vsAll, opA, dstOk, nilSliceOp, resA, retA.eq_1, Nat.reduceLT, Nat.reduceBEq, ↓reduceIte, eq_self, Tryz.results64]
  exact ⟨H.set id (.row 32 g.cw.length (tbsF g)), by (repeat (first | exact HSub_rfl | refine HSub_put_eq (by simp only [vsAll, ↓reduceIte, eq_self]) ?_ | refine HSub_drop2 (by simp only [eq_self, hh_i2, hid]) ?_ | refine HSub_keep_eq (by simp only [vsAll, ↓reduceIte, eq_self, reduceCtorEq, Nat.reduceEqDiff, hh_i2, hid]) ?_)), id, hid.2, rfl, rfl⟩
 ·obtain ⟨id, hid, rfl, rfl⟩ := hr
  exact .inr ⟨_, tbsA g, id, 32, g.cw.length, tbsF g, rfl, .inr ⟨Hp.set_same _ _ _, .leaf ⟨rfl, tbsF g, fun _ _ => rfl, rfl⟩⟩, rfl, set_del hid⟩
end Go.Proofs.YtdopkbldjagmlaaGreat
end
section
set_option linter.unusedVariables false
set_option linter.unusedSimpArgs false
namespace Go.Proofs.YtdopkbldjagmlaaGreat
open Go.V
/-- An hour; never: 10000. -/
def dV (o : Option Int) : Int := o.getD 10000
def hrN (g : Gg) (f : Nat → Nat) : Nat → Int
 | 0 => 0
 | c + 1 => max (hrN g f c) (tabV g c (f c))
theorem dom_le {g : Gg} (k : OkG g) {f : Nat → Nat} {n : Nat} {m : Int} (hn : n ≤ g.cw.length) (hf : ∀ c, c < n → f c < 2 ^ g.N) (h : domN g f n = some m) : 0 ≤ m ∧ m ≤ 24 := by
 obtain ⟨h0, _, h1⟩ := domN_le n h
 rcases h1 with h1 | ⟨c, hc, h1⟩
 ·omega
 ·have := end_le k (by omega) (hf c hc) h1
  omega
theorem hr_dom {g : Gg} (k : OkG g) {f : Nat → Nat} : ∀ n, n ≤ g.cw.length → (∀ c, c < n → f c < 2 ^ g.N) → hrN g f n = dV (domN g f n)
 | 0, _, _ => rfl
 | n + 1, hn, hf => by
   have ih := hr_dom k n (by omega) fun c hc => hf c (by omega)
   have ht := tab_le k (c := n) (by omega) (hf n (by omega))
   simp only [hrN, domN, ih]
   cases h1 : domN g f n with
   | none =>
     show max (10000 : Int) _ = 10000
     omega
   | some a =>
     have := dom_le k (by omega) (fun c hc => hf c (by omega)) h1
     cases h2 : endO g n (f n) with
     | none =>
       have e : tabV g n (f n) = 10000 := by unfold tabV; rw [h2]; rfl
       rw [e]
       show max a 10000 = 10000
       omega
     | some b =>
       have e : tabV g n (f n) = b := by unfold tabV; rw [h2]; rfl
       rw [e]
       rfl
theorem crS_lt' {g : Gg} {l : List Int} (h : l.length ≤ g.N) (c : Nat) : crS l c < 2 ^ g.N := by
 have := crN_lt l c l.length
 exact Nat.lt_of_lt_of_le this (Nat.pow_le_pow_right (by decide) h)
theorem hr_domO {g : Gg} (k : OkG g) {l : List Int} (h : l.length ≤ g.N) : hrN g (crS l) g.cw.length = dV (domO g l) := hr_dom k _ (Nat.le_refl _) fun c _ => crS_lt' h c
theorem dO_le {g : Gg} (k : OkG g) {S C n : Nat} {b : List Int} (hb : b.length + n = g.N) {t : Int} (h : dO g S C n b = some t) : 0 ≤ t ∧ t ≤ 24 := by
 obtain ⟨l, h1, h2⟩ := (dO_min g S C n b).is t h
 obtain ⟨m, e, hm, _, hd⟩ := (mem_dls n b l).1 h1
 obtain ⟨x, hx⟩ := Option.isSome_iff_exists.1 hd
 have hl : l.length = g.N := by rw [e, List.length_append]; omega
 have := dom_le k (Nat.le_refl _) (fun c _ => crS_lt' (g := g) (Nat.le_of_eq hl) c) hx
 unfold domI at h2
 rw [hx] at h2
 simp only [Option.getD_some] at h2
 omega
theorem dV_le {g : Gg} (k : OkG g) {S C n : Nat} {b : List Int} (hb : b.length + n = g.N) : 0 ≤ dV (dO g S C n b) ∧ dV (dO g S C n b) ≤ 10000 ∧ (dV (dO g S C n b) < 10000 ↔ (dO g S C n b).isSome = true) := by
 cases h : dO g S C n b with
 | none => unfold dV; simp
 | some t =>
   have := dO_le k hb h
   show 0 ≤ t ∧ t ≤ 10000 ∧ (t < 10000 ↔ (some t).isSome = true)
   simp only [Option.isSome_some, iff_true]
   omega
theorem dP_le {g : Gg} {C : Nat} {f : Nat → Option Int} (hf : ∀ c t, f c = some t → 0 ≤ t ∧ t ≤ 24) : ∀ n t, dP g C f n = some t → 0 ≤ t ∧ t ≤ 24
 | 0, t, h => by cases h
 | n + 1, t, h => by
   simp only [dP] at h
   split at h
   ·cases h1 : dP g C f n with
    | none =>
      rw [h1] at h
      exact hf n t h
    | some a =>
      have ha := dP_le hf n a h1
      rw [h1] at h
      cases h2 : f n with
      | none => rw [h2] at h; simp only [comb, Option.some.injEq] at h; omega
      | some b =>
        have hb := hf n b h2
        rw [h2] at h
        simp only [comb, Option.some.injEq] at h
        omega
   ·exact dP_le hf n t h
theorem dP_step {g : Gg} {C : Nat} {f : Nat → Option Int} (hf : ∀ c t, f c = some t → 0 ≤ t ∧ t ≤ 24) (n : Nat) : dV (dP g C f (n + 1)) = if C.testBit n = true then min (dV (dP g C f n)) (dV (f n)) else dV (dP g C f n) := by
 simp only [dP]
 split
 ·cases h1 : dP g C f n with
  | none =>
    cases h2 : f n with
    | none => rfl
    | some b =>
      have := hf n b h2
      show b = min 10000 b
      omega
  | some a =>
    have ha := dP_le hf n a h1
    cases h2 : f n with
    | none => show a = min a 10000; omega
    | some b => rfl
 ·rfl
end Go.Proofs.YtdopkbldjagmlaaGreat
end
section
set_option linter.unusedVariables false
set_option linter.unusedSimpArgs false
set_option maxHeartbeats 1000000
set_option maxRecDepth 100000
namespace Go.Proofs.YtdopkbldjagmlaaGreat
open Go.V
theorem mapZ143q : mapZ Tryz.prog 143 = some (.int .i64 0) := by kernel_rfl
theorem und143q : Program.underlying Tryz.prog 143 = some (.map 146 3) := by kernel_rfl
theorem key146q : Maps.Keyed Tryz.prog 146 := Maps.Keyed.of_law (deep_law_laid (by kernel_rfl) (m := 10) (by decide) (by decide +kernel) (by kernel_rfl) (by kernel_rfl))
/-- A place, as a key. -/
abbrev pcV (s a b c : Int) : Value := .agg #[.int .i64 s, .int .u64 a, .int .u64 b, .int .u64 c]
abbrev pcU (b : List Int) : Value := pcV (b.length : Nat) (crS b 0 : Nat) (crS b 1 : Nat) (crS b 2 : Nat)
theorem pcK (s a b c : Int) (h0 : 0 ≤ s ∧ s ≤ 1000) (h1 : 0 ≤ a ∧ a ≤ 4096) (h2 : 0 ≤ b ∧ b ≤ 4096) (h3 : 0 ≤ c ∧ c ≤ 4096) : ∃ l, keyOf Tryz.prog 146 (pcV s a b c) = some l := by
 have hsz : Tryz.prog.types.size + 1 = (Tryz.prog.types.size - 2) + 3 := by
  have : 2 ≤ Tryz.prog.types.size := by decide +kernel
  omega
 have hsz2 : (Tryz.prog.fieldsOf 146).toList.length = 2 := by decide +kernel
 have hu : Program.underlying Tryz.prog 146 = some (.struct (Tryz.prog.fieldsOf 146)) := by kernel_rfl
 obtain ⟨f0, e0⟩ : ∃ f0, f0 = (Tryz.prog.fieldsOf 146).toList[0]'(by rw [hsz2]; decide) := ⟨_, rfl⟩
 obtain ⟨f1, e1⟩ : ∃ f1, f1 = (Tryz.prog.fieldsOf 146).toList[1]'(by rw [hsz2]; decide) := ⟨_, rfl⟩
 have hf : (Tryz.prog.fieldsOf 146).toList = [f0, f1] := by
  rw [e0, e1]
  generalize (Tryz.prog.fieldsOf 146).toList = L at hsz2 ⊢
  match L, hsz2 with
  | [x, y], _ => rfl
 have hn : f0.name ≠ "_" ∧ f1.name ≠ "_" := by
  have h : (Tryz.prog.fieldsOf 146).toList.map (fun f => decide (f.name ≠ "_")) = [true, true] := by decide +kernel
  rw [hf] at h
  simpa using h
 have t0 : f0.type = 3 := by rw [e0]; kernel_rfl
 have t1 : f1.type = 107 := by rw [e1]; kernel_rfl
 have o0 : f0.offset = 0 := by rw [e0]; kernel_rfl
 have o1 : f1.offset = 1 := by rw [e1]; kernel_rfl
 have k0 : Tryz.prog.keyLits (Tryz.prog.types.size - 2 + 2) f0.type [.int .i64 s] = some [.int .i64 s] := by
  rw [t0]; exact kl_int (by kernel_rfl) (wf_i64 (by simp only [InR_i64]; omega))
 have k1 : Tryz.prog.keyLits (Tryz.prog.types.size - 2 + 2) f1.type [.int .u64 a, .int .u64 b, .int .u64 c] = some [.int .u64 a, .int .u64 b, .int .u64 c] := by
  rw [t1]
  exact kl_arr3 (e := 80) (by kernel_rfl) (by kernel_rfl) (by kernel_rfl) (by kernel_rfl) (wf_u64 (by simp only [InR_u64]; omega)) (wf_u64 (by simp only [InR_u64]; omega)) (wf_u64 (by simp only [InR_u64]; omega))
 have hk := kl_two hu hf hn (r := [.int .u64 a, .int .u64 b, .int .u64 c]) (by kernel_rfl) ⟨o0, by rw [t0]; kernel_rfl⟩ ⟨o1, by rw [t1]; kernel_rfl⟩ k0 k1
 unfold keyOf
 rw [hu]
 have hg : (Tryz.prog.keyType 146 && (pcV s a b c).formed Tryz.prog 146) = true := by kernel_rfl
 simp only [hg, if_true, hsz, Value.cells, List.toList_toArray]
 rw [hk]
 exact ⟨_, rfl⟩
theorem crS32 {b : List Int} (h : b.length ≤ 5) (c : Nat) : crS b c < 32 := by
 have := crN_lt b c b.length
 exact Nat.lt_of_lt_of_le this (Nat.pow_le_pow_right (by decide) h)
theorem pcKU {b : List Int} (h : b.length ≤ 5) : ∃ l, keyOf Tryz.prog 146 (pcU b) = some l := by
 have h0 := crS32 h 0
 have h1 := crS32 h 1
 have h2 := crS32 h 2
 exact pcK _ _ _ _ (by omega) (by omega) (by omega) (by omega)
/-- What is kept of the hours. -/
def mmT (g : Gg) (S C : Nat) : Value → Value → Prop := fun k v => ∃ b : List Int, b.length ≤ g.N ∧ k = pcU b ∧ v = .int .i64 (dV (dO g S C (g.N - b.length) b))
theorem mmT_key {g : Gg} {S C : Nat} {k v : Value} (hN : g.N ≤ 5) (h : mmT g S C k v) : ∃ l, keyOf Tryz.prog 146 k = some l := by
 obtain ⟨b, hb, rfl, _⟩ := h
 exact pcKU (by omega)
def dlF (b : List Int) : Nat → List AV := fun i => [u64 (crS b i : Nat)]
theorem dlF_at (b : List Int) (i : Nat) : dlF b i = [u64 (crS b i : Nat)] := rfl
abbrev dlA (b : List Int) : AV := .arr 3 1 (dlF b)
abbrev deF (g : Gg) (S C i9 i10 : Nat) : AV := .func (.func 97) [] [ggA g, .rptr 1 1 (fun _ => [tbsA g]) 0 0, .rptr 1 1 (fun _ => [u64 (S : Nat)]) 0 0, .ref i10 0 1 0 0, .ref i9 0 1 0 0, .rptr 1 1 (fun _ => [u64 (C : Nat)]) 0 0]
theorem tab_drop (g : Gg) (c : Nat) {q : Nat} (h : q < 32) : List.take 1 (List.drop (q * 1) (tabC g c)) = [i64 (if q < 2 ^ g.N then tabV g c q else 0)] := by
 have hl := tabC_len g c
 have ha := tabC_at g c h
 rw [Nat.mul_one]
 rw [List.getD_eq_getElem?_getD, List.getElem?_eq_getElem (by omega), Option.getD_some] at ha
 rw [List.drop_eq_getElem_cons (by omega), ha]
 rfl
theorem de_tri {g : Gg} {S C i9 i10 im : Nat} (k : OkG g) (hS : S < 32) (hC : C < 32) :
  ∀ (n : Nat) (b : List Int) (H : Hp), b.length + n = g.N → H i9 = some (.box 1 1 fun _ => [.map im]) → H i10 = some (.box 1 1 fun _ => [deF g S C i9 i10]) → H im = some (.memo (mmT g S C)) →
    PTri Tryz.prog (deF g S C i9 i10) [i64 b.length, dlA b] H (i64 (dV (dO g S C n b))) := by
 have nS := k.nS
 have nC := k.nC
 have hN : g.N ≤ 5 := nS
 have hNe : g.N = g.sm.length := rfl
 intro n
 induction n with
 | zero =>
   intro b H hs h9 h10 hm
   have hb5 := fun c => crS32 (b := b) (by omega) c
   have hbN := fun c => crS_lt' (g := g) (l := b) (by omega) c
   have eh := hr_domO k (l := b) (by omega)
   rw [dO_zero, ← eh]
   have dt : decide ((b.length : Int) = (g.sm.length : Int)) = true := decide_eq_true (by omega)
   refine Tri.drop ?_
   refine tri_m (m := fun _ => false) Tryz.func97 (by kernel_rfl) rfl (by simp only [List.length_append, List.length_cons, List.length_nil, Tryz.ntmps97]; decide) ?_
   simp only [vsAll, binA, binLitA, intA, loadA, loadRow, partA, partOk, fieldAddrA, lenA, nilCheckA, boxA, boxZ, opA, dstOk, nilSliceOp, argFr, Nat.reduceLT, Nat.reduceEqDiff, ↓reduceIte, reduceCtorEq, eq_self, wtAll, Tryz.ntmps97, dt]
   refine vs_loop (σ := Nat) (fun i => i ≤ g.cw.length) (fun i => [(9, .rptr 3 1 (dlF b) 0 0), (11, i64 (hrN g (crS b) i)), (27, tbsA g), (28, i64 g.cw.length), (29, i64 i)]) (fun _ => H) (fun i => g.cw.length - i) 0 (Nat.zero_le _) ?_ HSub_rfl fun i hi => ?_
   ·simp only [vsAll, Nat.reduceEqDiff, ↓reduceIte, eq_self, Int.natCast_zero]
    exact AV.Le.refl _
   ·simp only [vsAll, binA, binLitA, intA, opA, dstOk, Nat.reduceLT, Nat.reduceEqDiff, ↓reduceIte, eq_self]
    refine condD (fun hd => ?_) (fun hd => ?_)
    ·have his : i < g.cw.length := by omega
     have htl := tab_le k his (hbN i)
     have h5 := hb5 i
     have etd : List.take 1 (List.drop (crS b i * 1) (tbsF g i)) = [i64 (tabV g i (crS b i))] := by rw [tab_drop g i (hb5 i), if_pos (hbN i)]
     simp only [vsAll, loadA, loadRow, partA, partOk, indexAddrA, cellA, cellsA, okParts, buildSliceA, partIdx, elemsA, lensA, okAll, stAll, opsA, partsA, partsOk, opA, allocA, storeObj, dstOk, nilSliceOp, Nat.reduceAdd, Nat.reduceMul, Nat.reduceLT, Nat.reduceLeDiff, Nat.reduceEqDiff, ↓reduceIte, eq_self, wtAll]
     refine ⟨⟨by omega, by omega⟩, by omega, ?_⟩
     intro i13 hh_i13; (try simp only [Hp.set_none, ite_none] at hh_i13)
     have hl2 := tabC_len g i
     have ok2 := tabC_ok g i
     simp only [vsAll, eq_self, dlF_at, etd]
     refine ⟨fun q hq => ?_, ⟨by ((try clear hh_i13); omega), by ((try clear hh_i13); omega)⟩, by ((try clear hh_i13); omega), ⟨by ((try clear hh_i13); omega), by ((try clear hh_i13); omega)⟩, by ((try clear hh_i13); omega), ?_⟩
     ·rw [tab_drop g i hq]
      exact ⟨rfl, trivial⟩
     refine callK_pure (later_tri (hrN g (crS b) i) (tabV g i (crS b i)) _) ?_
     simp only [vsAll, binA, binLitA, intA, opA, dstOk, nilSliceOp, Nat.reduceLT, Nat.reduceEqDiff, ↓reduceIte, eq_self]
     refine ⟨by simp only [InR_i64]; ((try clear hh_i13); omega), loop_next (i + 1) (by ((try clear hh_i13); omega)) (by ((try clear hh_i13); omega)) ?_ (by (repeat (first | exact HSub_rfl | refine HSub_put_eq (by simp only [vsAll, ↓reduceIte, eq_self, reduceCtorEq, Nat.reduceEqDiff, hh_i13]) ?_ | refine HSub_drop2 (by simp only [eq_self, hh_i13]) ?_ | refine HSub_keep_eq (by simp only [vsAll, ↓reduceIte, eq_self, reduceCtorEq, Nat.reduceEqDiff, hh_i13]) ?_)))⟩
     simp only [vsAll, Nat.reduceEqDiff, ↓reduceIte, eq_self, Int.natCast_add, Int.natCast_one]
     exact AV.Le.refl _
    ·have ei : i = g.cw.length := by omega
     subst ei
     simp only [vsAll, opA, dstOk, nilSliceOp, resA, retA.eq_1, Nat.reduceLT, Nat.reduceEqDiff, ↓reduceIte, eq_self, Tryz.results97]
     exact dropR_pure rfl HSub_rfl
 | succ n ih =>
   intro b H hs h9 h10 hm
   have df : decide ((b.length : Int) = (g.sm.length : Int)) = false := decide_eq_false (by omega)
   have el : ∀ x : Int, ((b ++ [x]).length : Int) = (b.length : Int) + 1 := fun x => by simp
   have earr : arrL (dlF b) 3 = [u64 (crS b 0 : Nat), u64 (crS b 1 : Nat), u64 (crS b 2 : Nat)] := rfl
   cases hbit : S.testBit b.length with
   | false =>
     have ed : dlF (b ++ [-1]) = dlF b := by
      funext c
      unfold dlF
      rw [crS_snoc, if_neg (by omega)]
     rw [dO_out hbit]
     refine Tri.drop ?_
     refine tri_m (m := fun _ => false) Tryz.func97 (by kernel_rfl) rfl (by simp only [List.length_append, List.length_cons, List.length_nil, Tryz.ntmps97]; decide) ?_
     skip
     simp only [vsAll, binA, binLitA, intA, loadA, loadRow, partA, partOk, fieldAddrA, lenA, nilCheckA, boxA, boxZ, okAll, stAll, opsA, opA, dstOk, nilSliceOp, argFr, Nat.reduceLT, Nat.reduceEqDiff, Int.reduceNeg, ↓reduceIte, reduceCtorEq, eq_self, wtAll, Tryz.ntmps97, df]
     refine callK_pure (ghas_tri S b.length _ (by ((try clear h9 h10 hm); omega)) (by ((try clear h9 h10 hm); omega))) ?_
     simp only [vsAll, binA, binLitA, intA, unA, loadA, loadRow, partA, partOk, okAll, stAll, opsA, opA, dstOk, argFr, Nat.reduceLT, Nat.reduceEqDiff, Int.reduceNeg, ↓reduceIte, reduceCtorEq, eq_self, wtAll, h10, hbit]
     have hx := ih (b ++ [-1]) H (by rw [List.length_append, List.length_cons, List.length_nil]; ((try clear h9 h10 hm); omega)) h9 h10 hm
     have hx2 : PTri Tryz.prog (deF g S C i9 i10) [i64 ((b.length : Int) + 1), .arr 3 1 (dlF b)] H (i64 (dV (dO g S C n (b ++ [-1])))) := by rw [← el (-1), ← ed]; exact hx
     refine ⟨by simp only [InR_i64]; ((try clear h9 h10 hm); omega), ?_⟩
     refine callK_pure hx2 ?_
     simp only [vsAll, opA, dstOk, nilSliceOp, resA, retA.eq_1, Nat.reduceLT, Int.reduceNeg, ↓reduceIte, eq_self, Tryz.results97]
     exact dropR_pure rfl HSub_rfl
   | true =>
     refine Tri.unpack hm fun es ck hes hpw => ?_
     have hkey : ∃ l, keyOf Tryz.prog 146 (pcU b) = some l := pcKU (by omega)
     obtain ⟨o, hfo, hst, hcase⟩ := found_of und143q key146q hkey (fun e he => mmT_key hN (hes e he)) hpw
     have hback : Go.V.HSub (H.set im (.raw (.map es ck))) H := HSub_set' hm (memo_le hes hpw)
     have n9 : ¬ i9 = im := fun q => by rw [q, hm] at h9; cases h9
     have n10 : ¬ i10 = im := fun q => by rw [q, hm] at h10; cases h10
     have n9' : ¬ im = i9 := fun q => n9 q.symm
     have n10' : ¬ im = i10 := fun q => n10 q.symm
     rw [dO_in hbit]
     refine Tri.drop ?_
     refine tri_m (m := fun _ => false) Tryz.func97 (by kernel_rfl) rfl (by simp only [List.length_append, List.length_cons, List.length_nil, Tryz.ntmps97]; decide) ?_
     skip
     simp only [vsAll, binA, binLitA, intA, loadA, loadRow, partA, partOk, fieldAddrA, lenA, nilCheckA, boxA, boxZ, okAll, stAll, opsA, opA, dstOk, nilSliceOp, argFr, Nat.reduceLT, Nat.reduceEqDiff, ↓reduceIte, reduceCtorEq, eq_self, wtAll, Tryz.ntmps97, df]
     refine callK_pure (ghas_tri S b.length _ (by ((try clear h9 h10 hm n9 n10 n9' n10'); omega)) (by ((try clear h9 h10 hm n9 n10 n9' n10'); omega))) ?_
     simp only [vsAll, unA, loadA, loadRow, partA, partOk, extractA, cellA, cellsA, fillA, okParts, partsA, partsOk, opA, lookA, dstOk, nilSliceOp, argFr, Nat.reduceAdd, Nat.reduceLT, Nat.reduceLeDiff, Nat.reduceEqDiff, ↓reduceIte, reduceCtorEq, eq_self, wtAll, h9, n9, hbit, mapZ143q, earr]
     refine ⟨o, hfo _, ?_⟩
     rcases hcase with ⟨rfl, hno⟩ | ⟨j, en, rfl, hj, hkn⟩
     ·simp only [vsAll, loadA, loadRow, partA, partOk, lenA, opA, dstOk, nilSliceOp, argFr, Nat.reduceLT, Nat.reduceEqDiff, ↓reduceIte, eq_self, wtAll]
      have hfle : ∀ c t, dO g S C n (b ++ [(c : Int)]) = some t → 0 ≤ t ∧ t ≤ 24 := fun c t h => dO_le k (by rw [List.length_append, List.length_cons, List.length_nil]; ((try clear h9 h10 hm n9 n10 n9' n10'); omega)) h
      have hps := fun i => dP_step (g := g) (C := C) (f := fun c : Nat => dO g S C n (b ++ [(c : Int)])) (fun c t h => hfle c t h) i
      have hp0 : dV (dP g C (fun c : Nat => dO g S C n (b ++ [(c : Int)])) 0) = 10000 := rfl
      have hend := dO_in (g := g) (C := C) (n := n) hbit
      generalize hpv : dP g C (fun c : Nat => dO g S C n (b ++ [(c : Int)])) = pv at hps hp0 hend ⊢
      refine vs_loop (σ := Nat) (fun i => i ≤ g.cw.length) (fun i => [(0, i64 b.length), (5, .ref i10 0 1 0 0), (6, .ref i9 0 1 0 0), (7, .rptr 1 1 (fun _ => [u64 (C : Nat)]) 0 0), (9, .rptr 3 1 (dlF b) 0 0), (16, i64 (dV (pv i))), (64, i64 g.cw.length), (65, i64 i)]) (fun _ => H) (fun i => g.cw.length - i) 0 (Nat.zero_le _) ?_ hback fun i hi => ?_
      ·simp only [vsAll, argFr, Nat.reduceEqDiff, ↓reduceIte, reduceCtorEq, eq_self, Int.natCast_zero, hp0]
      ·simp only [vsAll, binA, binLitA, intA, opA, dstOk, Nat.reduceLT, Nat.reduceEqDiff, ↓reduceIte, reduceCtorEq, eq_self]
       refine condD (fun hd => ?_) (fun hd => ?_)
       ·have his : i < g.cw.length := by ((try clear h9 h10 hm n9 n10 n9' n10'); omega)
        have hst := hps i
        simp only [vsAll, loadA, loadRow, partA, partOk, okAll, stAll, opsA, opA, dstOk, nilSliceOp, Nat.reduceLT, Nat.reduceEqDiff, ↓reduceIte, reduceCtorEq, eq_self, wtAll]
        refine callK_pure (ghas_tri C i _ (by ((try clear h9 h10 hm n9 n10 n9' n10'); omega)) (by ((try clear h9 h10 hm n9 n10 n9' n10'); omega))) ?_
        simp only [vsAll, opA, ↓reduceIte, eq_self]
        refine condV (fun hc1 => ?_) (fun hc1 => ?_)
        ·rw [if_pos hc1] at hst
         have ed : updF 3 i (dlF b) [u64 ((crS b i ||| 2 ^ b.length : Nat) : Int)] = dlF (b ++ [(i : Int)]) := by
          funext c
          show (if c = i then _ else _) = _
          unfold dlF
          rw [crS_snoc]
          by_cases e : c = i
          ·subst e; rw [if_pos rfl, if_pos rfl]
          ·rw [if_neg e, if_neg (by ((try clear h9 h10 hm n9 n10 n9' n10'); omega))]
         have hb32 := crS32 (b := b) (by ((try clear h9 h10 hm n9 n10 n9' n10'); omega)) i
         simp only [vsAll, loadA, loadRow, partA, partOk, indexAddrA, okAll, stAll, opsA, opA, allocA, storeObj, dstOk, Nat.reduceMul, Nat.reduceLT, Nat.reduceEqDiff, ↓reduceIte, reduceCtorEq, eq_self, wtAll]
         intro i18 hh_i18; (try simp only [Hp.set_none, ite_none] at hh_i18)
         simp only [vsAll, cellA, okCells, implies_true, eq_self, dlF_at]
         have a1 := ne_some hh_i18 h9
         have a2 := ne_some hh_i18 h10
         have a3 := ne_some hh_i18 hm
         skip
         refine ⟨⟨by ((try clear h9 h10 hm n9 n10 n9' n10' hh_i18 a1 a2 a3); omega), by ((try clear h9 h10 hm n9 n10 n9' n10' hh_i18 a1 a2 a3); omega)⟩, by ((try clear h9 h10 hm n9 n10 n9' n10' hh_i18 a1 a2 a3); omega), ?_⟩
         rw [Hp.set_set]
         refine callK_pure (with_tri (crS b i) b.length _ (by ((try clear h9 h10 hm n9 n10 n9' n10' hh_i18 a1 a2 a3); omega)) (by ((try clear h9 h10 hm n9 n10 n9' n10' hh_i18 a1 a2 a3); omega))) ?_
         simp only [vsAll, binA, binLitA, intA, loadA, loadRow, partA, partOk, indexAddrA, cellA, cellsA, okAll, stAll, opsA, opA, newCells, okCells, storeObj, dstOk, Nat.reduceLT, Nat.reduceEqDiff, ↓reduceIte, reduceCtorEq, eq_self, wtAll, h10, a2, dlF_at]
         rw [ed, Hp.set_set]
         refine ⟨⟨by ((try clear h9 h10 hm n9 n10 n9' n10' hh_i18 a1 a2 a3); omega), by ((try clear h9 h10 hm n9 n10 n9' n10' hh_i18 a1 a2 a3); omega)⟩, by ((try clear h9 h10 hm n9 n10 n9' n10' hh_i18 a1 a2 a3); omega), by simp only [InR_i64]; ((try clear h9 h10 hm n9 n10 n9' n10' hh_i18 a1 a2 a3); omega), ?_⟩
         have hx : ∀ X : Hp, X i9 = some (.box 1 1 fun _ => [.map im]) → X i10 = some (.box 1 1 fun _ => [deF g S C i9 i10]) → X im = some (.memo (mmT g S C)) → PTri Tryz.prog (deF g S C i9 i10) [i64 ((b.length : Int) + 1), .arr 3 1 (dlF (b ++ [(i : Int)]))] X (i64 (dV (dO g S C n (b ++ [(i : Int)])))) := fun X x1 x2 x3 => by
          rw [← el (i : Int)]
          exact ih (b ++ [(i : Int)]) X (by rw [List.length_append, List.length_cons, List.length_nil]; ((try clear h9 h10 hm n9 n10 n9' n10' hh_i18 a1 a2 a3); omega)) x1 x2 x3
         have hpi : dO g S C n (b ++ [(i : Int)]) = dO g S C n (b ++ [(i : Int)]) := rfl
         refine callK_pure (hx _ (by simp only [vsAll, ↓reduceIte, eq_self, h9, a1]) (by simp only [vsAll, ↓reduceIte, eq_self, h10, a2]) (by simp only [vsAll, ↓reduceIte, eq_self, hm, a3])) ?_
         simp only [vsAll, binA, binLitA, intA, mmA, okAll, stAll, opsA, opA, dstOk, nilSliceOp, Nat.reduceLT, Nat.reduceEqDiff, ↓reduceIte, reduceCtorEq, eq_self]
         rw [← hst]
         refine ⟨by simp only [InR_i64]; ((try clear h9 h10 hm n9 n10 n9' n10' hh_i18 a1 a2 a3); omega), loop_next (i + 1) (by ((try clear h9 h10 hm n9 n10 n9' n10' hh_i18 a1 a2 a3); omega)) (by ((try clear h9 h10 hm n9 n10 n9' n10' hh_i18 a1 a2 a3); omega)) ?_ (by (repeat (first | exact HSub_rfl | refine HSub_put_eq (by simp only [vsAll, ↓reduceIte, eq_self, reduceCtorEq, Nat.reduceEqDiff, h9, h10, hm, n9, n10, n9', n10', hh_i18, a1, a2, a3]) ?_ | refine HSub_drop2 (by simp only [eq_self, hh_i18]) ?_ | refine HSub_keep_eq (by simp only [vsAll, ↓reduceIte, eq_self, reduceCtorEq, Nat.reduceEqDiff, h9, h10, hm, n9, n10, n9', n10', hh_i18, a1, a2, a3]) ?_)))⟩
         simp only [vsAll, Nat.reduceEqDiff, ↓reduceIte, reduceCtorEq, eq_self, Int.natCast_add, Int.natCast_one]
        ·rw [if_neg (by rw [hc1]; decide)] at hst
         rw [← hst]
         simp only [vsAll, binA, binLitA, intA, opA, dstOk, Nat.reduceLT, Nat.reduceEqDiff, ↓reduceIte, reduceCtorEq, eq_self]
         refine ⟨by simp only [InR_i64]; ((try clear h9 h10 hm n9 n10 n9' n10'); omega), loop_next (i + 1) (by ((try clear h9 h10 hm n9 n10 n9' n10'); omega)) (by ((try clear h9 h10 hm n9 n10 n9' n10'); omega)) ?_ HSub_rfl⟩
         simp only [vsAll, Nat.reduceEqDiff, ↓reduceIte, reduceCtorEq, eq_self, Int.natCast_add, Int.natCast_one]
       ·have ei : i = g.cw.length := by ((try clear h9 h10 hm n9 n10 n9' n10'); omega)
        subst ei
        simp only [vsAll, loadA, loadRow, partA, partOk, cellA, cellsA, fillA, okParts, partsA, partsOk, opA, mapUpA, dstOk, nilSliceOp, resA, retA.eq_1, Nat.reduceAdd, Nat.reduceLT, Nat.reduceLeDiff, Nat.reduceEqDiff, ↓reduceIte, reduceCtorEq, eq_self, wtAll, Tryz.results97, h9, hm, earr]
        refine ⟨146, 3, und143q, key146q, hkey, fun q v h => mmT_key hN h, ⟨b, by ((try clear h9 h10 hm n9 n10 n9' n10'); omega), rfl, ?_⟩, dropR_pure rfl HSub_rfl⟩
        rw [show g.N - b.length = n + 1 by ((try clear h9 h10 hm n9 n10 n9' n10'); omega), hend]
     ·obtain ⟨b', h1, h2, h3⟩ := hes en (by
       have := Array.getElem?_eq_some_iff.1 hj
       obtain ⟨hl, rfl⟩ := this
       simp)
      have hval : en.val = .int .i64 (dV (dO g S C (n + 1) b)) := by
       rw [hkn] at h2
       simp only [pcU, pcV, Value.agg.injEq, Array.mk.injEq, List.cons.injEq, Value.int.injEq, true_and, and_true] at h2
       obtain ⟨q1, q2, q3, q4⟩ := h2
       have e1 : b'.length = b.length := by ((try clear h9 h10 hm n9 n10 n9' n10'); omega)
       rw [h3, e1, show g.N - b.length = n + 1 by ((try clear h9 h10 hm n9 n10 n9' n10'); omega), dO_congr (n + 1) b' b e1 fun c hc => ?_]
       have : c = 0 ∨ c = 1 ∨ c = 2 := by ((try clear h9 h10 hm n9 n10 n9' n10'); omega)
       rcases this with rfl | rfl | rfl <;> ((try clear h9 h10 hm n9 n10 n9' n10'); omega)
      rw [dO_in hbit] at hval
      simp only [vsAll, opA, dstOk, nilSliceOp, resA, retA.eq_1, Nat.reduceLT, Nat.reduceEqDiff, ↓reduceIte, eq_self, Tryz.results97, hval]
      exact dropR_pure rfl hback
end Go.Proofs.YtdopkbldjagmlaaGreat
end
section
set_option linter.unusedVariables false
set_option linter.unusedSimpArgs false
set_option maxHeartbeats 1000000
set_option maxRecDepth 100000
namespace Go.Proofs.YtdopkbldjagmlaaGreat
open Go.V
theorem azT96q : azT Tryz.prog 101 = some (1, 1, [.nilFunc]) := by kernel_rfl
theorem azT151q : azT Tryz.prog 143 = some (1, 1, [.map none]) := by kernel_rfl
/-- The heap behind what tells hours. -/
abbrev deH (g : Gg) (S C : Nat) (H : Hp) (im i9 i10 : Nat) : Hp :=
 ((H.set im (.memo (mmT g S C))).set i9 (.box 1 1 fun _ => [.map im])).set i10 (.box 1 1 fun _ => [deF g S C i9 i10])
def deR (g : Gg) (S C : Nat) (H : Hp) : Res → Hp → Prop := fun r H' =>
 ∃ i9 i10 im, r = .ret (deF g S C i9 i10) ∧ (H im = none ∧ H i9 = none ∧ H i10 = none) ∧ ((¬ i9 = im ∧ ¬ im = i9) ∧ (¬ i10 = im ∧ ¬ im = i10) ∧ ¬ i10 = i9 ∧ ¬ i9 = i10) ∧ H' = deH g S C H im i9 i10
theorem deals_tri (g : Gg) (S C : Nat) (H : Hp) : Tri Tryz.prog (fnA 62) [gP g, u64 (S : Nat), u64 (C : Nat), tbsA g] H (deR g S C H) := by
 refine Tri.drop ?_
 refine tri_v0 (fun _ => false) Tryz.func62 (by kernel_rfl) rfl (by simp only [List.length_append, List.length_cons, List.length_nil, Tryz.ntmps62]; decide) ?_
 simp only [vsAll, loadA, loadRow, partA, partOk, boxA, boxZ, cellA, cellsA, okAll, stAll, opsA, opA, allocA, newCells, okCells, storeObj, nM, dstOk, nilSliceOp, resA, argFr, retA.eq_1, Nat.reduceLT, Nat.reduceEqDiff, ↓reduceIte, eq_self, wtAll, Tryz.ntmps62, Tryz.results62, azT96q, azT151q]
 intro im hh_im; (try simp only [Hp.set_none, ite_none] at hh_im); intro i9 hh_i9; (try simp only [ite_none] at hh_i9); intro i10 hh_i10; (try simp only [ite_none] at hh_i10)
 rw [Hp.set_set, Hp.set_set]
 refine ⟨deH g S C H im i9 i10, HSub.set (HSub.set (HSub.set (HSub.refl _) (memo_le (by simp) (by simp))) (.refl _)) (.refl _), i9, i10, im, rfl, ?_, ?_, rfl⟩
 ·refine ⟨?_, ?_, ?_⟩ <;> simp_all
 ·refine ⟨⟨?_, ?_⟩, ⟨?_, ?_⟩, ?_, ?_⟩ <;> simp_all
theorem deH_sub {g : Gg} {S C : Nat} {H : Hp} {im i9 i10 : Nat} (h : H im = none ∧ H i9 = none ∧ H i10 = none) : Go.V.HSub (deH g S C H im i9 i10) H := fun q o hq => by
 have h1 : ¬ q = i10 := fun e => by rw [e, h.2.2] at hq; cases hq
 have h2 : ¬ q = i9 := fun e => by rw [e, h.2.1] at hq; cases hq
 have h3 : ¬ q = im := fun e => by rw [e, h.1] at hq; cases hq
 exact ⟨o, by rw [deH, Hp.set_ne _ _ h1, Hp.set_ne _ _ h2, Hp.set_ne _ _ h3]; exact hq, .refl _⟩
/-- The least hour, told by what was made; more may lie there. -/
theorem toldG_tri {g : Gg} {S C : Nat} {H : Hp} {im i9 i10 : Nat} (k : OkG g) (hS : S < 32) (hC : C < 32) (n : Nat) (b : List Int) (hn : b.length + n = g.N)
  (h9 : H i9 = some (.box 1 1 fun _ => [.map im])) (h10 : H i10 = some (.box 1 1 fun _ => [deF g S C i9 i10])) (hm : H im = some (.memo (mmT g S C))) :
  PTri Tryz.prog (deF g S C i9 i10) [i64 b.length, dlA b] H (i64 (dV (dO g S C n b))) := de_tri k hS hC n b H hn h9 h10 hm
theorem lt5 {C m : Nat} (h : C < 2 ^ m) (hm : m ≤ 5) : C < 32 := Nat.lt_of_lt_of_le h (Nat.pow_le_pow_right (by decide) hm)
theorem agg3 {f : Nat → List AV} {a b c : AV} (h0 : f 0 = [a]) (h1 : f 1 = [b]) (h2 : f 2 = [c]) : AV.Le (.agg [a, b, c]) (.arr 3 1 f) := by
 intro S v hv
 cases hv with
 | agg hn hh =>
   refine .arr hn (fun i hi => ?_) fun i j hi hj => ?_
   ·match i, hi with
    | 0, _ => rw [h0]; rfl
    | 1, _ => rw [h1]; rfl
    | 2, _ => rw [h2]; rfl
   ·have ej : j = 0 := by omega
    subst ej
    have := hh i hi
    match i, hi with
    | 0, _ => rw [h0]; exact this
    | 1, _ => rw [h1]; exact this
    | 2, _ => rw [h2]; exact this
/-- The least hour of all deals, told by what was made. -/
theorem told0_tri {g : Gg} {S C : Nat} {H X : Hp} {im i9 i10 : Nat} (k : OkG g) (hS : S < 32) (hC : C < 32)
  (hd : (¬ i9 = im ∧ ¬ im = i9) ∧ (¬ i10 = im ∧ ¬ im = i10) ∧ ¬ i10 = i9 ∧ ¬ i9 = i10) :
  PTri Tryz.prog (deF g S C i9 i10) [i64 0, .agg [u64 0, u64 0, u64 0]] (deH g S C H im i9 i10) (i64 (dV (dO g S C g.N []))) := by
 refine Tri.args (args' := [i64 ([] : List Int).length, dlA []]) (toldG_tri k hS hC g.N [] (Nat.zero_add _) (by rw [deH, Hp.set_ne _ _ hd.2.2.2, Hp.set_same]) (by rw [deH, Hp.set_same]) (by rw [deH, Hp.set_ne _ _ hd.2.1.2, Hp.set_ne _ _ hd.1.2, Hp.set_same])) rfl fun q hq => ?_
 match q, hq with
 | 0, _ => exact AV.Le.refl _
 | 1, _ => exact agg3 rfl rfl rfl
/-- Is there a deal for the crews of a set? -/
theorem enough1_tri (g : Gg) (s i1 i2 : Nat) (H : Hp) (k : OkG g) (hs : s < 32) (h1 : H i1 = some (.box 1 1 fun _ => [gP g])) (h2 : H i2 = some (.box 1 1 fun _ => [tbsA g])) :
  PTri Tryz.prog (.func (.func 69) [] [.ref i1 0 1 0 0, .ref i2 0 1 0 0]) [u64 (s : Nat)] H (boo (genB g s)) := by
 have nS := k.nS
 refine Tri.drop ?_
 refine tri_v0 (fun _ => false) Tryz.func69 (by kernel_rfl) rfl (by simp only [List.length_append, List.length_cons, List.length_nil, Tryz.ntmps69]; decide) ?_
 skip
 simp only [vsAll, opA, dstOk, nilSliceOp, Nat.reduceLT, eq_self, Tryz.ntmps69]
 refine vs_draw2 [0, 0, 0, 0, 0, 0, 0, 0, 0, 0, 1, 0, 3, 4, 4] [([0, 1, 2, 3, 4, 5, 6, 7, 8, 9, 11], [], 10), ([], [], 12)] [13, 14] (by decide +kernel) ?_
 simp only [vsAll, loadA, loadRow, partA, partOk, fieldAddrA, lenA, nilCheckA, opA, dstOk, argFr, Nat.reduceLT, Nat.reduceEqDiff, ↓reduceIte, eq_self, wtAll, h1]
 refine qcall _ ⟨trivial, by simp only [vsAll, okAll, opsA, opA, ↓reduceIte, eq_self], every_tri g.sm.length _ nS⟩ ?_
 simp only [vsAll, loadA, loadRow, partA, partOk, okParts, okAll, stAll, opsA, partsA, partsOk, opA, dstOk, argFr, Nat.reduceLT, Nat.reduceEqDiff, ↓reduceIte, reduceCtorEq, eq_self, wtAll, h2]
 refine callK (deals_tri g (2 ^ g.sm.length - 1) s _) ?_
 rintro r H' ⟨i9, i10, im, rfl, hfr, hd, rfl⟩
 simp only [vsAll, okAll, stAll, opsA, opA, dstOk, Nat.reduceLT, Nat.reduceEqDiff, ↓reduceIte, eq_self]
 have hb := dV_le k (S := 2 ^ g.sm.length - 1) (C := s) (n := g.N) (b := []) (Nat.zero_add _)
 have hF : g.F = 2 ^ g.sm.length - 1 := rfl
 have eg : decide (dV (dO g (2 ^ g.sm.length - 1) s g.N []) < 10000) = genB g s := by
  unfold genB
  rw [hF, Bool.eq_iff_iff, decide_eq_true_eq]
  exact hb.2.2
 have hF5 : 2 ^ g.sm.length - 1 < 32 := by
  have := Nat.pow_le_pow_right (n := 2) (by decide) nS
  ((try clear h1 h2); omega)
 refine callK_pure (told0_tri k hF5 hs hd (X := H)) ?_
 simp only [vsAll, binA, binLitA, intA, opA, dstOk, resA, retA.eq_1, Nat.reduceLT, ↓reduceIte, eq_self, Tryz.results69, eg]
 exact dropR_pure rfl (deH_sub hfr)
end Go.Proofs.YtdopkbldjagmlaaGreat
end
section
set_option linter.unusedVariables false
set_option linter.unusedSimpArgs false
set_option maxHeartbeats 1000000
set_option maxRecDepth 100000
namespace Go.Proofs.YtdopkbldjagmlaaGreat
open Go.V
theorem dec_castG (a b : Nat) (x : Bool) : (decide ((a : Int) = (b : Int)) && x) = (decide (a = b) && x) := by
 rw [show decide ((a : Int) = (b : Int)) = decide (a = b) from decide_eq_decide.2 (by omega)]
theorem gfew_tri (f : Nat → Bool) (m : Nat) (fv : AV) (H : Hp) (hm : m ≤ 5) (hok : fv.ok) (hst : fv.st = fv) (hf : ∀ j : Nat, j < 2 ^ m → PTri Tryz.prog fv [u64 j] H (boo (f j))) :
  PTri Tryz.prog (fnA 68) [i64 m, fv] H (.tuple [u64 ((fewV f m).getD 0 : Nat), boo (fewV f m).isSome]) := by
 have hp : 2 ^ m ≤ 2 ^ 5 := Nat.pow_le_pow_right (by decide) hm
 have hp0 : 0 < 2 ^ m := Nat.pow_pos (by decide)
 have ep : (1 : Int) * 2 ^ m = ((2 ^ m : Nat) : Int) := by rw [Int.one_mul]; simp
 refine tri_v0 (fun _ => false) Tryz.func68 (by kernel_rfl) rfl (by simp only [List.length_append, List.length_cons, List.length_nil, Tryz.ntmps68]; decide) ?_
 skip
 simp only [vsAll, binA, binLitA, intA, opA, dstOk, nilSliceOp, argFr, Nat.reduceLT, ↓reduceIte, reduceCtorEq, eq_self, Tryz.ntmps68]
 refine ⟨by simp only [InR_i64]; ((try clear hok hst); omega), ?_⟩
 refine vs_loop (σ := Nat) (fun i => i ≤ m + 1 ∧ fewV f m = outF f m (m + 1 - i) i) (fun i => [(0, i64 m), (1, fv), (9, i64 ((m : Int) + 1)), (10, i64 i)]) (fun _ => H) (fun i => m + 1 - i) 0 ⟨by ((try clear hok hst); omega), rfl⟩ ?_ (HSub.refl _) fun i hi => ?_
 ·simp only [vsAll, argFr, Nat.reduceEqDiff, ↓reduceIte, reduceCtorEq, eq_self, Int.natCast_zero]
 ·obtain ⟨hi, hv⟩ := hi
  simp only [vsAll, binA, binLitA, intA, opA, dstOk, Nat.reduceLT, Nat.reduceEqDiff, ↓reduceIte, reduceCtorEq, eq_self]
  refine condD (fun hd => ?_) (fun hd => ?_)
  ·rw [show m + 1 - i = (m - i) + 1 by ((try clear hok hst); omega)] at hv
   simp only [vsAll, okAll, stAll, opsA, opA, dstOk, nilSliceOp, Nat.reduceLT, Nat.reduceEqDiff, ↓reduceIte, reduceCtorEq, eq_self]
   refine callK_pure (every_tri m _ hm) ?_
   have e15 : ((2 ^ m - 1 : Nat) : Int) + 1 = ((2 ^ m : Nat) : Int) := by ((try clear hok hst); omega)
   simp only [vsAll, binA, binLitA, intA, opA, dstOk, Nat.reduceLT, ↓reduceIte, eq_self, e15]
   refine ⟨by simp only [InR_u64]; ((try clear hok hst); omega), ?_⟩
   refine vs_loop (σ := Nat) (fun j => j ≤ 2 ^ m ∧ inn f i (2 ^ m) 0 = inn f i (2 ^ m - j) j) (fun j => [(0, i64 m), (1, fv), (6, i64 i), (9, i64 ((m : Int) + 1)), (10, i64 i), (15, u64 ((2 ^ m : Nat) : Int)), (16, u64 j)]) (fun _ => H) (fun j => 2 ^ m - j) 0 ⟨by ((try clear hok hst); omega), rfl⟩ ?_ (HSub.refl _) fun j hj => ?_
   ·simp only [vsAll, Nat.reduceEqDiff, ↓reduceIte, reduceCtorEq, eq_self, Int.natCast_zero]
   ·obtain ⟨hj, hw⟩ := hj
    simp only [vsAll, binA, binLitA, intA, opA, dstOk, Nat.reduceLT, Nat.reduceEqDiff, ↓reduceIte, reduceCtorEq, eq_self]
    refine condD (fun hd2 => ?_) (fun hd2 => ?_)
    ·rw [show 2 ^ m - j = (2 ^ m - (j + 1)) + 1 by ((try clear hok hst); omega), inn] at hw
     simp only [vsAll, okAll, stAll, opsA, opA, dstOk, nilSliceOp, Nat.reduceLT, Nat.reduceEqDiff, ↓reduceIte, reduceCtorEq, eq_self]
     refine callK_pure (ssize_tri j _ (by ((try clear hok hst); omega))) ?_
     simp only [vsAll, binA, binLitA, intA, opA, guardV, dstOk, Nat.reduceLT, Nat.reduceEqDiff, ↓reduceIte, reduceCtorEq, implies_true, eq_self, hok, hst]
     refine gcall _ (fun g => ⟨by simp only [vsAll, opA, Nat.reduceEqDiff, ↓reduceIte, eq_self, g], by simp only [vsAll, okAll, opsA, opA, ↓reduceIte, eq_self, g], hf j (by ((try clear hok hst); omega))⟩) ?_
     simp only [vsAll, pickA, opA, dstOk, Nat.reduceLT, Nat.reduceEqDiff, ↓reduceIte, implies_true, eq_self]
     rw [dec_castG]
     refine condV (fun hb => ?_) (fun hb => ?_)
     ·rw [hb, if_pos rfl] at hw
      have hr : fewV f m = some j := by rw [hv, outF, hw]
      simp only [vsAll, opA, dstOk, nilSliceOp, resA, retA.eq_2, Nat.reduceLT, Nat.reduceEqDiff, ↓reduceIte, eq_self, Tryz.results68, hr, Option.getD_some]
     ·rw [hb, if_neg (by decide)] at hw
      simp only [vsAll, binA, binLitA, intA, opA, dstOk, Nat.reduceLT, Nat.reduceEqDiff, ↓reduceIte, reduceCtorEq, eq_self]
      refine ⟨by simp only [InR_u64]; ((try clear hok hst); omega), loop_next (j + 1) ⟨by ((try clear hok hst); omega), hw⟩ (by ((try clear hok hst); omega)) ?_ (HSub.refl _)⟩
      simp only [vsAll, Nat.reduceEqDiff, ↓reduceIte, reduceCtorEq, eq_self, Int.natCast_add, Int.natCast_one]
    ·have ej : j = 2 ^ m := by ((try clear hok hst); omega)
     subst ej
     rw [Nat.sub_self, inn] at hw
     rw [outF, hw, show m - i = m + 1 - (i + 1) by ((try clear hok hst); omega)] at hv
     simp only [] at hv
     simp only [vsAll, binA, binLitA, intA, opA, dstOk, Nat.reduceLT, Nat.reduceEqDiff, ↓reduceIte, reduceCtorEq, eq_self]
     refine ⟨by simp only [InR_i64]; ((try clear hok hst); omega), loop_next (i + 1) ⟨by ((try clear hok hst); omega), hv⟩ (by ((try clear hok hst); omega)) ?_ (HSub.refl _)⟩
     simp only [vsAll, Nat.reduceEqDiff, ↓reduceIte, reduceCtorEq, eq_self, Int.natCast_add, Int.natCast_one]
  ·have ei : i = m + 1 := by ((try clear hok hst); omega)
   subst ei
   rw [Nat.sub_self, outF] at hv
   simp only [vsAll, opA, dstOk, nilSliceOp, resA, retA.eq_2, Nat.reduceLT, Nat.reduceEqDiff, ↓reduceIte, eq_self, Tryz.results68, hv, Option.getD_none, Int.natCast_zero]
/-- Is there a deal without the seams of a set? -/
theorem leave1_tri (g : Gg) (s i1 i2 i3 : Nat) (H : Hp) (k : OkG g) (hs : s < 32) (h1 : H i1 = some (.box 1 1 fun _ => [gP g])) (h2 : H i2 = some (.box 1 1 fun _ => [u64 (g.F : Nat)])) (h3 : H i3 = some (.box 1 1 fun _ => [tbsA g])) :
  PTri Tryz.prog (.func (.func 71) [] [.ref i1 0 1 0 0, .ref i2 0 1 0 0, .ref i3 0 1 0 0]) [u64 (s : Nat)] H (boo (leaB g s)) := by
 have nS := k.nS
 have nC := k.nC
 have hF5 : g.F < 32 := by
  have := Nat.pow_le_pow_right (n := 2) (by decide) nS
  unfold Gg.F Gg.N
  omega
 have hA5 : g.A < 32 := by
  have := Nat.pow_le_pow_right (n := 2) (by decide) (show g.cw.length ≤ 5 by omega)
  unfold Gg.A
  omega
 have hd5 : dif g.F s < 32 := dif_lt (n := 5) hF5
 refine Tri.drop ?_
 refine tri_v0 (fun _ => false) Tryz.func71 (by kernel_rfl) rfl (by simp only [List.length_append, List.length_cons, List.length_nil, Tryz.ntmps71]; decide) ?_
 skip
 simp only [vsAll, opA, dstOk, nilSliceOp, Nat.reduceLT, eq_self, Tryz.ntmps71]
 refine vs_draw2 [0, 0, 0, 0, 0, 0, 0, 0, 0, 0, 0, 0, 1, 0, 3, 4, 4] [([0, 1, 2, 3, 4, 5, 6, 7, 8, 9, 10, 11, 13], [], 12), ([], [], 14)] [15, 16] (by decide +kernel) ?_
 simp only [vsAll, loadA, loadRow, partA, partOk, opA, dstOk, argFr, Nat.reduceLT, Nat.reduceEqDiff, ↓reduceIte, reduceCtorEq, eq_self, wtAll, h1, h2]
 refine qcall _ ⟨trivial, by simp only [vsAll, okAll, opsA, opA, Nat.reduceEqDiff, ↓reduceIte, eq_self], without_tri g.F s _ (by ((try clear h1 h2 h3); omega)) (by ((try clear h1 h2 h3); omega))⟩ ?_
 simp only [vsAll, loadA, loadRow, partA, partOk, fieldAddrA, lenA, nilCheckA, opA, dstOk, argFr, Nat.reduceLT, Nat.reduceEqDiff, ↓reduceIte, eq_self, wtAll, h1]
 refine qcall _ ⟨trivial, by simp only [vsAll, okAll, opsA, opA, ↓reduceIte, eq_self], every_tri g.cw.length _ (by ((try clear h1 h2 h3); omega))⟩ ?_
 have eA : 2 ^ g.cw.length - 1 = g.A := rfl
 rw [eA]
 simp only [vsAll, loadA, loadRow, partA, partOk, okParts, okAll, stAll, opsA, partsA, partsOk, opA, dstOk, argFr, Nat.reduceLT, Nat.reduceEqDiff, ↓reduceIte, eq_self, wtAll, h3]
 refine callK (deals_tri g (dif g.F s) g.A _) ?_
 rintro r H' ⟨i9, i10, im, rfl, hfr, hd, rfl⟩
 simp only [vsAll, okAll, stAll, opsA, opA, dstOk, Nat.reduceLT, Nat.reduceEqDiff, ↓reduceIte, eq_self]
 have hb := dV_le k (S := dif g.F s) (C := g.A) (n := g.N) (b := []) (Nat.zero_add _)
 have eg : decide (dV (dO g (dif g.F s) g.A g.N []) < 10000) = leaB g s := by
  unfold leaB
  rw [Bool.eq_iff_iff, decide_eq_true_eq]
  exact hb.2.2
 refine callK_pure (told0_tri k hd5 hA5 hd (X := H)) ?_
 simp only [vsAll, binA, binLitA, intA, opA, dstOk, resA, retA.eq_1, Nat.reduceLT, ↓reduceIte, eq_self, Tryz.results71, eg]
 exact dropR_pure rfl (deH_sub hfr)
end Go.Proofs.YtdopkbldjagmlaaGreat
end
section
set_option linter.unusedVariables false
set_option linter.unusedSimpArgs false
namespace Go.Proofs.YtdopkbldjagmlaaGreat
open Go.V
theorem dP_ex {g : Gg} {C : Nat} {f : Nat → Option Int} {m : Int} : ∀ n, dP g C f n = some m → ∃ c, c < n ∧ f c = some m
 | 0, h => by cases h
 | n + 1, h => by
   simp only [dP] at h
   split at h
   ·cases h1 : dP g C f n with
    | none =>
      rw [h1] at h
      exact ⟨n, Nat.lt_succ_self n, h⟩
    | some a =>
      rw [h1] at h
      cases h2 : f n with
      | none =>
        rw [h2] at h
        simp only [comb, Option.some.injEq] at h
        subst h
        obtain ⟨c, hc, e⟩ := dP_ex n h1
        exact ⟨c, by omega, e⟩
      | some b =>
        rw [h2] at h
        simp only [comb, Option.some.injEq] at h
        by_cases e : a ≤ b
        ·rw [Int.min_eq_left e] at h
         subst h
         obtain ⟨c, hc, e⟩ := dP_ex n h1
         exact ⟨c, by omega, e⟩
        ·rw [Int.min_eq_right (by omega)] at h
         subst h
         exact ⟨n, Nat.lt_succ_self n, h2⟩
   ·obtain ⟨c, hc, e⟩ := dP_ex n h
    exact ⟨c, by omega, e⟩
theorem grd_ex {g : Gg} {m : Int} {n : Nat} {b : List Int} (hb : b.length < g.N) (h : dO g g.F g.A (n + 1) b = some m) : ∃ c, c < g.cw.length ∧ dO g g.F g.A n (b ++ [(c : Int)]) = some m := by
 rw [dO_in (F_bit g hb)] at h
 exact dP_ex _ h
theorem grd_hit {g : Gg} {m : Int} {n c : Nat} {b : List Int} (hc : c < g.cw.length) (h : dO g g.F g.A n (b ++ [(c : Int)]) = some m) (hn : ∀ d, d < c → ¬ dO g g.F g.A n (b ++ [(d : Int)]) = some m) :
  grdD g m (n + 1) b = grdD g m n (b ++ [(c : Int)]) := by
 have e : (List.range g.cw.length).find? (fun c : Nat => decide (dO g g.F g.A n (b ++ [(c : Int)]) = some m)) = some c := by
  rw [List.find?_range_eq_some]
  exact ⟨by simpa using h, List.mem_range.2 hc, fun j hj => by simpa using hn j hj⟩
 simp only [grdD]
 rw [e]
theorem dV_eq {g : Gg} (k : OkG g) {S C n : Nat} {b : List Int} (hb : b.length + n = g.N) {m : Int} (hm : m < 10000) : dV (dO g S C n b) = m ↔ dO g S C n b = some m := by
 cases h : dO g S C n b with
 | none =>
   show (10000 : Int) = m ↔ none = some m
   constructor
   ·intro e; omega
   ·intro e; cases e
 | some t =>
   show t = m ↔ some t = some m
   rw [Option.some.injEq]
end Go.Proofs.YtdopkbldjagmlaaGreat
end
section
set_option linter.unusedVariables false
set_option linter.unusedSimpArgs false
set_option maxHeartbeats 2000000
set_option maxRecDepth 100000
namespace Go.Proofs.YtdopkbldjagmlaaGreat
open Go.V
def dealE (g : Gg) : Int := if errG g true = 0 then if (dO g g.F g.A g.N []).isSome = true then 0 else 4 else errG g true
def dealH (g : Gg) : Int := if dealE g = 0 then dV (dO g g.F g.A g.N []) else 0
def dealL (g : Gg) : List Int := if dealE g = 0 then grdD g (dealH g) g.N [] else []
def dealR (g : Gg) (H : Hp) : Res → Hp → Prop := fun r H' => (¬ dealE g = 0 ∧ r = .ret (.tuple [i64 0, .lit (.slice none 0 0), i64 (dealE g)]) ∧ H' = H) ∨
 dealE g = 0 ∧ ∃ id, H id = none ∧ r = .ret (.tuple [i64 (dealH g), .sl id 1 (dealL g).length, i64 0]) ∧ H' = H.set id (.row 1 (dealL g).length (intF (dealL g)))
theorem hsub_none {A B : Hp} {i : Nat} (h : Go.V.HSub A B) (ha : A i = none) : B i = none := by
 cases hb : B i with
 | none => rfl
 | some o =>
   obtain ⟨o', q, _⟩ := h i o hb
   rw [ha] at q
   cases q
theorem wdealM_tri (g : Gg) (H : Hp) (kn : NearG g) : Tri Tryz.prog (fnA 21) [g.av] H (dealR g H) := by
 refine Tri.drop ?_
 refine tri_am (m := mset [9]) gans Tryz.func21 (by kernel_rfl) rfl (by simp only [List.length_append, List.length_cons, List.length_nil, Tryz.ntmps21]; decide) ?_
 simp only [vsAll, loadA, loadRow, partA, partOk, boxA, boxZ, okAll, stAll, opsA, opA, allocA, dstOk, nilSliceOp, argFr, Nat.reduceAdd, Nat.reduceLT, Nat.reduceEqDiff, Nat.reduceBEq, ↓reduceIte, eq_self, wtAll, Tryz.ntmps21]
 intro i4 hh_i4; (try simp only [Hp.set_none, ite_none] at hh_i4)
 refine gopen_call (openG_tri g _ true _ kn trivial rfl (fun k H' id ho => galways_tri (.ref id 0 8 0 0) H' id)) (fun he => ?_) (fun k hv => ?_)
 ·have e : dealE g = errG g true := if_neg he
  simp only [vsAll, loadA, loadRow, partA, partOk, resA, retA.eq_2, Nat.reduceEqDiff, ↓reduceIte, eq_self, wtAll, Tryz.results21]
  refine ⟨errG g true, i4, _, rfl, rfl, by simp only [↓reduceIte, eq_self]; try rfl, ?_⟩
  simp only [vsAll, Nat.reduceLT, ↓reduceIte, eq_self]
  refine ⟨H, by (repeat (first | exact HSub_rfl | refine HSub_put_eq (by simp only [vsAll, ↓reduceIte, eq_self, reduceCtorEq, Nat.reduceEqDiff, hh_i4]) ?_ | refine HSub_drop2 (by simp only [eq_self, hh_i4]) ?_ | refine HSub_keep_eq (by simp only [vsAll, ↓reduceIte, eq_self, reduceCtorEq, Nat.reduceEqDiff, hh_i4]) ?_)), .inl ⟨by rw [e]; exact he, ?_, rfl⟩⟩
  rw [e]
 ·have he : errG g true = 0 := errG_ok k
  have nC := k.nC
  have nS := k.nS
  have hN : g.N ≤ 5 := nS
  have hNe : g.sm.length = g.N := rfl
  have hF5 : g.F < 32 := by
   have := Nat.pow_le_pow_right (n := 2) (by decide) nS
   unfold Gg.F Gg.N
   ((try clear hh_i4); omega)
  have hA5 : g.A < 32 := by
   have := Nat.pow_le_pow_right (n := 2) (by decide) (show g.cw.length ≤ 5 by ((try clear hh_i4); omega))
   unfold Gg.A
   ((try clear hh_i4); omega)
  have eF : 2 ^ g.sm.length - 1 = g.F := rfl
  have eA : 2 ^ g.cw.length - 1 = g.A := rfl
  simp only [vsAll, opA, dstOk, nilSliceOp, Nat.reduceLT, Nat.reduceBEq, ↓reduceIte, eq_self]
  refine vs_draw2 [0, 0, 0, 0, 0, 0, 0, 0, 0, 0, 0, 0, 0, 0, 0, 0, 0, 1, 2] [([0, 1, 2, 3, 4, 5, 6, 7, 8, 9, 10, 11, 12, 13, 14, 15, 16], [], 17)] [18] (by decide +kernel) ?_
  simp only [vsAll, loadA, loadRow, partA, partOk, fieldAddrA, lenA, nilCheckA, opA, dstOk, Nat.reduceLT, Nat.reduceEqDiff, ↓reduceIte, eq_self, wtAll]
  refine qcall _ ⟨trivial, by simp only [vsAll, okAll, opsA, opA, ↓reduceIte, eq_self], every_tri g.sm.length _ nS⟩ ?_
  simp only [vsAll, loadA, loadRow, partA, partOk, fieldAddrA, lenA, nilCheckA, opA, dstOk, Nat.reduceLT, Nat.reduceEqDiff, ↓reduceIte, eq_self, wtAll]
  refine qcall _ ⟨trivial, by simp only [vsAll, okAll, opsA, opA, ↓reduceIte, eq_self], every_tri g.cw.length _ (by ((try clear hh_i4); omega))⟩ ?_
  simp only [vsAll, opA, dstOk, Nat.reduceLT, Nat.reduceEqDiff, ↓reduceIte, eq_self]
  refine qcall _ ⟨trivial, by simp only [vsAll, okAll, opsA, opA, ↓reduceIte, eq_self], tables_tri g _ k⟩ ?_
  rw [eF, eA]
  simp only [vsAll, okAll, stAll, opsA, opA, dstOk, Nat.reduceLT, Nat.reduceEqDiff, ↓reduceIte, eq_self]
  refine callK (deals_tri g g.F g.A _) ?_
  rintro r H' ⟨j9, j10, im, rfl, hfr, hd, rfl⟩
  have h0t := told0_tri (H := H.set i4 (.box 1 1 fun _ => [i64 0])) k hF5 hA5 hd (X := H)
  have hsub := deH_sub (g := g) (S := g.F) (C := g.A) hfr
  have h9 : deH g g.F g.A (H.set i4 (.box 1 1 fun _ => [i64 0])) im j9 j10 j9 = some (.box 1 1 fun _ => [.map im]) := by rw [deH, Hp.set_ne _ _ hd.2.2.2, Hp.set_same]
  have h10 : deH g g.F g.A (H.set i4 (.box 1 1 fun _ => [i64 0])) im j9 j10 j10 = some (.box 1 1 fun _ => [deF g g.F g.A j9 j10]) := by rw [deH, Hp.set_same]
  have hm : deH g g.F g.A (H.set i4 (.box 1 1 fun _ => [i64 0])) im j9 j10 im = some (.memo (mmT g g.F g.A)) := by rw [deH, Hp.set_ne _ _ hd.2.1.2, Hp.set_ne _ _ hd.1.2, Hp.set_same]
  have h4 : deH g g.F g.A (H.set i4 (.box 1 1 fun _ => [i64 0])) im j9 j10 i4 = some (.box 1 1 fun _ => [i64 0]) := by
   have n1 := ne_some hfr.2.2 (Hp.set_same H i4 (.box 1 1 fun _ => [i64 0]))
   have n2 := ne_some hfr.2.1 (Hp.set_same H i4 (.box 1 1 fun _ => [i64 0]))
   have n3 := ne_some hfr.1 (Hp.set_same H i4 (.box 1 1 fun _ => [i64 0]))
   rw [deH, Hp.set_ne _ _ n1.2, Hp.set_ne _ _ n2.2, Hp.set_ne _ _ n3.2, Hp.set_same]
  have hsubH := Go.V.HSub.trans hsub (HSub_drop2 hh_i4 HSub_rfl)
  generalize deH g g.F g.A (H.set i4 (.box 1 1 fun _ => [i64 0])) im j9 j10 = X at h0t hsub h9 h10 hm h4 hsubH ⊢
  skip
  simp only [vsAll, loadA, loadRow, okAll, stAll, opsA, opA, allocA, dstOk, Nat.reduceLT, Nat.reduceEqDiff, ↓reduceIte, eq_self, wtAll]
  intro i7 hh_i7; (try simp only [Hp.set_none, ite_none] at hh_i7)
  have a1 := ne_some hh_i7 h9
  have a2 := ne_some hh_i7 h10
  have a3 := ne_some hh_i7 hm
  have a4 := ne_some hh_i7 h4
  have hn7 : H i7 = none := hsub_none hsubH hh_i7
  skip
  refine callK_pure (toldG_tri (im := im) (i9 := j9) (i10 := j10) k hF5 hA5 g.N [] (Nat.zero_add _) (by simp only [vsAll, ↓reduceIte, eq_self, h9, a1]) (by simp only [vsAll, ↓reduceIte, eq_self, h10, a2]) (by simp only [vsAll, ↓reduceIte, eq_self, hm, a3])) ?_
  have hdv := dV_le k (S := g.F) (C := g.A) (n := g.N) (b := []) (Nat.zero_add _)
  simp only [vsAll, binA, binLitA, intA, okAll, stAll, opsA, opA, dstOk, nilSliceOp, Nat.reduceLT, Nat.reduceBEq, ↓reduceIte, eq_self]
  refine gask_call (fun hr => ?_) (fun hr => ?_)
  ·rw [decide_eq_true_eq] at hr
   have hs := hdv.2.2.1 hr
   have hE : dealE g = 0 := by unfold dealE; rw [if_pos he, if_pos hs]
   have hH : dealH g = dV (dO g g.F g.A g.N []) := if_pos hE
   have hL : dealL g = grdD g (dealH g) g.N [] := if_pos hE
   obtain ⟨m, hmm⟩ := Option.isSome_iff_exists.1 hs
   have hV : dV (dO g g.F g.A g.N []) = m := by rw [hmm]; rfl
   rw [hV] at hdv hH hr
   simp only [vsAll, loadA, loadRow, partA, partOk, fieldAddrA, lenA, nilCheckA, opA, dstOk, Nat.reduceLT, Nat.reduceEqDiff, Nat.reduceBEq, ↓reduceIte, eq_self, wtAll, Go.V.nilA, hV]
   intro i9 hh_i9; (try simp only [ite_none] at hh_i9)
   have b1 := ne_some hh_i9.2 h9
   have b2 := ne_some hh_i9.2 h10
   have b3 := ne_some hh_i9.2 hm
   have b4 := ne_some hh_i9.2 h4
   have hn9 : H i9 = none := hsub_none hsubH hh_i9.2
   skip
   refine vs_loop (σ := List Int) (fun b => b.length ≤ g.N ∧ dO g g.F g.A (g.N - b.length) b = some m ∧ grdD g m (g.N - b.length) b = grdD g m g.N []) (fun b => [(4, .ref i4 0 1 0 0), (5, gP g), (6, deF g g.F g.A j9 j10), (7, .ref i7 0 1 0 0), (8, i64 m), (9, .sl i9 1 b.length), (44, i64 g.N), (45, i64 b.length)]) (fun b => (X.set i7 (.box 1 3 (dlF b))).set i9 (.row 1 b.length (intF b))) (fun b => g.N - b.length) [] ⟨Nat.zero_le _, hmm, rfl⟩ ?_ ?_ fun b hb => ?_
   ·simp only [vsAll, Nat.reduceEqDiff, ↓reduceIte, eq_self, hNe, Int.natCast_zero]
   ·refine HSub_put (o' := .row 1 0 fun _ => []) (by simp only [vsAll, ↓reduceIte, eq_self]) (row0_le _ _ _) ?_
    refine HSub_put (o' := .box 1 3 fun _ => [u64 0]) (by simp only [vsAll, ↓reduceIte, eq_self, hh_i9]) (box_ext fun q _ => rfl) ?_
    exact HSub_drop2 hh_i9.2 (HSub_drop2 hh_i7 HSub_rfl)
   ·obtain ⟨hb1, hb2, hb3⟩ := hb
    simp only [vsAll, binA, binLitA, intA, opA, dstOk, Nat.reduceLT, Nat.reduceEqDiff, ↓reduceIte, eq_self]
    refine condD (fun hd1 => ?_) (fun hd1 => ?_)
    ·have hbs : b.length < g.N := by ((try clear hh_i4 h9 h10 hm h4 hh_i7 a1 a2 a3 a4 hh_i9 b1 b2 b3 b4); omega)
     obtain ⟨n, hn⟩ : ∃ n, g.N - b.length = n + 1 := ⟨g.N - b.length - 1, by ((try clear hh_i4 h9 h10 hm h4 hh_i7 a1 a2 a3 a4 hh_i9 b1 b2 b3 b4); omega)⟩
     rw [hn] at hb2 hb3
     simp only [vsAll, loadA, loadRow, partA, partOk, fieldAddrA, lenA, nilCheckA, opA, dstOk, nilSliceOp, Nat.reduceLT, Nat.reduceEqDiff, Nat.reduceBEq, ↓reduceIte, eq_self, wtAll]
     refine vs_loop (σ := Nat) (fun j => j ≤ g.cw.length ∧ ∀ d, d < j → ¬ dO g g.F g.A n (b ++ [(d : Int)]) = some m) (fun j => [(4, .ref i4 0 1 0 0), (5, gP g), (6, deF g g.F g.A j9 j10), (7, .ref i7 0 1 0 0), (8, i64 m), (9, .sl i9 1 b.length), (10, i64 b.length), (44, i64 g.N), (45, i64 b.length), (53, i64 g.cw.length), (54, i64 j)]) (fun _ => (X.set i7 (.box 1 3 (dlF b))).set i9 (.row 1 b.length (intF b))) (fun j => g.cw.length - j) 0 ⟨Nat.zero_le _, fun d hd => absurd hd (Nat.not_lt_zero d)⟩ ?_ HSub_rfl fun j hj => ?_
     ·simp only [vsAll, Nat.reduceEqDiff, ↓reduceIte, eq_self, Int.natCast_zero]
     ·obtain ⟨hj1, hj2⟩ := hj
      simp only [vsAll, binA, binLitA, intA, opA, dstOk, Nat.reduceLT, Nat.reduceEqDiff, ↓reduceIte, eq_self]
      refine condD (fun hd2 => ?_) (fun hd2 => ?_)
      ·have hjs : j < g.cw.length := by ((try clear hh_i4 h9 h10 hm h4 hh_i7 a1 a2 a3 a4 hh_i9 b1 b2 b3 b4); omega)
       have hb32 := crS32 (b := b) (by ((try clear hh_i4 h9 h10 hm h4 hh_i7 a1 a2 a3 a4 hh_i9 b1 b2 b3 b4); omega)) j
       have ed : updF 3 j (dlF b) [u64 ((crS b j ||| 2 ^ b.length : Nat) : Int)] = dlF (b ++ [(j : Int)]) := by
        funext c
        show (if c = j then _ else _) = _
        unfold dlF
        rw [crS_snoc]
        by_cases e : c = j
        ·subst e; rw [if_pos rfl, if_pos rfl]
        ·rw [if_neg e, if_neg (by ((try clear hh_i4 h9 h10 hm h4 hh_i7 a1 a2 a3 a4 hh_i9 b1 b2 b3 b4); omega))]
       have el : ((b ++ [(j : Int)]).length : Int) = (b.length : Int) + 1 := by simp
       have htl := fun Y => toldG_tri (im := im) (i9 := j9) (i10 := j10) (H := Y) k hF5 hA5 n (b ++ [(j : Int)]) (by rw [List.length_append, List.length_cons, List.length_nil]; ((try clear hh_i4 h9 h10 hm h4 hh_i7 a1 a2 a3 a4 hh_i9 b1 b2 b3 b4); omega))
       rw [el] at htl
       have hde := dV_eq k (S := g.F) (C := g.A) (n := n) (b := b ++ [(j : Int)]) (by rw [List.length_append, List.length_cons, List.length_nil]; ((try clear hh_i4 h9 h10 hm h4 hh_i7 a1 a2 a3 a4 hh_i9 b1 b2 b3 b4); omega)) hr
       simp only [vsAll, loadA, loadRow, partA, partOk, indexAddrA, okAll, stAll, opsA, opA, allocA, storeObj, dstOk, nilSliceOp, Nat.reduceMul, Nat.reduceLT, Nat.reduceEqDiff, Nat.reduceBEq, ↓reduceIte, eq_self, wtAll, hh_i9]
       intro i12 hh_i12; (try simp only [ite_none] at hh_i12)
       simp only [vsAll, cellA, okCells, implies_true, eq_self, dlF_at]
       have c1 := ne_some hh_i12.2.2 h9
       have c2 := ne_some hh_i12.2.2 h10
       have c3 := ne_some hh_i12.2.2 hm
       have c4 := ne_some hh_i12.2.2 h4
       skip
       refine ⟨⟨by ((try clear hh_i4 h9 h10 hm h4 hh_i7 a1 a2 a3 a4 hh_i9 b1 b2 b3 b4 hh_i12 c1 c2 c3 c4); omega), by ((try clear hh_i4 h9 h10 hm h4 hh_i7 a1 a2 a3 a4 hh_i9 b1 b2 b3 b4 hh_i12 c1 c2 c3 c4); omega)⟩, by ((try clear hh_i4 h9 h10 hm h4 hh_i7 a1 a2 a3 a4 hh_i9 b1 b2 b3 b4 hh_i12 c1 c2 c3 c4); omega), ?_⟩
       refine callK_pure (with_tri (crS b j) b.length _ (by ((try clear hh_i4 h9 h10 hm h4 hh_i7 a1 a2 a3 a4 hh_i9 b1 b2 b3 b4 hh_i12 c1 c2 c3 c4); omega)) (by ((try clear hh_i4 h9 h10 hm h4 hh_i7 a1 a2 a3 a4 hh_i9 b1 b2 b3 b4 hh_i12 c1 c2 c3 c4); omega))) ?_
       simp only [vsAll, binA, binLitA, intA, loadA, loadRow, indexAddrA, cellA, cellsA, okAll, stAll, opsA, opA, newCells, okCells, storeObj, dstOk, Nat.reduceLT, Nat.reduceEqDiff, ↓reduceIte, eq_self, wtAll, dlF_at]
       rw [ed, Hp.set_set, Hp.set_set]
       refine ⟨⟨by ((try clear hh_i4 h9 h10 hm h4 hh_i7 a1 a2 a3 a4 hh_i9 b1 b2 b3 b4 hh_i12 c1 c2 c3 c4); omega), by ((try clear hh_i4 h9 h10 hm h4 hh_i7 a1 a2 a3 a4 hh_i9 b1 b2 b3 b4 hh_i12 c1 c2 c3 c4); omega)⟩, by ((try clear hh_i4 h9 h10 hm h4 hh_i7 a1 a2 a3 a4 hh_i9 b1 b2 b3 b4 hh_i12 c1 c2 c3 c4); omega), by simp only [InR_i64]; ((try clear hh_i4 h9 h10 hm h4 hh_i7 a1 a2 a3 a4 hh_i9 b1 b2 b3 b4 hh_i12 c1 c2 c3 c4); omega), ?_⟩
       refine callK_pure (htl _ (by simp only [vsAll, ↓reduceIte, eq_self, h9, a1, b1, c1]) (by simp only [vsAll, ↓reduceIte, eq_self, h10, a2, b2, c2]) (by simp only [vsAll, ↓reduceIte, eq_self, hm, a3, b3, c3])) ?_
       have ecd : decide (dV (dO g g.F g.A n (b ++ [(j : Int)])) = m) = decide (dO g g.F g.A n (b ++ [(j : Int)]) = some m) := decide_eq_decide.2 hde
       simp only [vsAll, binA, binLitA, intA, opA, dstOk, Nat.reduceLT, Nat.reduceEqDiff, ↓reduceIte, eq_self, ecd]
       refine condV (fun hc => ?_) (fun hc => ?_)
       ·rw [decide_eq_true_eq] at hc
        simp only [vsAll]
        refine vs_draw2 [0, 0, 0, 1, 0, 3, 5] [([0, 1, 2, 4], [4], 3), ([], [4], 5), ([], [], 6)] [] (by decide +kernel) ?_
        simp only [vsAll, binA, binLitA, intA, loadA, loadRow, cellA, cellsA, okParts, buildSliceA, partIdx, elemsA, lensA, partsA, partsOk, opA, storeObj, appendA, dstOk, nilSliceOp, Nat.reduceMul, Nat.reduceLT, Nat.reduceLeDiff, Nat.reduceEqDiff, Nat.reduceBEq, ↓reduceIte, eq_self, wtAll, hh_i9, hh_i12]
        have hgh := grd_hit hjs hc hj2
        have hlen : (b ++ [(j : Int)]).length = b.length + 1 := by simp
        refine ⟨fun q hq => by (have : q = 0 := by ((try clear hh_i4 h9 h10 hm h4 hh_i7 a1 a2 a3 a4 hh_i9 b1 b2 b3 b4 hh_i12 c1 c2 c3 c4); omega)); subst this; simp only [vsAll, cellA, okCells, eq_self], by ((try clear hh_i4 h9 h10 hm h4 hh_i7 a1 a2 a3 a4 hh_i9 b1 b2 b3 b4 hh_i12 c1 c2 c3 c4); omega), by ((try clear hh_i4 h9 h10 hm h4 hh_i7 a1 a2 a3 a4 hh_i9 b1 b2 b3 b4 hh_i12 c1 c2 c3 c4); omega), fun q hq => ⟨rfl, trivial⟩, by simp only [InR_i64]; ((try clear hh_i4 h9 h10 hm h4 hh_i7 a1 a2 a3 a4 hh_i9 b1 b2 b3 b4 hh_i12 c1 c2 c3 c4); omega), loop_next (b ++ [(j : Int)]) ⟨?_, ?_, ?_⟩ ?_ ?_ ?_⟩
        ·rw [hlen]; ((try clear hh_i4 h9 h10 hm h4 hh_i7 a1 a2 a3 a4 hh_i9 b1 b2 b3 b4 hh_i12 c1 c2 c3 c4); omega)
        ·rw [hlen, show g.N - (b.length + 1) = n by ((try clear hh_i4 h9 h10 hm h4 hh_i7 a1 a2 a3 a4 hh_i9 b1 b2 b3 b4 hh_i12 c1 c2 c3 c4); omega)]; exact hc
        ·rw [hlen, show g.N - (b.length + 1) = n by ((try clear hh_i4 h9 h10 hm h4 hh_i7 a1 a2 a3 a4 hh_i9 b1 b2 b3 b4 hh_i12 c1 c2 c3 c4); omega), ← hgh]; exact hb3
        ·rw [hlen]; ((try clear hh_i4 h9 h10 hm h4 hh_i7 a1 a2 a3 a4 hh_i9 b1 b2 b3 b4 hh_i12 c1 c2 c3 c4); omega)
        ·simp only [vsAll, Nat.reduceEqDiff, ↓reduceIte, eq_self, hlen, Int.natCast_add, Int.natCast_one]
         try exact AV.Le.refl _
        ·rw [hlen, app_ints b (j : Int) _ rfl]
         (repeat (first | exact HSub_rfl | refine HSub_put_eq (by simp only [vsAll, ↓reduceIte, eq_self, hh_i9]) ?_ | refine HSub_drop2 (by simp only [eq_self, hh_i7, hh_i9, hh_i12]) ?_ | refine HSub_keep_eq (by simp only [vsAll, ↓reduceIte, eq_self, reduceCtorEq, Nat.reduceEqDiff, hh_i4, h9, h10, hm, h4, hh_i7, a1, a2, a3, a4, hh_i9, b1, b2, b3, b4, hh_i12, c1, c2, c3, c4]) ?_))
       ·rw [decide_eq_false_iff_not] at hc
        simp only [vsAll, binA, binLitA, intA, opA, dstOk, Nat.reduceLT, Nat.reduceEqDiff, ↓reduceIte, eq_self]
        refine ⟨by simp only [InR_i64]; ((try clear hh_i4 h9 h10 hm h4 hh_i7 a1 a2 a3 a4 hh_i9 b1 b2 b3 b4 hh_i12 c1 c2 c3 c4); omega), loop_next (j + 1) ⟨by ((try clear hh_i4 h9 h10 hm h4 hh_i7 a1 a2 a3 a4 hh_i9 b1 b2 b3 b4 hh_i12 c1 c2 c3 c4); omega), fun d hd => ?_⟩ (by ((try clear hh_i4 h9 h10 hm h4 hh_i7 a1 a2 a3 a4 hh_i9 b1 b2 b3 b4 hh_i12 c1 c2 c3 c4); omega)) ?_ (by (repeat (first | exact HSub_rfl | refine HSub_put_eq (by simp only [vsAll, ↓reduceIte, eq_self, hh_i9, hh_i12]) ?_ | refine HSub_drop2 (by simp only [eq_self, hh_i7, hh_i9, hh_i12]) ?_ | refine HSub_keep_eq (by simp only [vsAll, ↓reduceIte, eq_self, reduceCtorEq, Nat.reduceEqDiff, hh_i4, h9, h10, hm, h4, hh_i7, a1, a2, a3, a4, hh_i9, b1, b2, b3, b4, hh_i12, c1, c2, c3, c4]) ?_)))⟩
        ·by_cases e : d = j
         ·subst e; exact hc
         ·exact hj2 d (by ((try clear hh_i4 h9 h10 hm h4 hh_i7 a1 a2 a3 a4 hh_i9 b1 b2 b3 b4 hh_i12 c1 c2 c3 c4); omega))
        ·simp only [vsAll, Nat.reduceEqDiff, ↓reduceIte, eq_self, Int.natCast_add, Int.natCast_one]
      ·have hjm : j = g.cw.length := by ((try clear hh_i4 h9 h10 hm h4 hh_i7 a1 a2 a3 a4 hh_i9 b1 b2 b3 b4); omega)
       subst hjm
       obtain ⟨c, hc, e⟩ := grd_ex hbs hb2
       exact absurd e (hj2 c hc)
    ·have hbl : b.length = g.N := by ((try clear hh_i4 h9 h10 hm h4 hh_i7 a1 a2 a3 a4 hh_i9 b1 b2 b3 b4); omega)
     have hbe : b = dealL g := by
      rw [hL, hH, ← hb3, hbl, Nat.sub_self]; rfl
     simp only [vsAll, loadA, loadRow, partA, partOk, cellA, cellsA, opA, newCells, okCells, storeObj, dstOk, nilSliceOp, resA, retA.eq_2, Nat.reduceLT, Nat.reduceEqDiff, Nat.reduceBEq, ↓reduceIte, eq_self, wtAll, Tryz.results21, h4, a4, b4]
     refine ⟨i4, _, rfl, by simp only [↓reduceIte, eq_self]; try rfl, ?_⟩
     refine ⟨H.set i9 (.row 1 (dealL g).length (intF (dealL g))), ?_, .inr ⟨hE, i9, hn9, by rw [hH, ← hbe], rfl⟩⟩
     rw [← hbe]
     exact HSub_put_eq (by simp only [vsAll, ↓reduceIte, eq_self, b4]) (HSub_drop2 hh_i4 (HSub_drop2 hn9 (HSub_drop2 hn7 hsubH)))
  ·rw [decide_eq_false_iff_not, hdv.2.2] at hr
   have hE : dealE g = 4 := by unfold dealE; rw [if_pos he, if_neg hr]
   simp only [vsAll, loadA, loadRow, partA, partOk, resA, retA.eq_2, Nat.reduceEqDiff, ↓reduceIte, eq_self, wtAll, Tryz.results21, h4, a4]
   refine ⟨4, i4, _, rfl, rfl, by simp only [↓reduceIte, h4, a4]; try rfl, ?_⟩
   simp only [vsAll, Nat.reduceLT, ↓reduceIte, eq_self]
   refine ⟨H, ?_, .inl ⟨by rw [hE]; decide, by rw [hE], rfl⟩⟩
   exact HSub_drop2 hh_i4 (HSub_drop2 hn7 hsubH)
theorem wdeal_tri (g : Gg) (H : Hp) (kn : NearG g) : PTri Tryz.prog (fnA 21) [g.av] H (.tuple [i64 (dealH g), intsAV (dealL g), i64 (dealE g)]) := by
 have h1 : Tri Tryz.prog (fnA 21) [g.av] H fun r H' => H' = H ∧ ((¬ dealE g = 0 ∧ r = .ret (.tuple [i64 0, .lit (.slice none 0 0), i64 (dealE g)])) ∨ r = .ret (.tuple [i64 (dealH g), intsAV (dealL g), i64 (dealE g)])) := by
  refine Tri.thaw (wdealM_tri g H kn) ?_
  rintro r H' (⟨h1, rfl, rfl⟩ | ⟨h1, id, hid, rfl, rfl⟩)
  ·exact .inl ⟨rfl, .inl ⟨h1, rfl⟩⟩
  ·right
   refine ⟨_, id, 1, _, _, 1, rfl, Hp.set_same _ _ _, by simp, rfl, set_del hid, .inr ?_⟩
   rw [h1]; rfl
 refine Tri.resLe h1 fun r H' h => ?_
 obtain ⟨rfl, ⟨h2, rfl⟩ | rfl⟩ := h
 ·right
  refine ⟨_, .tuple [i64 (dealH g), intsAV (dealL g), i64 (dealE g)], rfl, AV.Le.tupleD rfl fun j hj => ?_, rfl, rfl⟩
  have e1 : dealH g = 0 := if_neg h2
  have e2 : dealL g = [] := if_neg h2
  rw [e1, e2]
  match j, hj with
  | 0, _ => exact AV.Le.refl _
  | 1, _ => exact AV.Le.nil _ _
  | 2, _ => exact AV.Le.refl _
 ·exact .inl ⟨rfl, rfl⟩
end Go.Proofs.YtdopkbldjagmlaaGreat
end
section
set_option linter.unusedVariables false
set_option linter.unusedSimpArgs false
set_option maxHeartbeats 4000000
set_option maxRecDepth 100000
namespace Go.Proofs.YtdopkbldjagmlaaGreat
open Go.V
def hotN (g : Gg) (i : Nat) : List Int := (List.range i).map fun i => ((hotV g.pt true i ((bestP g.pt).getD i (0, 0)).2.toNat : Nat) : Int)
end Go.Proofs.YtdopkbldjagmlaaGreat
end
section
set_option linter.unusedVariables false
set_option linter.unusedSimpArgs false
set_option maxHeartbeats 4000000
set_option maxRecDepth 100000
namespace Go.Proofs.YtdopkbldjagmlaaGreat
open Go.V
def dnN (g : Gg) (sp : Int) (l : List Int) (i : Nat) : List Int := (List.range i).map fun j => donN g sp l (j + 1)
end Go.Proofs.YtdopkbldjagmlaaGreat
end
section
set_option linter.unusedVariables false
set_option linter.unusedSimpArgs false
set_option maxHeartbeats 4000000
set_option maxRecDepth 100000
namespace Go.Proofs.YtdopkbldjagmlaaGreat
open Go.V
def rwsD (g : Gg) (c S n : Nat) (b : List Int) : List (List Int) := if rgtB g c b = true then rws g c S n b else []
def rwsG (g : Gg) (c S n : Nat) (b : List Int) (i : Nat) : List (List Int) := (List.range i).flatMap fun j : Nat => if (S.testBit j && !b.contains (j : Int)) = true then rwsD g c S n (b ++ [(j : Int)]) else []
theorem rws_G (g : Gg) (c S n : Nat) (b : List Int) : rws g c S (n + 1) b = rwsG g c S n b g.N := by
 simp only [rws, rwsG]
 congr 1
 funext j
 unfold goR rwsD
 cases S.testBit j <;> cases b.contains (j : Int) <;> cases rgtB g c (b ++ [(j : Int)]) <;> rfl
theorem rwsG_succ (g : Gg) (c S n : Nat) (b : List Int) (i : Nat) : rwsG g c S n b (i + 1) = rwsG g c S n b i ++ if (S.testBit i && !b.contains (i : Int)) = true then rwsD g c S n (b ++ [(i : Int)]) else [] := by
 simp only [rwsG, List.range_succ, List.flatMap_append, List.flatMap_cons, List.flatMap_nil, List.append_nil]
theorem posV_neg (l : List Int) (n : Int) : decide (posV l n < 0) = !l.contains n := by
 by_cases h : n ∈ l
 ·obtain ⟨i, hi, e⟩ := getD_mem 0 h
  have hx : ∃ i, i < l.length ∧ l.getD i 0 = n := ⟨i, hi, e⟩
  have hc : l.contains n = true := by rw [List.contains_iff_mem]; exact h
  have hp : 0 ≤ posV l n := by
   unfold posV
   cases hf : (List.range l.length).find? fun i => decide (l.getD i 0 = n) with
   | some j => exact Int.natCast_nonneg _
   | none =>
     rw [List.find?_eq_none] at hf
     exact absurd (decide_eq_true e) (hf i (List.mem_range.2 hi))
  rw [hc, decide_eq_false (by omega)]; rfl
 ·have hc : l.contains n = false := by rw [← Bool.not_eq_true, List.contains_iff_mem]; exact h
  have hp := posV_none (l := l) (n := n) fun j hj e => h (e ▸ mem_getD l j 0 hj)
  rw [hc, hp]; rfl
theorem cp_int (b : List Int) (x : Int) (q : Nat) (hq : q < b.length + 1) : appF b.length 1 (appF 0 b.length (fun _ => []) (intF b)) (fun i => [[i64 x]].getD i []) q = intF (b ++ [x]) q := by
 rw [← app_ints b x (fun i => [[i64 x]].getD i []) rfl]
 by_cases e : q < b.length
 ·rw [appF_at (by omega), if_pos e, appF_at (by omega), if_neg (by omega), Nat.sub_zero, appF_at (by omega), if_pos e]
 ·rw [appF_at (by omega), if_neg e, appF_at (by omega), if_neg e]
def rwR (g : Gg) (c S n : Nat) (b : List Int) (id : Nat) (O : List (List Int)) (H : Hp) : Res → Hp → Prop := fun r H' =>
 r = .ret (.sl id 1 (O ++ rwsD g c S n b).length) ∧ H' = H.set id (.row 1 (O ++ rwsD g c S n b).length (llF (O ++ rwsD g c S n b)))
end Go.Proofs.YtdopkbldjagmlaaGreat
end
section
set_option linter.unusedVariables false
set_option linter.unusedSimpArgs false
set_option maxHeartbeats 4000000
set_option maxRecDepth 100000
namespace Go.Proofs.YtdopkbldjagmlaaGreat
open Go.V
theorem rowsD_eq (g : Gg) (c S : Nat) : rwsD g c S (pop S) [] = rowsL g c S := if_pos (rgt_nil g c)
def endD (g : Gg) (c S : Nat) : Int := (endO g c S).getD (-1)
def tabN (g : Gg) (c i : Nat) : List Int := (List.range i).map fun S => endD g c S
def tabL (g : Gg) (i : Nat) : List (List Int) := (List.range i).map fun c => tabN g c (2 ^ g.N)
def tabD (g : Gg) : List (List Int) := tabL g g.cw.length
end Go.Proofs.YtdopkbldjagmlaaGreat
end
section
set_option linter.unusedVariables false
set_option linter.unusedSimpArgs false
set_option maxHeartbeats 1000000
set_option maxRecDepth 100000
namespace Go.Proofs.YtdopkbldjagmlaaGreat
open Go.V
def enoE (g : Gg) : Int := setE (errG g true) (fewV (genB g) g.cw.length)
def enoV (g : Gg) : Nat := setV (errG g true) (fewV (genB g) g.cw.length)
theorem wenough_tri (g : Gg) (H : Hp) (kn : NearG g) : PTri Tryz.prog (fnA 23) [g.av] H (.tuple [i64 (enoV g : Nat), i64 (enoE g)]) := by
 refine Tri.drop ?_
 refine tri_am (m := fun _ => false) gans Tryz.func23 (by kernel_rfl) rfl (by simp only [List.length_append, List.length_cons, List.length_nil, Tryz.ntmps23]; decide) ?_
 simp only [vsAll, loadA, loadRow, partA, partOk, boxA, boxZ, okAll, stAll, opsA, opA, allocA, dstOk, nilSliceOp, argFr, Nat.reduceAdd, Nat.reduceLT, Nat.reduceEqDiff, ↓reduceIte, eq_self, wtAll, Tryz.ntmps23]
 intro i3 hh_i3; (try simp only [Hp.set_none, ite_none] at hh_i3)
 refine gopen_call (openG_tri g _ true _ kn trivial rfl (fun k H' id ho => galways_tri (.ref id 0 8 0 0) H' id)) (fun he => ?_) (fun k hv => ?_)
 ·obtain ⟨e1, e2⟩ := setV_no (r := fewV (genB g) g.cw.length) he
  have e1' : enoE g = errG g true := e1
  have e2' : enoV g = 0 := e2
  simp only [vsAll, loadA, loadRow, partA, partOk, resA, retA.eq_2, Nat.reduceEqDiff, ↓reduceIte, eq_self, wtAll, Tryz.results23]
  refine ⟨errG g true, i3, _, rfl, rfl, by simp only [↓reduceIte, eq_self]; try rfl, ?_⟩
  simp only [vsAll, Nat.reduceLT, ↓reduceIte, eq_self]
  refine dropR_pure ?_ (by (repeat (first | exact HSub_rfl | refine HSub_put_eq (by simp only [vsAll, ↓reduceIte, eq_self, reduceCtorEq, Nat.reduceEqDiff, hh_i3]) ?_ | refine HSub_drop2 (by simp only [eq_self, hh_i3]) ?_ | refine HSub_keep_eq (by simp only [vsAll, ↓reduceIte, eq_self, reduceCtorEq, Nat.reduceEqDiff, hh_i3]) ?_)))
  simp only [eq_self, e1', e2', Int.natCast_zero]
 ·have he : errG g true = 0 := errG_ok k
  have nC := k.nC
  have nS := k.nS
  simp only [vsAll, loadA, loadRow, partA, partOk, cellA, cellsA, okAll, stAll, opsA, opA, allocA, newCells, okCells, storeObj, dstOk, Nat.reduceLT, Nat.reduceEqDiff, ↓reduceIte, eq_self, wtAll]
  intro i4 hh_i4; (try simp only [ite_none] at hh_i4)
  refine callK_pure (tables_tri g _ k) ?_
  simp only [vsAll, loadA, loadRow, partA, partOk, fieldAddrA, lenA, nilCheckA, cellA, cellsA, okAll, stAll, opsA, opA, allocA, newCells, okCells, storeObj, dstOk, Nat.reduceLT, Nat.reduceEqDiff, ↓reduceIte, eq_self, wtAll]
  intro i5 hh_i5; (try simp only [ite_none] at hh_i5)
  simp only [vsAll, Nat.reduceLT, ↓reduceIte, eq_self, hh_i5]
  rw [Hp.set_set, Hp.set_set]
  refine callK_pure (gfew_tri (genB g) g.cw.length _ _ (by ((try clear hh_i3 hh_i4 hh_i5); omega)) trivial rfl fun j hj => enough1_tri g j i4 i5 _ k (lt5 hj (by ((try clear hh_i3 hh_i4 hh_i5); omega))) (by simp only [vsAll, ↓reduceIte, eq_self, hh_i5]) (by simp only [vsAll, ↓reduceIte, eq_self])) ?_
  have hlt := fewV_lt (genB g) g.cw.length
  have h32 := lt5 hlt (by ((try clear hh_i3 hh_i4 hh_i5); omega))
  unfold enoV enoE
  rw [he]
  generalize fewV (genB g) g.cw.length = r at h32 ⊢
  simp only [vsAll, extractA, okAll, stAll, opsA, opA, dstOk, nilSliceOp, Nat.reduceAdd, Nat.reduceLT, Nat.reduceEqDiff, ↓reduceIte, eq_self]
  refine gask_call (fun hr => ?_) (fun hr => ?_)
  ·obtain ⟨e1, e2⟩ := setV_some hr
   rw [e1, e2]
   simp only [vsAll, loadA, loadRow, partA, partOk, cellA, cellsA, convA, opA, newCells, okCells, storeObj, dstOk, nilSliceOp, resA, retA.eq_2, Nat.reduceLT, Nat.reduceEqDiff, ↓reduceIte, eq_self, wtAll, Tryz.results23, hh_i4, hh_i5]
   refine ⟨by simp only [InR_i64]; ((try clear hh_i3 hh_i4 hh_i5); omega), i3, _, rfl, by simp only [↓reduceIte, eq_self]; try rfl, dropR_pure rfl (by (repeat (first | exact HSub_rfl | refine HSub_put_eq (by simp only [vsAll, ↓reduceIte, eq_self, reduceCtorEq, Nat.reduceEqDiff, hh_i3, hh_i4, hh_i5]) ?_ | refine HSub_drop2 (by simp only [eq_self, hh_i3, hh_i4, hh_i5]) ?_ | refine HSub_keep_eq (by simp only [vsAll, ↓reduceIte, eq_self, reduceCtorEq, Nat.reduceEqDiff, hh_i3, hh_i4, hh_i5]) ?_)))⟩
  ·obtain ⟨e1, e2⟩ := setV_none hr
   rw [e1, e2]
   simp only [vsAll, loadA, loadRow, partA, partOk, resA, retA.eq_2, Nat.reduceEqDiff, ↓reduceIte, eq_self, wtAll, Tryz.results23, hh_i4, hh_i5]
   refine ⟨4, i3, _, rfl, rfl, by simp only [↓reduceIte, eq_self, hh_i4, hh_i5]; try rfl, ?_⟩
   simp only [vsAll, Nat.reduceLT, ↓reduceIte, eq_self]
   exact dropR_pure rfl (by (repeat (first | exact HSub_rfl | refine HSub_put_eq (by simp only [vsAll, ↓reduceIte, eq_self, reduceCtorEq, Nat.reduceEqDiff, hh_i3, hh_i4, hh_i5]) ?_ | refine HSub_drop2 (by simp only [eq_self, hh_i3, hh_i4, hh_i5]) ?_ | refine HSub_keep_eq (by simp only [vsAll, ↓reduceIte, eq_self, reduceCtorEq, Nat.reduceEqDiff, hh_i3, hh_i4, hh_i5]) ?_)))
def leaE (g : Gg) : Int := errG g true
def leaV (g : Gg) : Nat := if leaE g = 0 then (fewV (leaB g) g.N).getD 0 else 0
theorem wleave_tri (g : Gg) (H : Hp) (kn : NearG g) : PTri Tryz.prog (fnA 25) [g.av] H (.tuple [i64 (leaV g : Nat), i64 (leaE g)]) := by
 refine Tri.drop ?_
 refine tri_am (m := fun _ => false) gans Tryz.func25 (by kernel_rfl) rfl (by simp only [List.length_append, List.length_cons, List.length_nil, Tryz.ntmps25]; decide) ?_
 simp only [vsAll, loadA, loadRow, partA, partOk, boxA, boxZ, okAll, stAll, opsA, opA, allocA, dstOk, nilSliceOp, argFr, Nat.reduceAdd, Nat.reduceLT, Nat.reduceEqDiff, ↓reduceIte, eq_self, wtAll, Tryz.ntmps25]
 intro i3 hh_i3; (try simp only [Hp.set_none, ite_none] at hh_i3)
 refine gopen_call (openG_tri g _ true _ kn trivial rfl (fun k H' id ho => galways_tri (.ref id 0 8 0 0) H' id)) (fun he => ?_) (fun k hv => ?_)
 ·have e1' : leaE g = errG g true := rfl
  have e2' : leaV g = 0 := if_neg he
  simp only [vsAll, loadA, loadRow, partA, partOk, resA, retA.eq_2, Nat.reduceEqDiff, ↓reduceIte, eq_self, wtAll, Tryz.results25]
  refine ⟨errG g true, i3, _, rfl, rfl, by simp only [↓reduceIte, eq_self]; try rfl, ?_⟩
  simp only [vsAll, Nat.reduceLT, ↓reduceIte, eq_self]
  refine dropR_pure ?_ (by (repeat (first | exact HSub_rfl | refine HSub_put_eq (by simp only [vsAll, ↓reduceIte, eq_self, reduceCtorEq, Nat.reduceEqDiff, hh_i3]) ?_ | refine HSub_drop2 (by simp only [eq_self, hh_i3]) ?_ | refine HSub_keep_eq (by simp only [vsAll, ↓reduceIte, eq_self, reduceCtorEq, Nat.reduceEqDiff, hh_i3]) ?_)))
  simp only [eq_self, e1', e2', Int.natCast_zero]
 ·have he : errG g true = 0 := errG_ok k
  have nC := k.nC
  have nS := k.nS
  have hN : g.N ≤ 5 := nS
  have hNe : g.sm.length = g.N := rfl
  have eV : leaV g = (fewV (leaB g) g.N).getD 0 := if_pos he
  have eE : leaE g = 0 := he
  simp only [vsAll, loadA, loadRow, partA, partOk, cellA, cellsA, okAll, stAll, opsA, opA, allocA, newCells, okCells, storeObj, dstOk, Nat.reduceLT, Nat.reduceEqDiff, ↓reduceIte, eq_self, wtAll]
  intro i4 hh_i4; (try simp only [ite_none] at hh_i4)
  refine callK_pure (tables_tri g _ k) ?_
  simp only [vsAll, loadA, loadRow, partA, partOk, fieldAddrA, lenA, nilCheckA, cellA, cellsA, okAll, stAll, opsA, opA, allocA, newCells, okCells, storeObj, dstOk, Nat.reduceLT, Nat.reduceEqDiff, ↓reduceIte, eq_self, wtAll]
  intro i5 hh_i5; (try simp only [ite_none] at hh_i5)
  simp only [vsAll, Nat.reduceLT, ↓reduceIte, eq_self, hh_i5]
  refine callK_pure (every_tri g.sm.length _ nS) ?_
  have eF : 2 ^ g.sm.length - 1 = g.F := rfl
  rw [eF]
  simp only [vsAll, loadA, loadRow, partA, partOk, fieldAddrA, lenA, nilCheckA, cellA, cellsA, okAll, stAll, opsA, opA, allocA, newCells, okCells, storeObj, dstOk, Nat.reduceLT, Nat.reduceEqDiff, ↓reduceIte, eq_self, wtAll, hh_i5]
  intro i6 hh_i6; (try simp only [ite_none] at hh_i6)
  simp only [vsAll, Nat.reduceLT, ↓reduceIte, eq_self, hh_i6, hNe]
  rw [Hp.set_set, Hp.set_set, Hp.set_set]
  refine callK_pure (gfew_tri (leaB g) g.N _ _ (by ((try clear hh_i3 hh_i4 hh_i5 hh_i6); omega)) trivial rfl fun j hj => leave1_tri g j i4 i6 i5 _ k (lt5 hj (by ((try clear hh_i3 hh_i4 hh_i5 hh_i6); omega))) (by simp only [vsAll, ↓reduceIte, eq_self, hh_i5, hh_i6]) (by simp only [vsAll, ↓reduceIte, eq_self]) (by simp only [vsAll, ↓reduceIte, eq_self, hh_i6])) ?_
  have hlt := fewV_lt (leaB g) g.N
  have h32 := lt5 hlt (by ((try clear hh_i3 hh_i4 hh_i5 hh_i6); omega))
  rw [eV, eE]
  generalize fewV (leaB g) g.N = r at h32 ⊢
  simp only [vsAll, loadA, loadRow, partA, partOk, extractA, cellA, cellsA, convA, opA, newCells, okCells, storeObj, dstOk, nilSliceOp, resA, retA.eq_2, Nat.reduceAdd, Nat.reduceLT, Nat.reduceEqDiff, ↓reduceIte, eq_self, wtAll, Tryz.results25, hh_i4, hh_i5, hh_i6]
  refine ⟨by simp only [InR_i64]; ((try clear hh_i3 hh_i4 hh_i5 hh_i6); omega), i3, _, rfl, by simp only [↓reduceIte, eq_self]; try rfl, dropR_pure rfl (by (repeat (first | exact HSub_rfl | refine HSub_put_eq (by simp only [vsAll, ↓reduceIte, eq_self, reduceCtorEq, Nat.reduceEqDiff, hh_i3, hh_i4, hh_i5, hh_i6]) ?_ | refine HSub_drop2 (by simp only [eq_self, hh_i3, hh_i4, hh_i5, hh_i6]) ?_ | refine HSub_keep_eq (by simp only [vsAll, ↓reduceIte, eq_self, reduceCtorEq, Nat.reduceEqDiff, hh_i3, hh_i4, hh_i5, hh_i6]) ?_)))⟩
end Go.Proofs.YtdopkbldjagmlaaGreat
end
section
set_option linter.unusedVariables false
set_option linter.unusedSimpArgs false
set_option maxHeartbeats 1000000
set_option maxRecDepth 100000
namespace Go.Proofs.YtdopkbldjagmlaaGreat
open Go.V
def stsN (g : Gg) (c i : Nat) : List Int := ((List.range i).filter fun S => (endO g c S).isSome).map fun S : Nat => (S : Int)
theorem stsN_yes {g : Gg} {c i : Nat} (h : (endO g c i).isSome = true) : stsN g c (i + 1) = stsN g c i ++ [(i : Int)] := by
 simp [stsN, List.range_succ, List.filter_append, h]
theorem stsN_no {g : Gg} {c i : Nat} (h : (endO g c i).isSome = false) : stsN g c (i + 1) = stsN g c i := by
 simp [stsN, List.range_succ, List.filter_append, h]
theorem stsN_len (g : Gg) (c i : Nat) : (stsN g c i).length ≤ i := by
 have := List.length_filter_le (fun S => (endO g c S).isSome) (List.range i)
 simpa [stsN] using this
def setsE (g : Gg) (c : Int) : Int := errG g (isCw g c)
def setsV (g : Gg) (c : Int) : List Int := if setsE g c = 0 then stsN g c.toNat (2 ^ g.N) else []
def setsR (g : Gg) (c : Int) (H : Hp) : Res → Hp → Prop := fun r H' => ∃ id, H id = none ∧ r = .ret (.tuple [.sl id 1 (setsV g c).length, i64 (setsE g c)]) ∧ H' = H.set id (.row 1 (setsV g c).length (intF (setsV g c)))
theorem wsetsM_tri (g : Gg) (c : Int) (H : Hp) (kn : NearG g) : Tri Tryz.prog (fnA 18) [g.av, i64 c] H (setsR g c H) := by
 refine Tri.drop ?_
 refine tri_am (m := mset [4]) gans Tryz.func18 (by kernel_rfl) rfl (by simp only [List.length_append, List.length_cons, List.length_nil, Tryz.ntmps18]; decide) ?_
 simp only [vsAll, loadA, loadRow, partA, partOk, boxA, boxZ, cellA, okAll, stAll, opsA, opA, allocA, dstOk, argFr, Nat.reduceAdd, Nat.reduceLT, Nat.reduceEqDiff, Nat.reduceBEq, ↓reduceIte, eq_self, wtAll, Tryz.ntmps18, Go.V.nilA]
 intro i4 hh_i4; (try simp only [Hp.set_none, ite_none] at hh_i4); intro i5 hh_i5; (try simp only [ite_none] at hh_i5)
 refine gopen_call (openG_tri g _ (isCw g c) _ kn trivial rfl (fun k H' id ho => sets1_tri g c id H' kn ho)) (fun he => ?_) (fun k hv => ?_)
 ·have e : setsE g c = errG g (isCw g c) := rfl
  have e2 : setsV g c = [] := if_neg he
  simp only [vsAll, loadA, loadRow, partA, partOk, resA, retA.eq_2, Nat.reduceEqDiff, ↓reduceIte, eq_self, wtAll, Tryz.results18]
  refine ⟨errG g (isCw g c), i5, _, rfl, rfl, by simp only [↓reduceIte, eq_self]; try rfl, ?_⟩
  simp only [vsAll, Nat.reduceLT, ↓reduceIte, eq_self]
  refine ⟨_, ?_, i4, hh_i4, by simp only [vsAll, eq_self, e2, e]; try rfl, rfl⟩
  rw [e2]
  refine HSub_put (o' := .row 1 0 fun _ => []) (by simp only [vsAll, ↓reduceIte, eq_self, hh_i5]) (row0_le _ _ _) ?_
  (repeat (first | exact HSub_rfl | refine HSub_put_eq (by simp only [vsAll, ↓reduceIte, eq_self, reduceCtorEq, Nat.reduceEqDiff, hh_i4, hh_i5]) ?_ | refine HSub_drop2 (by simp only [eq_self, hh_i4, hh_i5]) ?_ | refine HSub_keep_eq (by simp only [vsAll, ↓reduceIte, eq_self, reduceCtorEq, Nat.reduceEqDiff, hh_i4, hh_i5]) ?_))
 ·have he : setsE g c = 0 := by unfold setsE; rw [hv]; exact errG_ok k
  rw [isCw_iff] at hv
  obtain ⟨c, rfl⟩ : ∃ n : Nat, c = (n : Int) := ⟨c.toNat, by ((try clear hh_i4 hh_i5); omega)⟩
  have hc : c < g.cw.length := by ((try clear hh_i4 hh_i5); omega)
  have ev : setsV g (c : Int) = stsN g c (2 ^ g.N) := by unfold setsV; rw [if_pos he, Int.toNat_natCast]
  have hN : g.N ≤ 5 := k.nS
  have nS := k.nS
  have hNe : g.N = g.sm.length := rfl
  have hpw : 2 ^ g.N ≤ 2 ^ 5 := Nat.pow_le_pow_right (by ((try clear hh_i4 hh_i5); omega)) hN
  have ep : (1 : Int) * 2 ^ g.sm.length = ((2 ^ g.N : Nat) : Int) := by rw [Int.one_mul]; simp [Gg.N]
  simp only [vsAll, loadA, loadRow, partA, partOk, okAll, stAll, opsA, opA, dstOk, nilSliceOp, Nat.reduceLT, Nat.reduceEqDiff, Nat.reduceBEq, ↓reduceIte, eq_self, wtAll]
  refine callK_pure (table_tri g c _ k hc) ?_
  simp only [vsAll, binA, binLitA, intA, loadA, loadRow, partA, partOk, fieldAddrA, lenA, nilCheckA, opA, allocA, storeObj, dstOk, Nat.reduceMul, Nat.reduceLT, Nat.reduceEqDiff, ↓reduceIte, eq_self, wtAll, ep]
  intro i7 hh_i7; (try simp only [ite_none] at hh_i7)
  have eta : ∀ i, i < 2 ^ g.N → tabF g c i = [i64 (tabV g c i)] := fun i hi => tF_at g c _ _ hi
  generalize hM : 2 ^ g.N = M at hpw eta ev ep ⊢
  refine ⟨fun q _ => tF_ok g c _ _ q, ⟨by ((try clear hh_i4 hh_i5 hh_i7); omega), by ((try clear hh_i4 hh_i5 hh_i7); omega), by simp only [InR_i64]; ((try clear hh_i4 hh_i5 hh_i7); omega)⟩, ?_⟩
  rw [Hp.set_set]
  have hlen := fun i => stsN_len g c i
  refine vs_loop (σ := Nat) (fun i => i ≤ M) (fun i => [(4, .sl i4 1 (stsN g c i).length), (5, .ref i5 0 1 0 0), (7, .ref i7 0 1 0 0), (21, i64 M), (22, i64 i)]) (fun i => ((H.set i4 (.row 1 (stsN g c i).length (intF (stsN g c i)))).set i5 (.box 1 1 fun _ => [i64 0])).set i7 (.box 1 32 (tabF g c))) (fun i => M - i) 0 (Nat.zero_le _) ?_ ?_ fun i hi => ?_
  ·simp only [vsAll, Nat.reduceEqDiff, ↓reduceIte, eq_self, Int.natCast_zero]
   try exact AV.Le.refl _
  ·show Go.V.HSub _ (((H.set i4 (.row 1 0 (intF []))).set i5 (.box 1 1 fun _ => [i64 0])).set i7 (.box 1 32 (tabF g c)))
   refine HSub_put_eq (by simp only [vsAll, ↓reduceIte, eq_self]) ?_
   refine HSub_put_eq (by simp only [vsAll, ↓reduceIte, eq_self, hh_i7]) ?_
   refine HSub_put (o' := .row 1 0 fun _ => []) (by simp only [vsAll, ↓reduceIte, eq_self, hh_i5, hh_i7]) (row0_le _ _ _) ?_
   (repeat (first | exact HSub_rfl | refine HSub_put_eq (by simp only [vsAll, ↓reduceIte, eq_self, reduceCtorEq, Nat.reduceEqDiff, hh_i4, hh_i5, hh_i7]) ?_ | refine HSub_drop2 (by simp only [eq_self, hh_i4, hh_i5, hh_i7]) ?_ | refine HSub_keep_eq (by simp only [vsAll, ↓reduceIte, eq_self, reduceCtorEq, Nat.reduceEqDiff, hh_i4, hh_i5, hh_i7]) ?_))
  ·simp only [vsAll, binA, binLitA, intA, opA, dstOk, Nat.reduceLT, Nat.reduceEqDiff, ↓reduceIte, eq_self]
   refine condD (fun hd => ?_) (fun hd => ?_)
   ·have his : i < M := by ((try clear hh_i4 hh_i5 hh_i7); omega)
    have e1 := eta i his
    have htl := tab_le k hc (S := i) (by ((try clear hh_i4 hh_i5 hh_i7); omega))
    simp only [vsAll, binA, binLitA, intA, loadA, loadRow, partA, partOk, indexAddrA, opA, dstOk, nilSliceOp, Nat.reduceLT, Nat.reduceEqDiff, Nat.reduceBEq, ↓reduceIte, eq_self, wtAll, e1]
    refine ⟨⟨by ((try clear hh_i4 hh_i5 hh_i7); omega), by ((try clear hh_i4 hh_i5 hh_i7); omega)⟩, by ((try clear hh_i4 hh_i5 hh_i7); omega), ?_⟩
    refine condV (fun hc1 => ?_) (fun hc1 => ?_)
    ·rw [decide_eq_true_eq, htl.2.2] at hc1
     have es := stsN_yes hc1
     have hl := hlen i
     have el : (stsN g c (i + 1)).length = (stsN g c i).length + 1 := by rw [es]; simp
     simp only [vsAll, binA, binLitA, intA, cellA, cellsA, okParts, buildSliceA, partIdx, elemsA, lensA, partsA, partsOk, opA, appendA, dstOk, nilSliceOp, Nat.reduceMul, Nat.reduceLT, Nat.reduceLeDiff, Nat.reduceEqDiff, Nat.reduceBEq, ↓reduceIte, eq_self, wtAll, hh_i5, hh_i7]
     refine ⟨fun q hq => by (have : q = 0 := by ((try clear hh_i4 hh_i5 hh_i7); omega)); subst this; simp only [vsAll, cellA, okCells, eq_self], by ((try clear hh_i4 hh_i5 hh_i7); omega), by ((try clear hh_i4 hh_i5 hh_i7); omega), by simp only [InR_i64]; ((try clear hh_i4 hh_i5 hh_i7); omega), loop_next (i + 1) (by ((try clear hh_i4 hh_i5 hh_i7); omega)) (by ((try clear hh_i4 hh_i5 hh_i7); omega)) ?_ ?_⟩
     ·simp only [vsAll, Nat.reduceEqDiff, ↓reduceIte, eq_self, el, Int.natCast_add, Int.natCast_one]
      try exact AV.Le.refl _
     ·rw [el, es, app_ints (stsN g c i) (i : Int) _ rfl]
      (repeat (first | exact HSub_rfl | refine HSub_put_eq (by simp only [vsAll, ↓reduceIte, eq_self, hh_i5, hh_i7]) ?_ | refine HSub_drop2 (by simp only [eq_self, hh_i4, hh_i5, hh_i7]) ?_ | refine HSub_keep_eq (by simp only [vsAll, ↓reduceIte, eq_self, reduceCtorEq, Nat.reduceEqDiff, hh_i4, hh_i5, hh_i7]) ?_))
    ·rw [decide_eq_false_iff_not, htl.2.2, Bool.not_eq_true] at hc1
     have es := stsN_no hc1
     simp only [vsAll, binA, binLitA, intA, opA, dstOk, Nat.reduceLT, Nat.reduceEqDiff, ↓reduceIte, eq_self]
     refine ⟨by simp only [InR_i64]; ((try clear hh_i4 hh_i5 hh_i7); omega), loop_next (i + 1) (by ((try clear hh_i4 hh_i5 hh_i7); omega)) (by ((try clear hh_i4 hh_i5 hh_i7); omega)) ?_ ?_⟩
     ·simp only [vsAll, Nat.reduceEqDiff, ↓reduceIte, eq_self, es, Int.natCast_add, Int.natCast_one]
      try exact AV.Le.refl _
     ·rw [es]; exact HSub_rfl
   ·have ei : i = M := by ((try clear hh_i4 hh_i5 hh_i7); omega)
    subst ei
    simp only [vsAll, loadA, loadRow, partA, partOk, cellA, cellsA, opA, newCells, okCells, storeObj, dstOk, nilSliceOp, resA, retA.eq_2, Nat.reduceLT, Nat.reduceEqDiff, Nat.reduceBEq, ↓reduceIte, eq_self, wtAll, Tryz.results18, hh_i7]
    refine ⟨i5, _, rfl, by simp only [↓reduceIte, eq_self]; try rfl, ?_⟩
    refine ⟨H.set i4 (.row 1 (setsV g c).length (intF (setsV g c))), ?_, i4, hh_i4, by rw [ev, he], rfl⟩
    rw [ev]
    (repeat (first | exact HSub_rfl | refine HSub_put_eq (by simp only [vsAll, ↓reduceIte, eq_self, hh_i5, hh_i7]) ?_ | refine HSub_drop2 (by simp only [eq_self, hh_i4, hh_i5, hh_i7]) ?_ | refine HSub_keep_eq (by simp only [vsAll, ↓reduceIte, eq_self, reduceCtorEq, Nat.reduceEqDiff, hh_i4, hh_i5, hh_i7]) ?_))
theorem wsets_tri (g : Gg) (c : Int) (H : Hp) (kn : NearG g) : PTri Tryz.prog (fnA 18) [g.av, i64 c] H (.tuple [intsAV (setsV g c), i64 (setsE g c)]) := by
 refine Tri.thaw (wsetsM_tri g c H kn) ?_
 rintro r H' ⟨id, hid, rfl, rfl⟩
 right
 exact ⟨_, id, 1, _, _, 0, rfl, Hp.set_same _ _ _, by simp, rfl, rfl, set_del hid⟩
end Go.Proofs.YtdopkbldjagmlaaGreat
end
section
set_option linter.unusedVariables false
set_option linter.unusedSimpArgs false
set_option maxRecDepth 100000
namespace Go.Proofs.YtdopkbldjagmlaaGreat
open Go.V
def smG (f : Int) : Gg := ⟨[⟨20, 2, 12, -1⟩, ⟨12, 0, f, 0⟩, ⟨9, 3, 12, 1⟩], [⟨5, 6, 7⟩, ⟨4, 4, 6⟩], ⟨8, 1, 16, [4, 0], [⟨4, 0, 8⟩, ⟨6, 0, 8⟩]⟩⟩
theorem sm_ok : OkG (smG 10) := by decide +kernel
theorem sm_ok8 : OkG (smG 8) := by decide +kernel
theorem sm1 : readyV (smG 10) 1 = 6 := by decide +kernel
theorem sm2 : readyE (smG 10) 1 = 0 := by decide +kernel
theorem sm3 : rowV (smG 10) 0 [0, 1, 2] = [(6, 6), (8, 9), (10, 11)] := by decide +kernel
theorem sm4 : rowE (smG 10) 0 [0, 1, 2] = 0 := by decide +kernel
theorem sm5 : chkV (smG 10) 0 [1, 0] = 0 := by decide +kernel
theorem sm6 : chkE (smG 10) 0 [1, 0] = 0 := by decide +kernel
theorem sm7 : canV (smG 10) 1 6 = [1, 2] := by decide +kernel
theorem sm8 : canE (smG 10) 1 6 = 0 := by decide +kernel
theorem sm9 : setsV (smG 10) 1 = [0, 2, 4, 6] := by decide +kernel
theorem sm10 : setsE (smG 10) 1 = 0 := by decide +kernel
theorem sm11 : dealH (smG 10) = 9 := by decide +kernel
theorem sm12 : dealL (smG 10) = [0, 0, 1] := by decide +kernel
theorem sm13 : dealE (smG 10) = 0 := by decide +kernel
theorem sm14 : enoV (smG 10) = 1 := by decide +kernel
theorem sm15 : enoE (smG 10) = 0 := by decide +kernel
theorem sm16 : leaV (smG 8) = 2 := by decide +kernel
theorem sm17 : leaE (smG 8) = 0 := by decide +kernel
theorem sm18 : canV (smG 10) 0 7 = [0, 1, 2] := by decide +kernel
theorem sm19 : canE (smG 10) 0 7 = 0 := by decide +kernel
end Go.Proofs.YtdopkbldjagmlaaGreat
end
section
set_option linter.unusedVariables false
set_option linter.unusedSimpArgs false
set_option maxHeartbeats 2000000
set_option maxRecDepth 100000
namespace Go.Proofs.YtdopkbldjagmlaaGreat
open Go.V
theorem gints_tri (a b : List Int) (H : Hp) (ha : a.length < 2 ^ 60) (hb : b.length < 2 ^ 60) : PTri Tryz.prog (fnA 20) [intsAV a, intsAV b] H (boo (decide (a = b))) := by
 refine tri_v0 (fun _ => false) Tryz.func20 (by kernel_rfl) rfl (by simp only [List.length_append, List.length_cons, List.length_nil, Tryz.ntmps20]; decide) ?_
 simp only [vsAll, binA, binLitA, intA, lenA, opA, dstOk, nilSliceOp, argFr, Nat.reduceLT, Nat.reduceEqDiff, ↓reduceIte, reduceCtorEq, eq_self, wtAll, Tryz.ntmps20]
 refine condV (fun hc => ?_) (fun hc => ?_)
 ·have : decide (a = b) = false := decide_eq_false fun e => by subst e; simp at hc
  simp only [vsAll, opA, dstOk, nilSliceOp, resA, retA.eq_1, Nat.reduceLT, ↓reduceIte, eq_self, Tryz.results20, this]
 ·simp only [Bool.not_eq_false', decide_eq_true_eq] at hc
  simp only [vsAll, opA, dstOk, nilSliceOp, Nat.reduceLT, eq_self]
  refine vs_loop (σ := Nat) (fun i => i ≤ a.length ∧ ∀ j, j < i → a.getD j 0 = b.getD j 0) (fun i => [(0, intsAV a), (1, intsAV b), (5, i64 i)]) (fun _ => H) (fun i => a.length - i) 0 ⟨Nat.zero_le _, fun j hj => absurd hj (by omega)⟩ ?_ ?_ fun i hi => ?_
  ·simp only [vsAll, argFr, Nat.reduceEqDiff, ↓reduceIte, reduceCtorEq, eq_self, Int.natCast_zero]
  ·simp only [HSub_refl]
  ·obtain ⟨hi, hall⟩ := hi
   simp only [vsAll, binA, binLitA, intA, lenA, opA, dstOk, Nat.reduceLT, Nat.reduceEqDiff, ↓reduceIte, reduceCtorEq, eq_self, wtAll]
   refine condD (fun hd => ?_) (fun hd => ?_)
   ·simp only [vsAll]
    refine vs_draw 9 (by decide +kernel) ?_
    simp only [vsAll, binA, binLitA, intA, loadA, loadRow, partA, partOk, indexAddrA, opA, dstOk, Nat.reduceLT, Nat.reduceEqDiff, ↓reduceIte, reduceCtorEq, eq_self, wtAll, intF_at]
    refine ⟨by omega, by omega, by omega, by omega, condV (fun hf => ?_) (fun hf => ?_)⟩
    ·have : decide (a = b) = false := decide_eq_false fun e => by subst e; simp at hf
     simp only [vsAll, opA, dstOk, nilSliceOp, resA, retA.eq_1, Nat.reduceLT, ↓reduceIte, eq_self, Tryz.results20, this]
    ·simp only [Bool.not_eq_false', decide_eq_true_eq] at hf
     simp only [vsAll, binA, binLitA, intA, opA, dstOk, nilSliceOp, Nat.reduceLT, Nat.reduceEqDiff, ↓reduceIte, reduceCtorEq, eq_self]
     refine ⟨by simp only [InR_i64]; omega, loop_next (i + 1) ⟨by omega, fun j hj => ?_⟩ (by omega) ?_ ?_⟩
     ·by_cases e : j = i
      ·subst e; exact hf
      ·exact hall j (by omega)
     ·simp only [vsAll, Nat.reduceEqDiff, ↓reduceIte, reduceCtorEq, eq_self, Int.natCast_add, Int.natCast_one]
     ·simp only [HSub_refl]
   ·have ei : i = a.length := by omega
    subst ei
    have : decide (a = b) = true := decide_eq_true (by
     apply List.ext_getElem (by omega)
     intro j h1 h2
     have := hall j h1
     rw [List.getD_eq_getElem?_getD, List.getD_eq_getElem?_getD, List.getElem?_eq_getElem h1, List.getElem?_eq_getElem h2] at this
     exact this)
    simp only [vsAll, opA, dstOk, nilSliceOp, resA, retA.eq_1, Nat.reduceLT, ↓reduceIte, eq_self, Tryz.results20, this]
theorem eq59q : eqT Tryz.prog 59 2 := eqT_of (by kernel_rfl) (by kernel_rfl) (by kernel_rfl) (by kernel_rfl) (by kernel_rfl)
theorem gspans_tri (a b : List (Int × Int)) (H : Hp) (ha : a.length < 2 ^ 60) (hb : b.length < 2 ^ 60) : PTri Tryz.prog (fnA 15) [spaAV a, spaAV b] H (boo (decide (a = b))) := by
 refine tri_v0 (fun _ => false) Tryz.func15 (by kernel_rfl) rfl (by simp only [List.length_append, List.length_cons, List.length_nil, Tryz.ntmps15]; decide) ?_
 simp only [vsAll, binA, binLitA, intA, lenA, opA, dstOk, nilSliceOp, argFr, Nat.reduceLT, Nat.reduceEqDiff, ↓reduceIte, reduceCtorEq, eq_self, wtAll, Tryz.ntmps15]
 refine condV (fun hc => ?_) (fun hc => ?_)
 ·have : decide (a = b) = false := decide_eq_false fun e => by subst e; simp at hc
  simp only [vsAll, opA, dstOk, nilSliceOp, resA, retA.eq_1, Nat.reduceLT, ↓reduceIte, eq_self, Tryz.results15, this]
 ·simp only [Bool.not_eq_false', decide_eq_true_eq] at hc
  simp only [vsAll, opA, dstOk, nilSliceOp, Nat.reduceLT, eq_self]
  refine vs_loop (σ := Nat) (fun i => i ≤ a.length ∧ ∀ j, j < i → a.getD j (0, 0) = b.getD j (0, 0)) (fun i => [(0, spaAV a), (1, spaAV b), (5, i64 i)]) (fun _ => H) (fun i => a.length - i) 0 ⟨Nat.zero_le _, fun j hj => absurd hj (by omega)⟩ ?_ ?_ fun i hi => ?_
  ·simp only [vsAll, argFr, Nat.reduceEqDiff, ↓reduceIte, reduceCtorEq, eq_self, Int.natCast_zero]
  ·simp only [HSub_refl]
  ·obtain ⟨hi, hall⟩ := hi
   simp only [vsAll, binA, binLitA, intA, lenA, opA, dstOk, Nat.reduceLT, Nat.reduceEqDiff, ↓reduceIte, reduceCtorEq, eq_self, wtAll]
   refine condD (fun hd => ?_) (fun hd => ?_)
   ·simp only [vsAll]
    refine vs_draw 9 (by decide +kernel) ?_
    simp only [vsAll, binA, aggA, loadA, loadRow, partA, partOk, indexAddrA, opA, dstOk, Nat.reduceAdd, Nat.reduceLT, Nat.reduceEqDiff, ↓reduceIte, reduceCtorEq, eq_self, wtAll, spaF_at]
    have ep : ∀ x y : Int × Int, ([x.1, x.2] = [y.1, y.2]) = (x = y) := fun x y => by
     rcases x with ⟨x1, x2⟩; rcases y with ⟨y1, y2⟩; simp
    refine ⟨by omega, by omega, by omega, by omega, eq59q, condV (fun hf => ?_) (fun hf => ?_)⟩
    ·have : decide (a = b) = false := decide_eq_false fun e => by subst e; simp at hf
     simp only [vsAll, opA, dstOk, nilSliceOp, resA, retA.eq_1, Nat.reduceLT, ↓reduceIte, eq_self, Tryz.results15, this]
    ·simp only [Bool.not_eq_false', decide_eq_true_eq, ep] at hf
     simp only [vsAll, binA, binLitA, intA, opA, dstOk, nilSliceOp, Nat.reduceLT, Nat.reduceEqDiff, ↓reduceIte, reduceCtorEq, eq_self]
     refine ⟨by simp only [InR_i64]; omega, loop_next (i + 1) ⟨by omega, fun j hj => ?_⟩ (by omega) ?_ ?_⟩
     ·by_cases e : j = i
      ·subst e; exact hf
      ·exact hall j (by omega)
     ·simp only [vsAll, Nat.reduceEqDiff, ↓reduceIte, reduceCtorEq, eq_self, Int.natCast_add, Int.natCast_one]
     ·simp only [HSub_refl]
   ·have ei : i = a.length := by omega
    subst ei
    have : decide (a = b) = true := decide_eq_true (by
     apply List.ext_getElem (by omega)
     intro j h1 h2
     have := hall j h1
     rw [List.getD_eq_getElem?_getD, List.getD_eq_getElem?_getD, List.getElem?_eq_getElem h1, List.getElem?_eq_getElem h2] at this
     exact this)
    simp only [vsAll, opA, dstOk, nilSliceOp, resA, retA.eq_1, Nat.reduceLT, ↓reduceIte, eq_self, Tryz.results15, this]
/-- Too large to be looked at. -/
def farG (g : Gg) (n : Nat) : Bool := decide ((40 : Int) < max (max (max (max (g.sm.length : Int) (g.cw.length : Int)) (g.pt.fs.length : Int)) (g.pt.ps.length : Int)) (n : Int))
theorem gfar0_tri (g : Gg) (H : Hp) : PTri Tryz.prog (fnA 27) [g.av, .lit (.slice none 0 0)] H (boo (farG g 0)) := by
 refine tri_v0 (fun _ => false) Tryz.func27 (by kernel_rfl) rfl (by simp only [List.length_append, List.length_cons, List.length_nil, Tryz.ntmps27]; decide) ?_
 simp only [vsAll, binA, binLitA, intA, loadA, loadRow, partA, partOk, fieldAddrA, lenA, boxA, boxZ, mmA, okAll, stAll, opsA, opA, dstOk, nilSliceOp, resA, argFr, retA.eq_1, Nat.reduceAdd, Nat.reduceLT, Nat.reduceEqDiff, ↓reduceIte, eq_self, wtAll, Tryz.ntmps27, Tryz.results27]
 rfl
theorem farG_near {g : Gg} {n : Nat} (h : farG g n = false) : NearG g ∧ n ≤ 40 := by
 have := of_decide_eq_false h
 exact ⟨⟨by omega, by omega, ⟨by omega, by omega⟩⟩, by omega⟩
def fineG (g : Gg) : Bool := !farG g 0 && decide (OkG g)
theorem gfine_tri (g : Gg) (H : Hp) : PTri Tryz.prog (fnA 29) [g.av] H (boo (fineG g)) := by
 refine tri_v0 (fun _ => false) Tryz.func29 (by kernel_rfl) rfl (by simp only [List.length_append, List.length_cons, List.length_nil, Tryz.ntmps29]; decide) ?_
 simp only [vsAll, loadA, loadRow, partA, partOk, boxA, boxZ, okAll, stAll, opsA, opA, dstOk, nilSliceOp, argFr, Nat.reduceAdd, Nat.reduceLT, Nat.reduceEqDiff, ↓reduceIte, eq_self, wtAll, Tryz.ntmps29]
 refine callK_pure (gfar0_tri g _) ?_
 simp only [vsAll, unA, loadA, loadRow, partA, partOk, opA, guardV, dstOk, Nat.reduceLT, Nat.reduceEqDiff, ↓reduceIte, implies_true, eq_self, wtAll]
 refine gcall _ (fun hg => ⟨by simp only [vsAll, opA], by simp only [vsAll, okAll, opsA, opA, ↓reduceIte, eq_self, hg], gangs_tri g _ (farG_near (n := 0) (by simpa using hg)).1⟩) ?_
 simp only [vsAll, pickA, opA, dstOk, nilSliceOp, resA, retA.eq_1, Nat.reduceLT, Nat.reduceEqDiff, ↓reduceIte, implies_true, eq_self, Tryz.results29]
 rfl
theorem gspan_tri (a b : Int) (H : Hp) : PTri Tryz.prog (fnA 35) [i64 a, i64 b] H (.agg [i64 a, i64 b]) := by
 refine Tri.drop ?_
 refine tri_v0 (fun _ => false) Tryz.func35 (by kernel_rfl) rfl (by simp only [List.length_append, List.length_cons, List.length_nil, Tryz.ntmps35]; decide) ?_
 simp only [vsAll, loadA, loadRow, partA, partOk, cellA, cellsA, fillA, okParts, partsA, partsOk, opA, allocA, newCells, okCells, storeObj, dstOk, resA, argFr, retA.eq_1, Nat.reduceAdd, Nat.reduceLT, Nat.reduceLeDiff, Nat.reduceEqDiff, ↓reduceIte, reduceCtorEq, eq_self, wtAll, Tryz.ntmps35, Tryz.results35]
 intro i4 hh_i4; (try simp only [Hp.set_none, ite_none] at hh_i4)
 refine dropR_pure ?_ (by (repeat (first | exact HSub_rfl | refine HSub_put_eq (by simp only [vsAll, ↓reduceIte, eq_self, reduceCtorEq, Nat.reduceEqDiff, hh_i4]) ?_ | refine HSub_drop2 (by simp only [eq_self, hh_i4]) ?_ | refine HSub_keep_eq (by simp only [vsAll, ↓reduceIte, eq_self, reduceCtorEq, Nat.reduceEqDiff, hh_i4]) ?_)))
 rfl
theorem setL_take (l : List Int) {i : Nat} (hi : i < l.length) : setL (l.take (i + 1)) = setL (l.take i) ||| 2 ^ (l.getD i 0).toNat := by
 rw [List.take_add_one, List.getElem?_eq_getElem hi]
 simp only [Option.toList_some, setL_snoc]
 rw [List.getD_eq_getElem?_getD, List.getElem?_eq_getElem hi]
 rfl
theorem setL_bd (l : List Int) (h : ∀ i, i < l.length → 0 ≤ l.getD i 0 ∧ l.getD i 0 < 5) : ∀ i, i ≤ l.length → setL (l.take i) < 2 ^ 5
 | 0, _ => by simp [setL]
 | i + 1, hi => by
   rw [setL_take l (by omega)]
   have := h i (by omega)
   exact Nat.or_lt_two_pow (setL_bd l h i (by omega)) (Nat.pow_lt_pow_right (by decide) (by omega))
theorem gsetOf_tri (l : List Int) (H : Hp) (hl : l.length ≤ 1000) (h : ∀ i, i < l.length → 0 ≤ l.getD i 0 ∧ l.getD i 0 < 5) : PTri Tryz.prog (fnA 101) [intsAV l] H (i64 (setL l : Nat)) := by
 refine tri_v0 (fun _ => false) Tryz.func101 (by kernel_rfl) rfl (by simp only [List.length_append, List.length_cons, List.length_nil, Tryz.ntmps101]; decide) ?_
 simp only [vsAll, lenA, opA, dstOk, nilSliceOp, argFr, Nat.reduceLT, ↓reduceIte, reduceCtorEq, eq_self, wtAll, Tryz.ntmps101]
 refine vs_loop (σ := Nat) (fun i => i ≤ l.length) (fun i => [(3, i64 (setL (l.take i) : Nat)), (6, intsAV l), (7, i64 l.length), (8, i64 i)]) (fun _ => H) (fun i => l.length - i) 0 (Nat.zero_le _) ?_ HSub_rfl fun i hi => ?_
 ·simp only [vsAll, Nat.reduceEqDiff, ↓reduceIte, eq_self, Int.natCast_zero]
  exact AV.Le.refl _
 ·simp only [vsAll, binA, binLitA, intA, opA, dstOk, Nat.reduceLT, Nat.reduceEqDiff, ↓reduceIte, eq_self]
  refine condD (fun hd => ?_) (fun hd => ?_)
  ·have his : i < l.length := by omega
   have hx := h i his
   have h1 := setL_bd l h i hi
   have h2 := setL_bd l h (i + 1) his
   rw [setL_take l his] at h2
   have ep : (1 : Int) * 2 ^ (l.getD i 0).toNat = ((2 ^ (l.getD i 0).toNat : Nat) : Int) := by rw [Int.one_mul]; simp
   have hp : 2 ^ (l.getD i 0).toNat ≤ 2 ^ 4 := Nat.pow_le_pow_right (by decide) (by omega)
   have et := setL_take l his
   simp only [vsAll, binA, binLitA, intA, loadA, loadRow, partA, partOk, indexAddrA, opA, dstOk, nilSliceOp, Nat.reduceLT, Nat.reduceEqDiff, ↓reduceIte, eq_self, wtAll, intF_at, ep]
   clear ep
   generalize 2 ^ (l.getD i 0).toNat = Q at hp h2 et ⊢
   refine ⟨⟨by omega, by omega⟩, his, ⟨by omega, by omega, by simp only [InR_i64]; omega⟩, ⟨by omega, by omega, by simp only [InR_i64]; omega, by simp only [InR_i64]; omega⟩, by simp only [InR_i64]; omega, loop_next (i + 1) his (by omega) ?_ HSub_rfl⟩
   simp only [vsAll, Nat.reduceEqDiff, ↓reduceIte, eq_self, et, Int.natCast_add, Int.natCast_one]
  ·have ei : i = l.length := by omega
   subst ei
   simp only [vsAll, opA, dstOk, nilSliceOp, resA, retA.eq_1, Nat.reduceLT, Nat.reduceEqDiff, ↓reduceIte, eq_self, Tryz.results101, List.take_length]
end Go.Proofs.YtdopkbldjagmlaaGreat
end
section
set_option linter.unusedVariables false
set_option linter.unusedSimpArgs false
set_option maxHeartbeats 4000000
set_option maxRecDepth 100000
namespace Go.Proofs.YtdopkbldjagmlaaGreat
open Go.V
theorem dcrew_tri (g : Gg) (n : Int) (H : Hp) (k : NearG g) : PTri Tryz.prog (fnA 31) [g.av, i64 n] H (boo (isCw g n)) := by
 have := k.nC
 refine tri_v0 (fun _ => false) Tryz.func31 (by kernel_rfl) rfl (by simp only [List.length_append, List.length_cons, List.length_nil, Tryz.ntmps31]; decide) ?_
 simp only [vsAll, binA, binLitA, intA, loadA, loadRow, partA, partOk, fieldAddrA, lenA, boxA, boxZ, okAll, stAll, opsA, opA, dstOk, nilSliceOp, argFr, Nat.reduceAdd, Nat.reduceLT, Nat.reduceEqDiff, ↓reduceIte, eq_self, wtAll, Tryz.ntmps31]
 refine ⟨by simp only [InR_i64]; omega, callK_pure (gin_tri _ _ _ _) ?_⟩
 simp only [vsAll, opA, dstOk, nilSliceOp, resA, retA.eq_1, Nat.reduceLT, ↓reduceIte, eq_self, Tryz.results31]
 rfl
def spN (g : Gg) (c : Nat) (l : List Int) (i : Nat) : List (Int × Int) := (List.range i).map fun j => (donN g (g.crew c).hi l (j + 1), donN g (g.crew c).lo l (j + 1))
theorem spN_len (g : Gg) (c : Nat) (l : List Int) (i : Nat) : (spN g c l i).length = i := by simp [spN]
theorem spN_row (g : Gg) (c : Nat) (l : List Int) : rwH g c l l.length l.length = spN g c l l.length := by
 unfold rwH spN
 refine List.map_congr_left fun i hi => ?_
 rw [List.mem_range] at hi
 rw [if_pos hi]
end Go.Proofs.YtdopkbldjagmlaaGreat
end
section
set_option linter.unusedVariables false
set_option linter.unusedSimpArgs false
namespace Go.Proofs.YtdopkbldjagmlaaGreat
open Go.V
/-- Seams of some gangs are those of others, by other numbers. -/
structure RenS (h g : Gg) (φ : Nat → Nat) : Prop where
 s : ∀ n, n < h.N → φ n < g.N ∧ begV h n = begV g (φ n) ∧ (h.seam n).fa = (g.seam (φ n)).fa ∧ (h.seam n).fl = (g.seam (φ n)).fl
 i : ∀ n m, n < h.N → m < h.N → φ n = φ m → n = m
/-- A crew is another one, by other numbers of seams. -/
structure RenC (h g : Gg) (φ : Nat → Nat) (c d : Nat) : Prop where
 lo : (h.crew c).lo = (g.crew d).lo
 hi : (h.crew c).hi = (g.crew d).hi
 k : ∀ n, n < h.N → (h.crew c).st.toNat.testBit n = (g.crew d).st.toNat.testBit (φ n)
structure Ren (h g : Gg) (φ ψ : Nat → Nat) : Prop extends RenS h g φ where
 c : ∀ c, c < h.cw.length → ψ c < g.cw.length ∧ RenC h g φ c (ψ c)
def mpL (φ : Nat → Nat) (l : List Int) : List Int := l.map fun x => ((φ x.toNat : Nat) : Int)
theorem mpL_len (φ : Nat → Nat) (l : List Int) : (mpL φ l).length = l.length := by simp [mpL]
theorem mpL_at (φ : Nat → Nat) (l : List Int) {i : Nat} (h : i < l.length) : (mpL φ l).getD i 0 = ((φ (l.getD i 0).toNat : Nat) : Int) := by
 simp [mpL, List.getD_eq_getElem?_getD, h]
/-- All of a list are seams. -/
def InG (h : Gg) (l : List Int) : Prop := ∀ i, i < l.length → ∃ n : Nat, l.getD i 0 = (n : Int) ∧ n < h.N
theorem ren_don {h g : Gg} {φ : Nat → Nat} (R : RenS h g φ) (sp : Int) {l : List Int} (hl : InG h l) : ∀ i, i ≤ l.length → donN g sp (mpL φ l) i = donN h sp l i
 | 0, _ => rfl
 | i + 1, hi => by
   obtain ⟨n, e, hn⟩ := hl i (by omega)
   obtain ⟨s1, s2, s3, s4⟩ := R.s n hn
   simp only [donN]
   rw [ren_don R sp hl i (by omega), mpL_at φ l (by omega), e, Int.toNat_natCast, Int.toNat_natCast]
   unfold stT tkG
   rw [s2, s3]
theorem ren_kn {h g : Gg} {φ : Nat → Nat} {c d : Nat} (R : RenS h g φ) (rc : RenC h g φ c d) {n : Nat} (hn : n < h.N) : knB g d (φ n) = knB h c n := by
 unfold knB
 rw [rc.k n hn, (R.s n hn).2.1]
theorem ren_rgt {h g : Gg} {φ : Nat → Nat} {c d : Nat} (R : RenS h g φ) (rc : RenC h g φ c d) {l : List Int} (hl : InG h l) : rgtB g d (mpL φ l) = rgtB h c l := by
 rw [Bool.eq_iff_iff, rgt_iff, rgt_iff, mpL_len]
 refine forall_congr' fun i => forall_congr' fun hi => ?_
 obtain ⟨n, e, hn⟩ := hl i hi
 rw [mpL_at φ l hi, e, Int.toNat_natCast, Int.toNat_natCast, ren_kn R rc hn, ren_don R _ hl _ hi, (R.s n hn).2.2.2, rc.lo]
/-- A set, by the other numbers. -/
def Img (h : Gg) (φ : Nat → Nat) (S T : Nat) : Prop := S < 2 ^ h.N ∧ ∀ n, T.testBit n = true ↔ ∃ m, S.testBit m = true ∧ φ m = n
theorem Img.lt {h g : Gg} {φ : Nat → Nat} (R : RenS h g φ) {S T : Nat} (I : Img h φ S T) : T < 2 ^ g.N := by
 refine Nat.lt_pow_two_of_testBit _ fun i hi => ?_
 cases e : T.testBit i with
 | false => rfl
 | true =>
   obtain ⟨m, h1, h2⟩ := (I.2 i).1 e
   have := (R.s m (bit_lt I.1 h1)).1
   omega
theorem row_in {h : Gg} {S : Nat} (hS : S < 2 ^ h.N) {l : List Int} (hl : RowOf S l) : InG h l := fun i hi => by
 obtain ⟨n, e, hn⟩ := hl.at_ i hi
 exact ⟨n, e, bit_lt hS hn⟩
theorem mpL_mem {φ : Nat → Nat} {l : List Int} {x : Int} : x ∈ mpL φ l ↔ ∃ y ∈ l, ((φ y.toNat : Nat) : Int) = x := by simp [mpL]
theorem ren_row {h g : Gg} {φ : Nat → Nat} (R : RenS h g φ) {S T : Nat} (I : Img h φ S T) {l : List Int} (hl : RowOf S l) : RowOf T (mpL φ l) := by
 have hi := row_in I.1 hl
 refine ⟨fun i hi2 => ?_, fun i j hij hj e => ?_⟩
 ·rw [mpL_len] at hi2
  obtain ⟨n, e, hn⟩ := hl.at_ i hi2
  exact ⟨φ n, by rw [mpL_at φ l hi2, e, Int.toNat_natCast], (I.2 _).2 ⟨n, hn, rfl⟩⟩
 ·rw [mpL_len] at hj
  rw [mpL_at φ l (by omega), mpL_at φ l hj] at e
  obtain ⟨n, e1, hn⟩ := hi i (by omega)
  obtain ⟨m, e2, hm⟩ := hi j hj
  rw [e1, e2, Int.toNat_natCast, Int.toNat_natCast] at e
  have := R.i n m hn hm (by omega)
  subst this
  exact hl.nd i j hij hj (by rw [e1, e2])
theorem ren_full {h g : Gg} {φ : Nat → Nat} (R : RenS h g φ) (hN : g.N ≤ 5) (hM : h.N ≤ 5) {S T : Nat} (I : Img h φ S T) {l : List Int} (hl : RowOf S l) : (mpL φ l).length = pop T ↔ l.length = pop S := by
 have hr := ren_row R I hl
 rw [← (rowOf_full (lt32 hN (Img.lt R I)) hr).2, ← (rowOf_full (lt32 hM I.1) hl).2]
 have hi := row_in I.1 hl
 constructor
 ·intro e
  refine Nat.eq_of_testBit_eq fun n => ?_
  rw [Bool.eq_iff_iff]
  constructor
  ·exact fun hb => rowOf_sub hl hb
  ·intro hb
   have : T.testBit (φ n) = true := (I.2 _).2 ⟨n, hb, rfl⟩
   rw [← e, setL_bit] at this
   obtain ⟨x, hx, ex⟩ := this
   obtain ⟨y, hy, ey⟩ := mpL_mem.1 hx
   obtain ⟨i, hi1, hi2⟩ := mem_at.1 hy
   obtain ⟨m, e1, hm⟩ := hi i hi1
   rw [setL_bit]
   refine ⟨y, hy, ?_⟩
   rw [hi2] at e1
   subst e1
   rw [Int.toNat_natCast] at ey ⊢
   exact R.i m n hm (bit_lt I.1 hb) (by omega)
 ·intro e
  refine Nat.eq_of_testBit_eq fun n => ?_
  rw [Bool.eq_iff_iff]
  constructor
  ·exact fun hb => rowOf_sub hr hb
  ·intro hb
   obtain ⟨m, hm, em⟩ := (I.2 n).1 hb
   rw [← e, rowOf_set hl] at hm
   rw [rowOf_set hr, mpL_mem]
   exact ⟨(m : Int), hm, by rw [Int.toNat_natCast, em]⟩
theorem ren_back {h g : Gg} {φ : Nat → Nat} (R : RenS h g φ) {S T : Nat} (I : Img h φ S T) {l : List Int} : RowOf T l → ∃ m, l = mpL φ m ∧ RowOf S m := by
 refine snoc_ind (P := fun l => RowOf T l → ∃ m, l = mpL φ m ∧ RowOf S m) (fun _ => ⟨[], rfl, rowOf_nil S⟩) (fun b x ih hr => ?_) l
 obtain ⟨m, e, hm⟩ := ih (rowOf_pre hr)
 obtain ⟨n, ex, hn⟩ := hr.at_ b.length (by simp)
 rw [snoc_end] at ex
 subst ex
 obtain ⟨q, hq, eq⟩ := (I.2 n).1 hn
 have e2 : b ++ [(n : Int)] = mpL φ (m ++ [(q : Int)]) := by
  rw [e]
  simp [mpL, eq]
 refine ⟨m ++ [(q : Int)], e2, rowOf_snoc.2 ⟨hm, hq, fun hmem => ?_⟩⟩
 have h3 := (rowOf_snoc.1 hr).2.2
 refine h3 ?_
 rw [e, mpL_mem]
 exact ⟨(q : Int), hmem, by rw [Int.toNat_natCast, eq]⟩
theorem ren_end {h g : Gg} {φ : Nat → Nat} {c d : Nat} (R : RenS h g φ) (rc : RenC h g φ c d) (hN : g.N ≤ 5) (hM : h.N ≤ 5) {S T : Nat} (I : Img h φ S T) : endO h c S = endO g d T := by
 refine (end_min I.1).uniq ((end_min (Img.lt R I)).congr fun x => ?_)
 constructor
 ·rintro ⟨l, h1, h2, h3, h4⟩
  obtain ⟨m, e, hm⟩ := ren_back R I h2
  subst e
  have hi := row_in I.1 hm
  rw [ren_rgt R rc hi] at h3
  refine ⟨m, (ren_full R hN hM I hm).1 h1, hm, h3, ?_⟩
  rw [← h4]
  unfold lastT
  rw [mpL_len, ren_don R _ hi _ (Nat.le_refl _), rc.lo]
 ·rintro ⟨l, h1, h2, h3, h4⟩
  have hi := row_in I.1 h2
  refine ⟨mpL φ l, (ren_full R hN hM I h2).2 h1, ren_row R I h2, by rw [ren_rgt R rc hi]; exact h3, ?_⟩
  rw [← h4]
  unfold lastT
  rw [mpL_len, ren_don R _ hi _ (Nat.le_refl _), rc.lo]

/-- Crews are numbered otherwise, all of them. -/
structure Prm (M : Nat) (ψ ψ' : Nat → Nat) : Prop where
 a : ∀ c, c < M → ψ c < M ∧ ψ' (ψ c) = c
 b : ∀ c, c < M → ψ' c < M ∧ ψ (ψ' c) = c
theorem dom_prm {g h : Gg} {f f' : Nat → Nat} {ψ ψ' : Nat → Nat} {M : Nat} (p : Prm M ψ ψ') (e : ∀ c, c < M → endO h c (f' c) = endO g (ψ c) (f (ψ c))) : domN h f' M = domN g f M := by
 have hs : (domN h f' M).isSome = (domN g f M).isSome := by
  rw [Bool.eq_iff_iff, domN_some, domN_some]
  constructor
  ·intro q c hc
   have := q (ψ' c) (p.b c hc).1
   rw [e _ (p.b c hc).1, (p.b c hc).2] at this
   exact this
  ·intro q c hc
   rw [e c hc]
   exact q _ (p.a c hc).1
 cases h1 : domN h f' M with
 | none =>
   rw [h1] at hs
   cases h2 : domN g f M with
   | none => rfl
   | some n => rw [h2] at hs; cases hs
 | some m =>
   rw [h1] at hs
   cases h2 : domN g f M with
   | none => rw [h2] at hs; cases hs
   | some n =>
     obtain ⟨a1, a2, a3⟩ := domN_le M h1
     obtain ⟨b1, b2, b3⟩ := domN_le M h2
     congr 1
     refine Int.le_antisymm ?_ ?_
     ·rcases a3 with a3 | ⟨c, hc, a3⟩
      ·omega
      ·rw [e c hc] at a3
       obtain ⟨t, ht, hle⟩ := b2 (ψ c) (p.a c hc).1
       rw [ht] at a3
       cases a3
       exact hle
     ·rcases b3 with b3 | ⟨c, hc, b3⟩
      ·omega
      ·obtain ⟨t, ht, hle⟩ := a2 (ψ' c) (p.b c hc).1
       rw [e _ (p.b c hc).1, (p.b c hc).2] at ht
       rw [ht] at b3
       cases b3
       exact hle
/-- The same deal, by either numbers. -/
structure DR (h g : Gg) (φ ψ : Nat → Nat) (S T C D : Nat) (l l' : List Int) : Prop where
 n1 : l.length = h.N
 n2 : l'.length = g.N
 at_ : ∀ m, m < h.N → S.testBit m = true → ∃ c : Nat, c < h.cw.length ∧ l.getD m 0 = (c : Int) ∧ C.testBit c = true ∧ l'.getD (φ m) 0 = ((ψ c : Nat) : Int)
 o1 : ∀ m, m < h.N → S.testBit m = false → l.getD m 0 = -1
 o2 : ∀ n, n < g.N → T.testBit n = false → l'.getD n 0 = -1
section
variable {h g : Gg} {φ ψ ψ' : Nat → Nat} {S T C D : Nat} {l l' : List Int}
theorem DR.img (d : DR h g φ ψ S T C D l l') (R : Ren h g φ ψ) (p : Prm h.cw.length ψ ψ') (I : Img h φ S T) {c : Nat} (hc : c < h.cw.length) : Img h φ (crS l c) (crS l' (ψ c)) := by
 refine ⟨by have := crN_lt l c l.length; rw [d.n1] at this; unfold crS; rw [d.n1]; exact this, fun n => ?_⟩
 rw [crS_bit, d.n2]
 constructor
 ·rintro ⟨hn, e⟩
  cases ht : T.testBit n with
  | false => rw [d.o2 n hn ht] at e; omega
  | true =>
    obtain ⟨m, hm, em⟩ := (I.2 n).1 ht
    have hm2 := bit_lt I.1 hm
    obtain ⟨c2, hc2, e1, _, e3⟩ := d.at_ m hm2 hm
    rw [em, e] at e3
    have : c2 = c := by rw [← (p.a c2 hc2).2, ← (p.a c hc).2]; congr 1; omega
    subst this
    exact ⟨m, crS_bit.2 ⟨by rw [d.n1]; exact hm2, e1⟩, em⟩
 ·rintro ⟨m, hm, em⟩
  rw [crS_bit, d.n1] at hm
  obtain ⟨hm2, e⟩ := hm
  cases hs : S.testBit m with
  | false => rw [d.o1 m hm2 hs] at e; omega
  | true =>
    obtain ⟨c2, hc2, e1, _, e3⟩ := d.at_ m hm2 hs
    have : c2 = c := by omega
    subst this
    subst em
    exact ⟨(R.s m hm2).1, e3⟩
theorem DR.dom (d : DR h g φ ψ S T C D l l') (R : Ren h g φ ψ) (p : Prm h.cw.length ψ ψ') (I : Img h φ S T) (hN : g.N ≤ 5) (hM : h.N ≤ 5) (hL : h.cw.length = g.cw.length) : domO h l = domO g l' := by
 unfold domO
 rw [← hL]
 exact dom_prm p fun c hc => ren_end R.toRenS (R.c c hc).2 hN hM (d.img R p I hc)
end
end Go.Proofs.YtdopkbldjagmlaaGreat
end
section
set_option linter.unusedVariables false
set_option linter.unusedSimpArgs false
namespace Go.Proofs.YtdopkbldjagmlaaGreat
open Go.V
def onlN (g : Gg) (s i : Nat) : List Cw := (List.range g.cw.length).map fun c => if c < i ∧ s.testBit c = false then ⟨(g.crew c).lo, (g.crew c).hi, 0⟩ else g.crew c
def onlG (g : Gg) (s : Nat) : Gg := ⟨g.sm, onlN g s g.cw.length, g.pt⟩
/-- The seams that are kept, of the first ones. -/
def kpN (S i : Nat) : List Nat := (List.range i).filter fun n => !S.testBit n
/-- A set, by the new numbers. -/
def mkN (st : Nat) (l : List Nat) : Nat → Nat
 | 0 => 0
 | i + 1 => if st.testBit (l.getD i 0) = true then mkN st l i ||| 2 ^ i else mkN st l i
/-- The gangs, if so many seams have been looked at. -/
def wthN (g : Gg) (S i : Nat) : Gg := ⟨(kpN S i).map g.seam, (List.range g.cw.length).map fun c => ⟨(g.crew c).lo, (g.crew c).hi, (mkN (g.crew c).st.toNat (kpN S i) (kpN S i).length : Nat)⟩, g.pt⟩
def wthG (g : Gg) (S : Nat) : Gg := wthN g S g.N
end Go.Proofs.YtdopkbldjagmlaaGreat
end
section
set_option linter.unusedVariables false
namespace Go.Proofs.YtdopkbldjagmlaaGreat
open Go.V
def keyU (U : Nat) : Int := (pop U : Int) * 32 + U
theorem deal_used {g : Gg} {C : Nat} {l : List Int} (hN : g.N ≤ 5) (hM : g.cw.length ≤ 5) (h : DealOf g g.F C l) : DealOf g g.F (setL l) l ∧ setL l < 2 ^ g.cw.length ∧ (∀ n, (setL l).testBit n = true → C.testBit n = true) ∧ DealOf g g.F g.A l := by
 obtain ⟨h1, h2, h3⟩ := h
 have key : ∀ i, i < g.N → ∃ c : Nat, l.getD i 0 = c ∧ c < g.cw.length ∧ C.testBit c = true := fun i hi => by
  have := h2 i hi
  unfold crOk at this
  rw [if_pos (F_bit g hi)] at this
  exact this
 have hin : ∀ x ∈ l, ∃ c : Nat, x = c ∧ c < g.cw.length ∧ C.testBit c = true := fun x hx => by
  obtain ⟨i, hi, e⟩ := getD_mem 0 hx
  rw [← e]
  exact key i (by omega)
 have hbit : ∀ n, (setL l).testBit n = true → n < g.cw.length ∧ C.testBit n = true := fun n hn => by
  obtain ⟨x, hx, e⟩ := (setL_bit l n).1 hn
  obtain ⟨c, rfl, hc, hb⟩ := hin x hx
  rw [Int.toNat_natCast] at e
  subst e
  exact ⟨hc, hb⟩
 refine ⟨⟨h1, fun i hi => ?_, h3⟩, Nat.lt_pow_two_of_testBit _ fun n hn => ?_, fun n hn => (hbit n hn).2, ⟨h1, fun i hi => ?_, h3⟩⟩
 ·unfold crOk
  rw [if_pos (F_bit g hi)]
  obtain ⟨c, e, hc, hb⟩ := key i hi
  refine ⟨c, e, hc, (setL_bit l c).2 ⟨l.getD i 0, mem_getD l i 0 (by omega), by rw [e, Int.toNat_natCast]⟩⟩
 ·rw [← Bool.not_eq_true]
  intro hb
  have := (hbit n hb).1
  omega
 ·unfold crOk
  rw [if_pos (F_bit g hi)]
  obtain ⟨c, e, hc, hb⟩ := key i hi
  exact ⟨c, e, hc, A_bit g hc⟩
def bstU (g : Gg) : List Int := mnG (fun l => keyU (setL l)) (dlsL g g.F g.A) [] (dlsL g g.F g.A).length
theorem eno_doc {g : Gg} (hN : g.N ≤ 5) (hM : g.cw.length ≤ 3) : fewV (genB g) g.cw.length = if 0 < (dlsL g g.F g.A).length then some (setL (bstU g)) else none := by
 split
 ·rename_i h0
  obtain ⟨p, hp, e, h1, _⟩ := mnG_spec (fun l => keyU (setL l)) (dlsL g g.F g.A) [] h0 _ (Nat.le_refl _)
  have hm : bstU g ∈ dlsL g g.F g.A := by unfold bstU; rw [e]; exact mem_getD _ p _ hp
  have hle : ∀ l ∈ dlsL g g.F g.A, keyU (setL (bstU g)) ≤ keyU (setL l) := fun l hl => by
   obtain ⟨q, hq, eq⟩ := getD_mem [] hl
   have := h1 q hq
   unfold bstU
   rw [e, ← eq]
   exact this
  obtain ⟨d1, d2, _, _⟩ := deal_used hN (by omega) (mem_deals.1 hm)
  have hp3 : 2 ^ g.cw.length ≤ 2 ^ 3 := Nat.pow_le_pow_right (by omega) hM
  have hL : LeastSet (genB g) g.cw.length (setL (bstU g)) := by
   refine ⟨d2, genB_iff.2 ⟨_, d1⟩, fun C hC hg => ?_⟩
   obtain ⟨l, hl⟩ := genB_iff.1 hg
   obtain ⟨_, u2, u3, u4⟩ := deal_used hN (by omega) hl
   have hk := hle l (mem_deals.2 u4)
   have hs := pop_eq5 (setL l) (by omega) C (by omega) fun n _ hn => u3 n hn
   unfold keyU at hk
   generalize setL (bstU g) = s at *
   generalize setL l = U at *
   by_cases q : pop U = pop C
   ·have := hs.2 q
    subst this
    omega
   ·omega
  cases hw : fewV (genB g) g.cw.length with
  | some w => rw [(fewV_some hw).uniq hL]
  | none =>
    have := fewV_none (by omega) hw _ hL.lt
    rw [hL.is] at this
    cases this
 ·rename_i h0
  cases hw : fewV (genB g) g.cw.length with
  | none => rfl
  | some w =>
    obtain ⟨l, hl⟩ := genB_iff.1 (fewV_some hw).is
    have hm := mem_deals.2 (deal_used hN (by omega) hl).2.2.2
    have : 0 < (dlsL g g.F g.A).length := List.length_pos_iff.2 (List.ne_nil_of_mem hm)
    exact absurd this h0
/-- What is told of a deal. -/
theorem deal_doc {g : Gg} : (dO g g.F g.A g.N [] = none ↔ (dlsL g g.F g.A).length = 0) := by
 have h : (dO g g.F g.A g.N []).isSome = true ↔ 0 < (dlsL g g.F g.A).length := by
  rw [dO_some]
  constructor
  ·rintro ⟨l, hl⟩
   exact List.length_pos_iff.2 (List.ne_nil_of_mem (mem_deals.2 hl))
  ·intro h0
   obtain ⟨l, hl⟩ := List.exists_mem_of_length_pos h0
   exact ⟨l, mem_deals.1 hl⟩
 cases hd : dO g g.F g.A g.N [] with
 | none =>
   rw [hd] at h
   refine ⟨fun _ => ?_, fun _ => rfl⟩
   have : ¬ 0 < (dlsL g g.F g.A).length := fun q => by have := h.2 q; cases this
   omega
 | some m =>
   rw [hd] at h
   have := h.1 rfl
   exact ⟨fun q => (by cases q), fun q => (by omega)⟩
end Go.Proofs.YtdopkbldjagmlaaGreat
end
section
set_option linter.unusedVariables false
set_option linter.unusedSimpArgs false
set_option maxHeartbeats 4000000
set_option maxRecDepth 100000
namespace Go.Proofs.YtdopkbldjagmlaaGreat
open Go.V
def dlsG (g : Gg) (S n : Nat) (b : List Int) (i : Nat) : List (List Int) := (List.range i).flatMap fun c : Nat => dls g S g.A n (b ++ [(c : Int)])
def dlR (g : Gg) (S n : Nat) (b : List Int) (id : Nat) (O : List (List Int)) (H : Hp) : Res → Hp → Prop := fun r H' =>
 r = .ret (.sl id 1 (O ++ dls g S g.A n b).length) ∧ H' = H.set id (.row 1 (O ++ dls g S g.A n b).length (llF (O ++ dls g S g.A n b)))
end Go.Proofs.YtdopkbldjagmlaaGreat
end
section
set_option linter.unusedVariables false
set_option linter.unusedSimpArgs false
set_option maxHeartbeats 4000000
set_option maxRecDepth 100000
namespace Go.Proofs.YtdopkbldjagmlaaGreat
open Go.V
theorem dd_in {g : Gg} {l : List Int} (h : l ∈ dlsL g g.F g.A) : l.length = g.N ∧ (domO g l).getD (-1) = domI g l ∧ (∀ i, i < l.length → 0 ≤ l.getD i 0 ∧ l.getD i 0 < g.cw.length) := by
 have hd := mem_deals.1 h
 refine ⟨hd.len, ?_, fun i hi => ?_⟩
 ·have := hd.dom
  unfold domI
  cases e : domO g l with
  | none => rw [e] at this; cases this
  | some m => rfl
 ·have := hd.at_ i (by rw [← hd.len]; exact hi)
  unfold crOk at this
  rw [if_pos (F_bit g (by rw [← hd.len]; exact hi))] at this
  obtain ⟨c, e, hc, _⟩ := this
  omega
theorem domI_bd {g : Gg} (k : OkG g) {l : List Int} (h : l ∈ dlsL g g.F g.A) : 0 ≤ domI g l ∧ domI g l ≤ 24 := by
 have hd := mem_deals.1 h
 have hx := hd.dom
 unfold domI
 cases e : domO g l with
 | none => rw [e] at hx; cases hx
 | some m => exact dom_le k (Nat.le_refl _) (fun c _ => crS_lt' (by rw [hd.len]; exact Nat.le_refl _) c) e
def dealA (g : Gg) : AV := if dealE g = 0 then intsAV (dealL g) else .lit (.slice none 0 0)
end Go.Proofs.YtdopkbldjagmlaaGreat
end
section
set_option linter.unusedVariables false
set_option linter.unusedSimpArgs false
namespace Go.V
set_option linter.unusedSectionVars false
variable [Inhabited GivT]
/-- What one cell holds. -/
inductive CK where
 | int (k : IntKind)
 | bool
 | sl (ks : List CK)

/-- The cells of a type. -/
def cellsT (P : Program) : Nat → TypeId → Option (List CK)
 | 0, _ => none
 | d + 1, t => match P.underlying t with
   | some .bool => some [.bool]
   | some (.int k) => some [.int k]
   | some (.slice e) => match cellsT P d e with
     | some ks => if P.cellsOf e = ks.length ∧ 0 < ks.length then some [.sl ks] else none
     | none => none
   | some (.array n e) => match cellsT P d e with
     | some ks => if P.cellsOf e = ks.length ∧ P.cellsOf t = n * ks.length then some ((List.replicate n ks).flatten) else none
     | none => none
   | some (.struct fs) => match fs.toList.foldl (fun acc f => match acc with
     | some ks => match cellsT P d f.type with
       | some l => if f.offset = ks.length ∧ P.cellsOf f.type = l.length then some (ks ++ l) else none
       | none => none
     | none => none) (some []) with
     | some ks => if P.cellsOf t = ks.length then some ks else none
     | none => none
   | _ => none

/-- Such an abstract value. -/
inductive CKA : CK → AV → Prop
 | int {k : IntKind} {z : Int} (h : (Lit.int k z).wf = true) : CKA (.int k) (.lit (.int k z))
 | bool {b : Bool} : CKA .bool (.lit (.bool b))
 | sl {ks : List CK} {n : Nat} {f : Nat → List AV} (hn : n ≤ maxLen) (hl : ∀ i, i < n → (f i).length = ks.length) (h : ∀ i j k, i < n → ks[j]? = some k → CKA k ((f i).getD j .any)) : CKA (.sl ks) (.rsl n ks.length f)

def CellIs (W : World) (k : CK) (v : Value) : Prop := ∃ av, CKA k av ∧ VRel (st0 W) av v
def CellsOk (W : World) (ks : List CK) (cs : List Value) : Prop := cs.length = ks.length ∧ ∀ (i : Nat) (k : CK) (v : Value), ks[i]? = some k → cs[i]? = some v → CellIs W k v

theorem CellsOk.append {W : World} {ks ls : List CK} {cs ds : List Value} (h : CellsOk W ks cs) (h' : CellsOk W ls ds) : CellsOk W (ks ++ ls) (cs ++ ds) := by
 refine ⟨by simp [h.1, h'.1], fun i k v hk hv => ?_⟩
 by_cases hi : i < ks.length
 ·rw [List.getElem?_append_left hi] at hk
  rw [List.getElem?_append_left (by rw [h.1]; exact hi)] at hv
  exact h.2 i k v hk hv
 ·rw [List.getElem?_append_right (by omega)] at hk
  rw [List.getElem?_append_right (by rw [h.1]; omega), h.1] at hv
  exact h'.2 _ k v hk hv

theorem trod_cells {H : Type} {enc : TypeId × Value → H} {P : Program} {W : World} {held : Bool} {sp : Nat → Bool} :
  ∀ (d fuel : Nat) (t : TypeId) (cs : List Value) (x : DataW H × List MemPlace) (ks : List CK), cellsT P d t = some ks → DataW.trod enc P W 0 sp held fuel t cs = some x → CellsOk W ks cs := by
 intro d
 induction d with
 | zero => intro fuel t cs x ks hg; cases hg
 | succ d ih =>
   intro fuel t cs x ks hg h
   cases fuel with
   | zero => cases h
   | succ fuel =>
     unfold cellsT at hg
     unfold DataW.trod at h
     cases hu : P.underlying t with
     | none => rw [hu] at hg; cases hg
     | some td =>
       rw [hu] at hg h
       cases td <;> simp only at hg <;> try (cases hg; done)
       case bool =>
        cases hg
        split at h <;> simp_all
        rename_i b
        exact ⟨rfl, fun i k v hk hv => by cases i <;> simp at hk hv; subst hk hv; exact ⟨_, .bool, .lit _⟩⟩
       case int k =>
        cases hg
        split at h <;> simp_all
        rename_i n hh
        exact ⟨rfl, fun i k v hk hv => by cases i <;> simp at hk hv; subst hk hv; exact ⟨_, .int h.1.2, .lit _⟩⟩
       case array n e =>
        cases hke : cellsT P d e with
        | none => rw [hke] at hg; cases hg
        | some lk =>
          rw [hke] at hg
          simp only at hg
          by_cases hc : P.cellsOf e = lk.length ∧ P.cellsOf t = n * lk.length
          case neg => rw [if_neg hc] at hg; cases hg
          rw [if_pos hc] at hg
          cases hg
          split at h <;> try (simp_all; done)
          case _ n' e' heq =>
           simp only [Option.some.injEq, TypeDesc.array.injEq] at heq
           obtain ⟨rfl, rfl⟩ := heq
           split at h
           case isFalse hl => cases h
           case isTrue hl =>
            rw [Option.map_eq_some_iff] at h
            obtain ⟨ys, hy, rfl⟩ := h
            have key : ∀ (c : List Value), (∀ i, i < n → ∃ y, DataW.trod enc P W 0 sp held fuel e ((c.drop (i * P.cellsOf e)).take (P.cellsOf e)) = some y) → ∀ m, m ≤ n → CellsOk W (List.replicate m lk).flatten (c.take (m * lk.length)) := by
             intro c hcy m
             induction m with
             | zero => intro _; exact ⟨by simp, fun i k v hk => by simp at hk⟩
             | succ m ihm =>
               intro hm
               have h0 := ihm (by omega)
               obtain ⟨y, h2⟩ := hcy m (by omega)
               have h3 := ih fuel e _ y lk hke h2
               rw [hc.1] at h3
               have := h0.append h3
               rw [List.replicate_succ', List.flatten_append, Nat.succ_mul, List.take_add]
               simpa using this
            have := key _ (fun i hi => by
             obtain ⟨y, _, h2⟩ := (mapM_get _ _ hy).2 i i (by simp [hi])
             exact ⟨y, h2⟩) n (Nat.le_refl _)
            rw [List.take_of_length_le (by rw [hl, hc.2]; exact Nat.le_refl _)] at this
            exact this
       case slice e =>
        cases hke : cellsT P d e with
        | none => rw [hke] at hg; cases hg
        | some lk =>
          rw [hke] at hg
          simp only at hg
          by_cases hc : P.cellsOf e = lk.length ∧ 0 < lk.length
          case neg => rw [if_neg hc] at hg; cases hg
          rw [if_pos hc] at hg
          cases hg
          obtain ⟨hsz, hpos⟩ := hc
          split at h <;> try (simp_all; done)
          ·rename_i heq
           refine ⟨rfl, fun i k v hk hv => ?_⟩
           cases i <;> simp at hk hv
           subst hk hv
           exact ⟨.rsl 0 lk.length fun _ => [], .sl (Nat.zero_le _) (fun i hi => by omega) (fun i j k hi => by omega), .rsl0⟩
          ·rename_i e' a len cap heq
           simp only [Option.some.injEq, TypeDesc.slice.injEq] at heq
           subst heq
           simp only at h
           split at h
           case isFalse hl => cases h
           case isTrue hl =>
            rw [Option.bind_eq_some_iff] at h
            obtain ⟨es, he, -⟩ := h
            let g : Nat → List Value := fun i => match W.cells? 0 (a.add (i * P.cellsOf e)) (P.cellsOf e) with
             | some c => c
             | none => []
            have hel : ∀ i, i < len → W.cells? 0 (a.add (i * P.cellsOf e)) (P.cellsOf e) = some (g i) ∧ CellsOk W lk (g i) := by
             intro i hi
             obtain ⟨y, _, hy⟩ := (mapM_get _ _ he).2 i i (by simp [hi])
             rw [Option.bind_eq_some_iff] at hy
             obtain ⟨c, h1, h2⟩ := hy
             have : g i = c := by simp only [g, h1]
             rw [this]
             exact ⟨h1, ih fuel e c y lk hke h2⟩
            -- the abstract cells
            have hch : ∀ i j, ∃ av, i < len → j < lk.length → ∃ k v, lk[j]? = some k ∧ (g i)[j]? = some v ∧ CKA k av ∧ VRel (st0 W) av v := by
             intro i j
             by_cases hi : i < len
             ·by_cases hj : j < lk.length
              ·obtain ⟨l1, l2⟩ := (hel i hi).2
               obtain ⟨av, c1, c2⟩ := l2 j lk[j] (g i)[j] (List.getElem?_eq_getElem hj) (List.getElem?_eq_getElem (by omega))
               exact ⟨av, fun _ _ => ⟨_, _, List.getElem?_eq_getElem hj, List.getElem?_eq_getElem (by omega), c1, c2⟩⟩
              ·exact ⟨.any, fun _ x => absurd x hj⟩
             ·exact ⟨.any, fun x => absurd x hi⟩
            have hf := fun i => Classical.axiomOfChoice (hch i)
            obtain ⟨F, hF⟩ := Classical.axiomOfChoice hf
            have hget : ∀ i j, j < lk.length → ((List.range lk.length).map (F i)).getD j .any = F i j := fun i j hj => by
             rw [List.getD_eq_getElem?_getD, List.getElem?_map, List.getElem?_range hj]; rfl
            refine ⟨rfl, fun i k v hk hv => ?_⟩
            cases i <;> simp at hk hv
            subst hk hv
            refine ⟨.rsl len lk.length fun i => (List.range lk.length).map (F i), .sl (Nat.le_trans hl.2.1 hl.2.2) (fun i hi => by simp) (fun i j k hi hk => ?_), ?_⟩
            ·have hj := (List.getElem?_eq_some_iff.1 hk).1
             rw [hget i j hj]
             obtain ⟨k', v, h1, h2, h3, h4⟩ := hF i j hi hj
             rw [hk] at h1; cases h1
             exact h3
            by_cases h0 : len = 0
            ·subst h0; exact .rsl0
            have hcell : ∀ i j, i < len → j < lk.length → ∃ u, (g i)[j]? = some u ∧ W.cell? ((a.add (i * P.cellsOf e)).add j) = some u := by
             intro i j hi hj
             have h1 := (hel i hi).1
             unfold World.cells? at h1
             rw [if_pos (Nat.zero_le _)] at h1
             exact (mapM_get _ _ h1).2 j j (by simp [hsz, hj])
            obtain ⟨b, off, spot⟩ := a
            obtain ⟨u0, _, hc0⟩ := hcell 0 0 (by omega) hpos
            rw [show ((⟨b, off, spot⟩ : Addr).add (0 * P.cellsOf e)).add 0 = ⟨b, off, spot⟩ from by simp [Addr.add]] at hc0
            unfold World.cell? at hc0
            split at hc0
            case h_2 => cases hc0
            case h_1 c ct fz hb =>
             have hspot : spot = none := by
              cases spot with
              | none => rfl
              | some s => simp at hc0
             subst hspot
             have hadd : ∀ i j, (((⟨b, off, none⟩ : Addr).add (i * P.cellsOf e)).add j) = ⟨b, off + i * P.cellsOf e + j, none⟩ := fun i j => by rw [addr_add, addr_add]
             have hall : ∀ i j, i < len → j < lk.length → ∃ u, (g i)[j]? = some u ∧ c[off + i * lk.length + j]? = some u := by
              intro i j hi hj
              obtain ⟨u, h1, h2⟩ := hcell i j hi hj
              rw [hadd] at h2
              unfold World.cell? at h2
              simp only at hb
              rw [show W.heap[(⟨b, off + i * P.cellsOf e + j, none⟩ : Addr).block]? = some (.cells c ct fz) from hb] at h2
              simp only [Option.isSome_none, Bool.false_eq_true, if_false, hsz] at h2
              exact ⟨u, h1, h2⟩
             refine .rsl (c := c) (e := ct) (fz := fz) ?_ hb ?_ (fun i hi => by simp) (fun i j hi hj => ?_) hl.2.1
             ·exact (Array.getElem?_eq_some_iff.1 hb).1
             ·obtain ⟨u, _, h2⟩ := hall (len - 1) (lk.length - 1) (by omega) (by omega)
              have := (Array.getElem?_eq_some_iff.1 h2).1
              have e1 : len * lk.length = (len - 1) * lk.length + lk.length := by
               obtain ⟨q, rfl⟩ : ∃ q, len = q + 1 := ⟨len - 1, by omega⟩
               rw [Nat.add_sub_cancel, Nat.succ_mul]
              omega
             ·obtain ⟨u, h1, h2⟩ := hall i j hi hj
              obtain ⟨k', v, q1, q2, q3, q4⟩ := hF i j hi hj
              rw [h1] at q2; cases q2
              rw [hget i j hj, Array.getD_eq_getD_getElem?, h2]
              exact q4
       case struct fs =>
        split at h <;> try (simp_all; done)
        case _ fs' heq =>
         simp only [Option.some.injEq, TypeDesc.struct.injEq] at heq
         subst heq
         split at h
         case isFalse hl => cases h
         case isTrue hl =>
          rw [Option.map_eq_some_iff] at h
          obtain ⟨ys, hy, rfl⟩ := h
          have key : ∀ (c : List Value) (l : List Field) (acc ks : List CK), (∀ f ∈ l, ∃ y, DataW.trod enc P W 0 sp held fuel f.type ((c.drop f.offset).take (P.cellsOf f.type)) = some y) → CellsOk W acc (c.take acc.length) →
            l.foldl (fun acc f => match acc with
             | some ks => match cellsT P d f.type with
               | some l => if f.offset = ks.length ∧ P.cellsOf f.type = l.length then some (ks ++ l) else none
               | none => none
             | none => none) (some acc) = some ks → CellsOk W ks (c.take ks.length) := by
           intro c l
           induction l with
           | nil => intro acc ks _ ha he; simp at he; subst he; exact ha
           | cons f l ih2 =>
             intro acc ks hf ha he
             simp only [List.foldl_cons] at he
             have hnone : ∀ l : List Field, l.foldl (fun acc f => match acc with
              | some ks => match cellsT P d f.type with
                | some l => if f.offset = ks.length ∧ P.cellsOf f.type = l.length then some (ks ++ l) else none
                | none => none
              | none => none) none = (none : Option (List CK)) := by
              intro l; induction l with
              | nil => rfl
              | cons a l ih => simpa using ih
             cases hl2 : cellsT P d f.type with
             | none => rw [hl2] at he; simp only at he; rw [hnone] at he; cases he
             | some lk =>
               rw [hl2] at he
               simp only at he
               by_cases hc : f.offset = acc.length ∧ P.cellsOf f.type = lk.length
               ·rw [if_pos hc] at he
                obtain ⟨y, hy⟩ := hf f (by simp)
                have := ih fuel f.type _ y lk hl2 hy
                rw [hc.1, hc.2] at this
                have hap := ha.append this
                refine ih2 (acc ++ lk) ks (fun g hg => hf g (by simp [hg])) ?_ he
                rw [List.length_append, List.take_add]
                exact hap
               ·rw [if_neg hc, hnone] at he; cases he
          split at hg
          case h_2 => cases hg
          case h_1 ks' he =>
           split at hg
           case isFalse => cases hg
           case isTrue hc =>
            cases hg
            have := key _ fs.toList [] ks (fun f hf => by
             obtain ⟨i, hi⟩ := List.getElem?_of_mem hf
             obtain ⟨y, _, h2⟩ := (mapM_get _ _ hy).2 i f hi
             exact ⟨y, h2⟩) ⟨by simp, fun i k v hk => by simp at hk⟩ he
            rw [List.take_of_length_le (by rw [hl, hc]; exact Nat.le_refl _)] at this
            exact this

end Go.V
end
section
set_option linter.unusedVariables false
set_option linter.unusedSimpArgs false
namespace Go.V
set_option linter.unusedSectionVars false
variable [Inhabited GivT]
open Go.ChangeShapes
theorem AV.Le.rslD {n st : Nat} {f g : Nat → List AV} (h : ∀ i, i < n → (g i).length = st ∧ ∀ j, j < st → AV.Le ((f i).getD j .any) ((g i).getD j .any)) : AV.Le (.rsl n st f) (.rsl n st g) := by
 intro S v hv
 cases hv with
 | rsl0 => exact .rsl0
 | rsl hi hb hsz hf hh hcap => exact .rsl hi hb hsz (fun i hi => (h i hi).1) (fun i j hi hj => (h i hi).2 j hj _ _ (hh i j hi hj)) hcap
theorem AV.Le.aggD {cs ds : List AV} (hl : ds.length = cs.length) (h : ∀ j, j < cs.length → AV.Le (cs.getD j .any) (ds.getD j .any)) : AV.Le (.agg cs) (.agg ds) := by
 intro S v hv
 cases hv with
 | agg hn hh => exact .agg (hn.trans hl.symm) fun k hk => h k (by omega) _ _ (hh k (by omega))

/-- Cells that are told. -/
def Told (ks : List CK) (cs : List AV) : Prop := cs.length = ks.length ∧ ∀ j k, ks[j]? = some k → CKA k (cs.getD j .any)

/-- A struct that is handed in. -/
theorem trod_agg {H : Type} {enc : TypeId × Value → H} {P : Program} {W : World} {held : Bool} {sp : Nat → Bool} {t dd : Nat} {v : Value} {d : DataW H} {ps : List MemPlace} {ks : List CK}
  (hk : cellsT P dd t = some ks) (hn : 2 ≤ ks.length) (h : DataW.Trod enc P W 0 sp held t v d ps) : ∃ cs : List AV, Told ks cs ∧ VRel (st0 W) (.agg cs) v := by
 obtain ⟨fuel, h⟩ := h
 obtain ⟨hl, hz⟩ := trod_cells dd fuel t _ _ ks hk h
 cases v with
 | agg vs =>
   simp only [Value.cells] at hl hz
   have hl2 : vs.size = ks.length := by simpa using hl
   have hch : ∀ j : Nat, ∃ av : AV, ∀ (k : CK) (u : Value), ks[j]? = some k → vs[j]? = some u → CKA k av ∧ VRel (st0 W) av u := fun j => by
    cases hkj : ks[j]? with
    | none => exact ⟨.any, fun k u h => by cases h⟩
    | some k =>
      cases hvj : vs[j]? with
      | none => exact ⟨.any, fun k u _ h => by cases h⟩
      | some u =>
        obtain ⟨av, h1, h2⟩ := hz j k u hkj (by simpa using hvj)
        exact ⟨av, fun k' u' e1 e2 => by cases e1; cases e2; exact ⟨h1, h2⟩⟩
   obtain ⟨F, hF⟩ := Classical.axiomOfChoice hch
   have hget : ∀ j, j < ks.length → ((List.range ks.length).map F).getD j .any = F j := fun j hj => by
    rw [List.getD_eq_getElem?_getD, List.getElem?_map, List.getElem?_range hj]; rfl
   refine ⟨(List.range ks.length).map F, ⟨by simp, fun j k hk => ?_⟩, .agg (by simpa using hl2) fun j hj => ?_⟩
   ·have hj := (List.getElem?_eq_some_iff.1 hk).1
    rw [hget j hj]
    exact (hF j k vs[j] hk (by simp [show j < vs.size by omega])).1
   ·have hj : j < ks.length := by simpa using hj
    rw [hget j hj, Array.getD_eq_getD_getElem?, Array.getElem?_eq_getElem (by omega)]
    exact (hF j ks[j] vs[j] (List.getElem?_eq_getElem hj) (by simp [show j < vs.size by omega])).2
 | _ => simp [Value.cells] at hl; omega
/-- A slice of what can be told. -/
theorem told_slice {α : Type} {ks : List CK} (en : α → List AV) (d0 : α) (hd : ∀ cs, Told ks cs → ∃ x : α, (en x).length = ks.length ∧ ∀ j, j < ks.length → AV.Le (cs.getD j .any) ((en x).getD j .any)) {av : AV} (h : CKA (.sl ks) av) :
  ∃ l : List α, l.length ≤ maxLen ∧ AV.Le av (.rsl l.length ks.length fun i => en (l.getD i d0)) := by
 cases h with
 | @sl _ n f hn hl hh =>
   have hch : ∀ i, ∃ x : α, i < n → (en x).length = ks.length ∧ ∀ j, j < ks.length → AV.Le ((f i).getD j .any) ((en x).getD j .any) := fun i => by
    by_cases hi : i < n
    ·obtain ⟨x, h1⟩ := hd (f i) ⟨hl i hi, fun j k hk => hh i j k hi hk⟩
     exact ⟨x, fun _ => h1⟩
    ·exact ⟨d0, fun x => absurd x hi⟩
   obtain ⟨F, hF⟩ := Classical.axiomOfChoice hch
   refine ⟨(List.range n).map F, by simpa using hn, ?_⟩
   rw [List.length_map, List.length_range]
   refine AV.Le.rslD fun i hi => ?_
   have e : ((List.range n).map F).getD i d0 = F i := by
    rw [List.getD_eq_getElem?_getD, List.getElem?_map, List.getElem?_range hi]; rfl
   rw [e]
   exact hF i hi
theorem told_int {cs : List AV} {k : IntKind} (j : Nat) {ks : List CK} (h : Told ks cs) (hk : ks[j]? = some (.int k)) : ∃ z : Int, cs.getD j .any = .lit (.int k z) ∧ (Lit.int k z).wf = true := by
 have := h.2 j _ hk
 generalize cs.getD j .any = x at *
 cases this with
 | int hw => exact ⟨_, rfl, hw⟩
end Go.V
end
section
set_option linter.unusedVariables false
set_option linter.unusedSimpArgs false
set_option maxHeartbeats 4000000
set_option maxRecDepth 100000
namespace Go.Proofs.YtdopkbldjagmlaaGreat
open Go.V
theorem gsample_tri (n : Int) (H : Hp) : PTri Tryz.prog (fnA 34) [i64 n] H (smG n).av := by
 refine Tri.resLe (R1 := fun r H' => r = .ret (.agg [.rsl 3 4 (fun i => [[i64 20, i64 2, i64 12, i64 (-1)], [i64 12, i64 0, i64 n, i64 0], [i64 9, i64 3, i64 12, i64 1]].getD i []), .rsl 2 3 (fun i => [[i64 5, i64 6, i64 7], [i64 4, i64 4, i64 6]].getD i []), i64 8, i64 1, i64 16, .rsl 2 1 (fun i => [[i64 4], [i64 0]].getD i []), .rsl 2 3 (fun i => [[i64 4, i64 0, i64 8], [i64 6, i64 0, i64 8]].getD i [])]) ∧ H' = H) ?_ fun r H' h => .inr ⟨_, (smG n).av, h.1, ?_, rfl, h.2⟩
 ·refine Tri.drop ?_
  refine tri_v0 (fun _ => false) Tryz.func34 (by kernel_rfl) rfl (by simp only [List.length_append, List.length_cons, List.length_nil, Tryz.ntmps34]; decide) ?_
  simp only [vsAll, cellA, cellsA, fillA, okParts, buildSliceA, partIdx, elemsA, lensA, okAll, stAll, opsA, partsA, partsOk, opA, allocA, dstOk, argFr, Nat.reduceAdd, Nat.reduceMul, Nat.reduceLT, Nat.reduceLeDiff, Nat.reduceEqDiff, Int.reduceNeg, ↓reduceIte, reduceCtorEq, eq_self, wtAll, Tryz.ntmps34]
  intro i2 hh_i2; (try simp only [Hp.set_none, ite_none] at hh_i2)
  refine callK_pure (gspan_tri 5 6 _) ?_
  simp only [vsAll, cellA, cellsA, fillA, okParts, okAll, stAll, opsA, partsA, partsOk, opA, dstOk, Nat.reduceAdd, Nat.reduceLT, Nat.reduceLeDiff, Int.reduceNeg, ↓reduceIte, eq_self, wtAll]
  refine callK_pure (gspan_tri 4 4 _) ?_
  simp only [vsAll, loadA, loadRow, partA, partOk, cellA, cellsA, fillA, okParts, buildSliceA, partIdx, elemsA, lensA, partsA, partsOk, opA, newCells, okCells, storeObj, dstOk, resA, retA.eq_1, Nat.reduceAdd, Nat.reduceMul, Nat.reduceLT, Nat.reduceLeDiff, Nat.reduceEqDiff, Int.reduceNeg, ↓reduceIte, eq_self, wtAll, Tryz.results34]
  exact dropR_pure rfl (by (repeat (first | exact HSub_rfl | refine HSub_put_eq (by simp only [vsAll, ↓reduceIte, eq_self, reduceCtorEq, Nat.reduceEqDiff, hh_i2]) ?_ | refine HSub_drop2 (by simp only [eq_self, hh_i2]) ?_ | refine HSub_keep_eq (by simp only [vsAll, ↓reduceIte, eq_self, reduceCtorEq, Nat.reduceEqDiff, hh_i2]) ?_)))
 ·refine AV.Le.aggD rfl fun j hj => ?_
  match j, hj with
  | 0, _ =>
    refine AV.Le.rsl fun i hi => ?_
    match i, hi with
    | 0, _ => rfl
    | 1, _ => rfl
    | 2, _ => rfl
  | 1, _ =>
    refine AV.Le.rsl fun i hi => ?_
    match i, hi with
    | 0, _ => rfl
    | 1, _ => rfl
  | 2, _ => exact AV.Le.refl _
  | 3, _ => exact AV.Le.refl _
  | 4, _ => exact AV.Le.refl _
  | 5, _ =>
    refine AV.Le.rsl fun i hi => ?_
    match i, hi with
    | 0, _ => rfl
    | 1, _ => rfl
  | 6, _ =>
    refine AV.Le.rsl fun i hi => ?_
    match i, hi with
    | 0, _ => rfl
    | 1, _ => rfl
theorem gint2 (a b : Int) : AV.Le (.rsl 2 1 (fun i => [[i64 a], [i64 b]].getD i [])) (intsAV [a, b]) := AV.Le.rsl fun i hi => by
 match i, hi with
 | 0, _ => rfl
 | 1, _ => rfl
theorem gint3 (a b c : Int) : AV.Le (.rsl 3 1 (fun i => [[i64 a], [i64 b], [i64 c]].getD i [])) (intsAV [a, b, c]) := AV.Le.rsl fun i hi => by
 match i, hi with
 | 0, _ => rfl
 | 1, _ => rfl
 | 2, _ => rfl
theorem gint4 (a b c d : Int) : AV.Le (.rsl 4 1 (fun i => [[i64 a], [i64 b], [i64 c], [i64 d]].getD i [])) (intsAV [a, b, c, d]) := AV.Le.rsl fun i hi => by
 match i, hi with
 | 0, _ => rfl
 | 1, _ => rfl
 | 2, _ => rfl
 | 3, _ => rfl
theorem gsp3 (a b c d e f : Int) : AV.Le (.rsl 3 2 (fun i => [[i64 a, i64 b], [i64 c, i64 d], [i64 e, i64 f]].getD i [])) (spaAV [(a, b), (c, d), (e, f)]) := AV.Le.rsl fun i hi => by
 match i, hi with
 | 0, _ => rfl
 | 1, _ => rfl
 | 2, _ => rfl
theorem args2 {f : Nat} {x y y' : AV} {H : Hp} {v : AV} (h : PTri Tryz.prog (fnA f) [x, y'] H v) (hy : AV.Le y y') : PTri Tryz.prog (fnA f) [x, y] H v := Tri.args h rfl fun j hj => by
 match j, hj with
 | 0, _ => exact AV.Le.refl _
 | 1, _ => exact hy
theorem args3 {f : Nat} {x z y y' : AV} {H : Hp} {v : AV} (h : PTri Tryz.prog (fnA f) [x, z, y'] H v) (hy : AV.Le y y') : PTri Tryz.prog (fnA f) [x, z, y] H v := Tri.args h rfl fun j hj => by
 match j, hj with
 | 0, _ => exact AV.Le.refl _
 | 1, _ => exact AV.Le.refl _
 | 2, _ => exact hy
theorem awake_tri (H : Hp) : PTri Tryz.prog (fnA 8) [] H (boo true) := by
 have kn := sm_ok.near
 have kn8 := sm_ok8.near
 refine Tri.drop ?_
 refine tri_v0 (fun _ => false) Tryz.func8 (by kernel_rfl) rfl (by simp only [List.length_append, List.length_nil, Tryz.ntmps8]; decide) ?_
 simp only [vsAll, okAll, stAll, opsA, opA, dstOk, nilSliceOp, Nat.reduceLT, eq_self, Tryz.ntmps8]
 refine callK_pure (gsample_tri 10 _) ?_
 simp only [vsAll, loadA, loadRow, partA, partOk, cellA, okAll, stAll, opsA, opA, allocA, newCells, okCells, storeObj, dstOk, Nat.reduceAdd, Nat.reduceLT, Nat.reduceEqDiff, ↓reduceIte, eq_self, wtAll]
 intro i1 hh_i1; (try simp only [Hp.set_none, ite_none] at hh_i1)
 refine callK_pure (wready_tri (smG 10) 1 _ kn) ?_
 simp only [vsAll, loadA, loadRow, partA, partOk, extractA, cellA, cellsA, okParts, buildSliceA, partIdx, elemsA, lensA, okAll, stAll, opsA, partsA, partsOk, opA, dstOk, nilSliceOp, Nat.reduceAdd, Nat.reduceMul, Nat.reduceLT, Nat.reduceLeDiff, Nat.reduceEqDiff, ↓reduceIte, eq_self, wtAll, sm1, sm2]
 refine callK_pure (args3 (wrow_tri (smG 10) 0 [0, 1, 2] _ kn (by decide)) (gint3 0 1 2)) ?_
 simp only [vsAll, loadA, loadRow, partA, partOk, extractA, cellA, cellsA, okParts, buildSliceA, partIdx, elemsA, lensA, okAll, stAll, opsA, partsA, partsOk, opA, dstOk, nilSliceOp, Nat.reduceAdd, Nat.reduceMul, Nat.reduceLT, Nat.reduceLeDiff, Nat.reduceEqDiff, ↓reduceIte, eq_self, wtAll, sm3, sm4]
 refine callK_pure (args3 (wchk_tri (smG 10) 0 [1, 0] _ kn (by decide)) (gint2 1 0)) ?_
 simp only [vsAll, loadA, loadRow, partA, partOk, extractA, okAll, stAll, opsA, opA, dstOk, nilSliceOp, Nat.reduceAdd, Nat.reduceLT, Nat.reduceEqDiff, ↓reduceIte, eq_self, wtAll, sm5, sm6]
 refine callK_pure (wcan_tri (smG 10) 1 6 _ kn) ?_
 simp only [vsAll, loadA, loadRow, partA, partOk, extractA, okAll, stAll, opsA, opA, dstOk, nilSliceOp, Nat.reduceAdd, Nat.reduceLT, Nat.reduceEqDiff, ↓reduceIte, eq_self, wtAll, sm7, sm8]
 refine callK_pure (wsets_tri (smG 10) 1 _ kn) ?_
 simp only [vsAll, loadA, loadRow, partA, partOk, extractA, okAll, stAll, opsA, opA, dstOk, nilSliceOp, Nat.reduceAdd, Nat.reduceLT, Nat.reduceEqDiff, ↓reduceIte, eq_self, wtAll, sm9, sm10]
 refine callK_pure (wdeal_tri (smG 10) _ kn) ?_
 simp only [vsAll, loadA, loadRow, partA, partOk, extractA, okAll, stAll, opsA, opA, dstOk, nilSliceOp, Nat.reduceAdd, Nat.reduceLT, Nat.reduceEqDiff, ↓reduceIte, eq_self, wtAll, sm11, sm12, sm13]
 refine callK_pure (wenough_tri (smG 10) _ kn) ?_
 simp only [vsAll, extractA, okAll, stAll, opsA, opA, dstOk, nilSliceOp, Nat.reduceAdd, Nat.reduceLT, Nat.reduceEqDiff, ↓reduceIte, eq_self, sm14, sm15]
 refine callK_pure (gsample_tri 8 _) ?_
 simp only [vsAll, okAll, stAll, opsA, opA, dstOk, Nat.reduceLT, ↓reduceIte, eq_self]
 refine callK_pure (wleave_tri (smG 8) _ kn8) ?_
 simp only [vsAll, loadA, loadRow, partA, partOk, extractA, okAll, stAll, opsA, opA, dstOk, nilSliceOp, Nat.reduceAdd, Nat.reduceLT, Nat.reduceEqDiff, ↓reduceIte, eq_self, wtAll, sm16, sm17]
 refine callK_pure (wcan_tri (smG 10) 0 7 _ kn) ?_
 simp only [vsAll, binA, binLitA, intA, extractA, pickA, opA, guardV, dstOk, nilSliceOp, Nat.reduceAdd, Nat.reduceLT, Nat.reduceEqDiff, ↓reduceIte, implies_true, eq_self, sm18, sm19]
 refine gcall _ (fun hg => ⟨by simp only [vsAll, opA], by simp only [vsAll, okAll, opsA, opA], gspan_tri 6 6 _⟩) ?_
 simp only [vsAll, guardV, dstOk, Nat.reduceLT, Nat.reduceEqDiff, ↓reduceIte, eq_self]
 refine gcall _ (fun hg => ⟨by simp only [vsAll, opA], by simp only [vsAll, okAll, opsA, opA], gspan_tri 8 9 _⟩) ?_
 simp only [vsAll, guardV, dstOk, Nat.reduceLT, Nat.reduceEqDiff, ↓reduceIte, eq_self]
 refine gcall _ (fun hg => ⟨by simp only [vsAll, opA], by simp only [vsAll, okAll, opsA, opA], gspan_tri 10 11 _⟩) ?_
 simp only [vsAll, cellsA, okParts, buildSliceA, partIdx, elemsA, lensA, partsA, partsOk, opA, guardV, dstOk, Nat.reduceAdd, Nat.reduceMul, Nat.reduceLT, Nat.reduceLeDiff, Nat.reduceEqDiff, ↓reduceIte, eq_self, wtAll]
 refine gcall (boo true) (fun hg => ⟨by simp only [vsAll, opA], by simp only [vsAll, okAll, opsA, opA, Nat.reduceEqDiff, ↓reduceIte, eq_self], args2 (gspans_tri [(6, 6), (8, 9), (10, 11)] [(6, 6), (8, 9), (10, 11)] _ (by decide) (by decide)) (gsp3 6 6 8 9 10 11)⟩) ?_
 simp only [vsAll, binA, binLitA, intA, unA, cellA, cellsA, okParts, buildSliceA, partIdx, elemsA, lensA, pickA, partsA, partsOk, opA, guardV, dstOk, Nat.reduceAdd, Nat.reduceMul, Nat.reduceLT, Nat.reduceLeDiff, Nat.reduceEqDiff, ↓reduceIte, implies_true, eq_self, wtAll]
 refine gcall (boo true) (fun hg => ⟨by simp only [vsAll, opA], by simp only [vsAll, okAll, opsA, opA, Nat.reduceEqDiff, ↓reduceIte, eq_self], args2 (gints_tri [1, 2] [1, 2] _ (by decide) (by decide)) (gint2 1 2)⟩) ?_
 simp only [vsAll, binA, binLitA, intA, unA, cellA, cellsA, okParts, buildSliceA, partIdx, elemsA, lensA, pickA, partsA, partsOk, opA, guardV, dstOk, Nat.reduceAdd, Nat.reduceMul, Nat.reduceLT, Nat.reduceLeDiff, Nat.reduceEqDiff, ↓reduceIte, implies_true, eq_self, wtAll]
 refine gcall (boo true) (fun hg => ⟨by simp only [vsAll, opA], by simp only [vsAll, okAll, opsA, opA, Nat.reduceEqDiff, ↓reduceIte, eq_self], args2 (gints_tri [0, 1, 2] [0, 1, 2] _ (by decide) (by decide)) (gint3 0 1 2)⟩) ?_
 simp only [vsAll, binA, binLitA, intA, unA, cellA, cellsA, okParts, buildSliceA, partIdx, elemsA, lensA, pickA, okAll, stAll, opsA, partsA, partsOk, opA, guardV, dstOk, Nat.reduceAdd, Nat.reduceMul, Nat.reduceLT, Nat.reduceLeDiff, Nat.reduceEqDiff, ↓reduceIte, implies_true, eq_self, wtAll]
 refine callK_pure (v := boo true) (args2 (gints_tri [0, 2, 4, 6] [0, 2, 4, 6] _ (by decide) (by decide)) (gint4 0 2 4 6)) ?_
 simp only [vsAll, binA, binLitA, intA, cellA, cellsA, okParts, buildSliceA, partIdx, elemsA, lensA, pickA, partsA, partsOk, opA, guardV, dstOk, Nat.reduceAdd, Nat.reduceMul, Nat.reduceLT, Nat.reduceLeDiff, Nat.reduceEqDiff, ↓reduceIte, implies_true, eq_self, wtAll]
 refine gcall (boo true) (fun hg => ⟨by simp only [vsAll, opA], by simp only [vsAll, okAll, opsA, opA, Nat.reduceEqDiff, ↓reduceIte, eq_self], args2 (gints_tri [0, 0, 1] [0, 0, 1] _ (by decide) (by decide)) (gint3 0 0 1)⟩) ?_
 simp only [vsAll, binA, binLitA, intA, pickA, opA, guardV, dstOk, nilSliceOp, resA, retA.eq_1, Nat.reduceLT, Nat.reduceEqDiff, ↓reduceIte, implies_true, eq_self, Tryz.results8]
 exact dropR_pure rfl (by (repeat (first | exact HSub_rfl | refine HSub_put_eq (by simp only [vsAll, ↓reduceIte, eq_self, reduceCtorEq, Nat.reduceEqDiff, hh_i1]) ?_ | refine HSub_drop2 (by simp only [eq_self, hh_i1]) ?_ | refine HSub_keep_eq (by simp only [vsAll, ↓reduceIte, eq_self, reduceCtorEq, Nat.reduceEqDiff, hh_i1]) ?_)))
end Go.Proofs.YtdopkbldjagmlaaGreat
end
section
set_option linter.unusedVariables false
set_option linter.unusedSimpArgs false
set_option maxHeartbeats 4000000
set_option maxRecDepth 100000
namespace Go.Proofs.YtdopkbldjagmlaaGreat
open Go.V
/-- Places of one pot, at least 1. -/
def hvM (g : Gg) : Nat := (max 1 ((g.pt.fs.length : Int) * g.pt.hr)).toNat
def heavyB (g : Gg) (n : Nat) (a b : Int) : Bool := if farG g n = true then true else if OkG g then decide (a < ((hvM g ^ g.pt.ps.length : Nat) : Int)) || decide (b < (g.sm.length : Int)) else false
end Go.Proofs.YtdopkbldjagmlaaGreat
end
section
set_option linter.unusedVariables false
set_option linter.unusedSimpArgs false
namespace Go.Proofs.YtdopkbldjagmlaaGreat
open Go.V
/-- The least of some rows' ends, and of an hour. -/
def sooF (g : Gg) (c : Nat) (x : Int) (L : List (List Int)) : Int := L.foldl (fun a l => min a (lastT g c l)) x
theorem sooF_app (g : Gg) (c : Nat) (x : Int) (L M : List (List Int)) : sooF g c x (L ++ M) = sooF g c (sooF g c x L) M := by
 simp [sooF, List.foldl_append]
theorem sooF_one (g : Gg) (c : Nat) (x : Int) (l : List Int) : sooF g c x [l] = min x (lastT g c l) := rfl
theorem sooF_nil (g : Gg) (c : Nat) (x : Int) : sooF g c x [] = x := rfl
theorem snoc_indA {α : Type} {P : List α → Prop} (h0 : P []) (h1 : ∀ b x, P b → P (b ++ [x])) (l : List α) : P l := by
 rw [← List.reverse_reverse l]
 induction l.reverse with
 | nil => exact h0
 | cons x l ih => rw [List.reverse_cons]; exact h1 _ _ ih
theorem sooF_comb (g : Gg) (c : Nat) : ∀ (L : List (List Int)) (x : Int), sooF g c x L = ((comb min (some x) (foldJ min (L.map (lastT g c)))).getD 0) := by
 intro L
 refine snoc_indA (P := fun L => ∀ x : Int, sooF g c x L = ((comb min (some x) (foldJ min (L.map (lastT g c)))).getD 0)) ?_ (fun M l ih => ?_) L
 ·intro x; rfl
 ·intro x
  rw [sooF_app, sooF_one, ih x, List.map_append, foldJ_app]
  show min ((comb min (some x) (foldJ min (M.map (lastT g c)))).getD 0) (lastT g c l) = ((comb min (some x) (comb min (foldJ min (M.map (lastT g c))) (some (lastT g c l)))).getD 0)
  cases foldJ min (M.map (lastT g c)) with
  | none => rfl
  | some y => exact min3 x y (lastT g c l)
/-- The hour at which a crew is done soonest with a set; 99: never. -/
def sooV (g : Gg) (c S : Nat) : Int := (endO g c S).getD 99
theorem soo_eq {g : Gg} (k : OkG g) {c S : Nat} (hc : c < g.cw.length) (hS : S < 2 ^ g.N) : sooF g c 99 (rowsL g c S) = sooV g c S := by
 rw [sooF_comb]
 have e : foldJ min ((rowsL g c S).map (lastT g c)) = endO g c S := rfl
 rw [e]
 unfold sooV
 cases h : endO g c S with
 | none => rfl
 | some t =>
   have := end_le k hc hS h
   show min 99 t = t
   omega
def whN (g : Gg) (f : Nat → Nat) : Nat → Int
 | 0 => 0
 | c + 1 => max (whN g f c) (sooV g c (f c))
theorem wh_dom {g : Gg} (k : OkG g) {f : Nat → Nat} : ∀ n, n ≤ g.cw.length → (∀ c, c < n → f c < 2 ^ g.N) → whN g f n = (domN g f n).getD 99
 | 0, _, _ => rfl
 | n + 1, hn, hf => by
   have ih := wh_dom k n (by omega) fun c hc => hf c (by omega)
   simp only [whN, domN, ih]
   have hs : sooV g n (f n) = (endO g n (f n)).getD 99 := rfl
   cases h1 : domN g f n with
   | none =>
     have : sooV g n (f n) ≤ 99 := by
      rw [hs]
      cases h2 : endO g n (f n) with
      | none => exact Int.le_refl _
      | some t =>
        have := end_le k (by omega) (hf n (by omega)) h2
        show t ≤ 99
        omega
     show max (99 : Int) _ = 99
     omega
   | some a =>
     have := dom_le k (by omega) (fun c hc => hf c (by omega)) h1
     rw [hs]
     cases h2 : endO g n (f n) with
     | none =>
       show max a 99 = 99
       omega
     | some b => rfl
def whV (g : Gg) (l : List Int) : Int := (domO g l).getD 99
theorem wh_domO {g : Gg} (k : OkG g) {l : List Int} (h : l.length ≤ g.N) : whN g (crS l) g.cw.length = whV g l := wh_dom k _ (Nat.le_refl _) fun c _ => crS_lt' h c
theorem grd_pre (g : Gg) (m : Int) : ∀ n b, ∃ s, grdD g m n b = b ++ s
 | 0, b => ⟨[], by simp [grdD]⟩
 | n + 1, b => by
   simp only [grdD]
   cases (List.range g.cw.length).find? (fun c : Nat => decide (dO g g.F g.A n (b ++ [(c : Int)]) = some m)) with
   | none => exact ⟨[], by simp⟩
   | some c =>
     obtain ⟨s, e⟩ := grd_pre g m n (b ++ [(c : Int)])
     exact ⟨(c : Int) :: s, by simp [e]⟩
theorem grd_lex {g : Gg} {m : Int} {own : List Int} (hd : DealOf g g.F g.A own) (hm : domI g own = m) (hle : ∀ l ∈ dlsL g g.F g.A, m ≤ domI g l) :
  ∀ n b s, own = b ++ s → s.length = n → b.length + n = g.N → ∀ j, j < g.N → (∀ q, q < j → (grdD g m n b).getD q 0 = own.getD q 0) → (grdD g m n b).getD j 0 ≤ own.getD j 0 := by
 intro n
 induction n with
 | zero =>
   intro b s e hs hb j hj _
   have : s = [] := List.length_eq_zero_iff.1 hs
   subst this
   rw [e, List.append_nil]
   exact Int.le_refl _
 | succ n ih =>
   intro b s e hs hb j hj hq
   obtain ⟨x, s', rfl⟩ : ∃ x s', s = x :: s' := by
    cases s with
    | nil => simp at hs
    | cons x s' => exact ⟨x, s', rfl⟩
   have hs' : s'.length = n := by simpa using hs
   have eo : own = (b ++ [x]) ++ s' := by rw [e]; simp
   have hbl : (b ++ [x]).length = b.length + 1 := by simp
   have hat : own.getD b.length 0 = x := by rw [e]; simp [List.getD_eq_getElem?_getD]
   have hcr := hd.at_ b.length (by omega)
   unfold crOk at hcr
   rw [if_pos (F_bit g (by omega)), hat] at hcr
   obtain ⟨c0, rfl, hc0, hb0⟩ := hcr
   have hmem : own ∈ dls g g.F g.A n (b ++ [(c0 : Int)]) := by
    rw [mem_dls]
    refine ⟨s', eo, hs', fun i hi => ?_, hd.dom⟩
    have h1 := hd.at_ (b.length + 1 + i) (by omega)
    have h2 : own.getD (b.length + 1 + i) 0 = s'.getD i 0 := by
     rw [eo, List.getD_eq_getElem?_getD, List.getElem?_append_right (by rw [hbl]; omega), hbl, List.getD_eq_getElem?_getD]
     congr 2
     omega
    rw [h2] at h1
    rw [hbl]
    exact h1
   have hsub : ∀ l ∈ dls g g.F g.A n (b ++ [(c0 : Int)]), m ≤ domI g l := fun l hl => by
    refine hle l ?_
    obtain ⟨t, h1, h2, h3, h4⟩ := (mem_dls _ _ _).1 hl
    rw [mem_deals]
    refine ⟨by rw [h1, List.length_append, hbl]; omega, fun i hi => ?_, h4⟩
    by_cases hi2 : i < b.length + 1
    ·have h5 := hd.at_ i hi
     have : own.getD i 0 = l.getD i 0 := by
      rw [eo, h1, app_at (b ++ [(c0 : Int)]) s' 0 (by rw [hbl]; exact hi2), app_at (b ++ [(c0 : Int)]) t 0 (by rw [hbl]; exact hi2)]
     rw [this] at h5
     exact h5
    ·have h5 := h3 (i - (b.length + 1)) (by omega)
     rw [hbl, show b.length + 1 + (i - (b.length + 1)) = i by omega] at h5
     have : l.getD i 0 = t.getD (i - (b.length + 1)) 0 := by
      rw [h1, List.getD_eq_getElem?_getD, List.getElem?_append_right (by rw [hbl]; omega), hbl, List.getD_eq_getElem?_getD]
     rw [this]
     exact h5
   have hdo : dO g g.F g.A n (b ++ [(c0 : Int)]) = some m := by
    obtain ⟨m', em, h1⟩ := (dO_min g g.F g.A n (b ++ [(c0 : Int)])).le _ ⟨own, hmem, rfl⟩
    obtain ⟨l', hl', e'⟩ := (dO_min g g.F g.A n (b ++ [(c0 : Int)])).is m' em
    have := hsub l' hl'
    rw [em]
    congr 1
    omega
   obtain ⟨c, hf⟩ : ∃ c, (List.range g.cw.length).find? (fun c : Nat => decide (dO g g.F g.A n (b ++ [(c : Int)]) = some m)) = some c := by
    cases hf : (List.range g.cw.length).find? (fun c : Nat => decide (dO g g.F g.A n (b ++ [(c : Int)]) = some m)) with
    | some c => exact ⟨c, rfl⟩
    | none =>
      rw [List.find?_eq_none] at hf
      exact absurd (decide_eq_true hdo) (hf c0 (List.mem_range.2 hc0))
   have hg : grdD g m (n + 1) b = grdD g m n (b ++ [(c : Int)]) := by simp only [grdD, hf]
   rw [List.find?_range_eq_some] at hf
   have hcc : c ≤ c0 := by
    rw [← Nat.not_lt]
    intro hlt
    have := hf.2.2 c0 hlt
    rw [decide_eq_true hdo] at this
    cases this
   rw [hg] at hq ⊢
   by_cases ec : c = c0
   ·subst ec
    exact ih (b ++ [(c : Int)]) s' eo hs' (by rw [hbl]; omega) j hj hq
   ·obtain ⟨t, et⟩ := grd_pre g m n (b ++ [(c : Int)])
    have hcat : (grdD g m n (b ++ [(c : Int)])).getD b.length 0 = (c : Int) := by rw [et]; simp [List.getD_eq_getElem?_getD]
    rcases Nat.lt_trichotomy j b.length with h1 | h1 | h1
    ·have : (grdD g m n (b ++ [(c : Int)])).getD j 0 = own.getD j 0 := by
      rw [et, e, app_at _ _ _ (by rw [List.length_append, List.length_singleton]; omega), app_at _ _ _ h1, app_at _ _ _ h1]
     omega
    ·subst h1
     rw [hcat, hat]
     omega
    ·have := hq b.length h1
     rw [hcat, hat] at this
     omega
/-- The deal that is told is the first of the best. -/
theorem bst_lex {g : Gg} (hp : 0 < (dlsL g g.F g.A).length) {own : List Int} (hd : DealOf g g.F g.A own) : domI g (bstD g) ≤ domI g own ∧ (domI g own = domI g (bstD g) → ∀ j, j < g.N → (∀ q, q < j → (bstD g).getD q 0 = own.getD q 0) → (bstD g).getD j 0 ≤ own.getD j 0) := by
 obtain ⟨b1, b2, b3⟩ := bstD_eq hp
 have hle : ∀ l ∈ dlsL g g.F g.A, domI g (bstD g) ≤ domI g l := fun l hl => by
  obtain ⟨m', em, h⟩ := (dO_min g g.F g.A g.N []).le _ ⟨l, hl, rfl⟩
  rw [b1] at em
  cases em
  exact h
 refine ⟨hle own (mem_deals.2 hd), fun e j hj hq => ?_⟩
 have h := grd_lex hd e hle g.N [] own rfl hd.len (Nat.zero_add _) j hj
 rw [b2] at h
 exact h hq
end Go.Proofs.YtdopkbldjagmlaaGreat
end
section
set_option linter.unusedVariables false
set_option linter.unusedSimpArgs false
set_option maxHeartbeats 4000000
set_option maxRecDepth 100000
namespace Go.Proofs.YtdopkbldjagmlaaGreat
open Go.V
abbrev soR (g : Gg) (c S ib io : Nat) : AV := .func (.func 100) [] [gptr g, bx c, bx S, .ref ib 0 1 0 0, .ref io 0 1 0 0]
theorem go_iff {g : Gg} {c S : Nat} {b : List Int} (hr : RowOf S b) (hp : ∀ b' x, b = b' ++ [x] → rgtB g c b' = true) :
  rgtB g c b = true ↔ kwnB g c b = true ∧ (0 < b.length → donN g (g.crew c).lo b b.length ≤ (g.seam (b.getD (b.length - 1) 0).toNat).fl) := by
 constructor
 ·intro h
  have h2 := rgt_iff.1 h
  refine ⟨kwn_iff.2 fun i hi => (h2 i hi).1, fun h0 => ?_⟩
  have := (h2 (b.length - 1) (by omega)).2
  rw [show b.length - 1 + 1 = b.length by omega] at this
  exact this
 ·rintro ⟨h1, h2⟩
  rcases List.eq_nil_or_concat b with rfl | ⟨b', x, e⟩
  ·exact rgt_nil g c
  ·rw [List.concat_eq_append] at e
   subst e
   have hl : (b' ++ [x]).length = b'.length + 1 := by simp
   have h3 := h2 (by omega)
   rw [hl, Nat.add_sub_cancel, donN_last, snoc_end] at h3
   have h4 := kwn_iff.1 h1 b'.length (by omega)
   rw [snoc_end] at h4
   exact rgt_snoc.2 ⟨hp _ _ rfl, h4, h3⟩
theorem sub_soo {fv : AV} {b : List Int} {x : Int} {id1 : Nat} {X : Hp} {R : Res → Hp → Prop} (h1 : X id1 = some (.row 1 (b.length + 1) (intF (b ++ [x]))))
  (h : Tri Tryz.prog fv [intsAV (b ++ [x])] (X.del id1) R) : Tri Tryz.prog fv [.sl id1 1 (b.length + 1)] X R := by
 refine tri_freezeD (args' := [intsAV (b ++ [x])]) h1 rfl (fun k hk => ?_) h
 match k, hk with
 | 0, _ =>
   have hl : (b ++ [x]).length = b.length + 1 := by simp
   show FrzD _ _ _ _ (AV.sl id1 1 (b.length + 1)) (AV.rsl (b ++ [x]).length 1 (intF (b ++ [x])))
   rw [hl]; exact .hit fun i hi => rfl
theorem soo1_tri {g : Gg} (k : OkG g) {c S ib io : Nat} (hc : c < g.cw.length) (hS : S < 2 ^ g.N) (hio : ib ≠ io) :
  ∀ (n : Nat) (b : List Int) (x : Int) (H : Hp), b.length + n = pop S → RowOf S b → (∀ b' y, b = b' ++ [y] → rgtB g c b' = true) → H ib = some (.box 1 1 fun _ => [i64 x]) → H io = some (.box 1 1 fun _ => [soR g c S ib io]) →
    Tri Tryz.prog (soR g c S ib io) [intsAV b] H fun r H' => r = .ret (.tuple []) ∧ H' = H.set ib (.box 1 1 fun _ => [i64 (sooF g c x (rwsD g c S n b))]) := by
 have nS := k.nS
 have nC := k.nC
 have hN : g.N ≤ 5 := nS
 have hNe : g.N = g.sm.length := rfl
 have hS5 : S < 32 := lt32 hN hS
 intro n
 induction n using Nat.strongRecOn with
 | _ n ih =>
   intro b x H hl hb hp h1 h2
   have hrb := rowB_of hS hb
   have hll := row_len k hrb
   have hgo := go_iff hb hp
   have hio' : ¬ io = ib := fun e => hio e.symm
   have hcw : isCw g (c : Int) = true := (isCw_iff g _).2 (by omega)
   have hv : vRow g (c : Int) b = true := by unfold vRow; rw [hcw, hrb]; rfl
   have eE : rowE g (c : Int) b = if kwnB g c b = true then 0 else 11 := by unfold rowE; rw [hv, if_pos (errG_ok k), Int.toNat_natCast]
   have eX : ¬ rgtB g c b = true → rwsD g c S n b = [] := fun h => if_neg h
   have hsame : Go.V.HSub H (H.set ib (.box 1 1 fun _ => [i64 x])) := HSub_put_eq h1 HSub_rfl
   refine Tri.drop ?_
   refine tri_v0 (mset [88]) Tryz.func100 (by kernel_rfl) rfl (by simp only [List.length_append, List.length_cons, List.length_nil, Tryz.ntmps100]; decide) ?_
   skip
   simp only [vsAll, loadA, loadRow, partA, partOk, okAll, stAll, opsA, opA, dstOk, argFr, Nat.reduceLT, Nat.reduceEqDiff, ↓reduceIte, reduceCtorEq, eq_self, wtAll, Tryz.ntmps100]
   refine callK_pure (wrow_tri g c b _ k.near (by ((try clear h1 h2 hio hio'); omega))) ?_
   cases hk : kwnB g c b with
   | false =>
     have e2 : rowE g (c : Int) b = 11 := by rw [eE, hk]; rfl
     have e3 : rowV g (c : Int) b = [] := by unfold rowV; rw [if_neg (by rw [e2]; decide)]
     have e4 := eX (fun h => by have := (hgo.1 h).1; rw [hk] at this; cases this)
     rw [e2, e3, e4, sooF_nil]
     simp only [vsAll, extractA, opA, dstOk, nilSliceOp, Nat.reduceAdd, Nat.reduceLT, Nat.reduceEqDiff, Nat.reduceBEq, ↓reduceIte, eq_self]
     refine vs_draw2 [0, 0, 0, 0, 0, 0, 0, 0, 0, 0, 0, 0, 0, 0, 0, 0, 0, 0, 0, 0, 0, 0, 0, 0, 0, 0, 0, 0, 0, 0, 0, 0, 0, 0, 0] [] [0, 1, 2, 3, 4, 5, 6, 7, 8, 9, 10, 11, 12, 13, 14, 15, 16, 17, 18, 19, 20, 21, 22, 23, 24, 25, 26, 27, 28, 29, 30, 31, 32, 33, 34] (by decide +kernel) ?_
     simp only [vsAll, binA, binLitA, intA, loadA, loadRow, partA, partOk, fieldAddrA, indexAddrA, lenA, pickA, opA, guardV, dstOk, resA, argFr, retA.eq_2, Nat.reduceLT, Nat.reduceEqDiff, Int.reduceEq, ↓reduceIte, reduceCtorEq, implies_true, eq_self, wtAll, Tryz.results100, intF_at, spaF_at, smF_at]
     exact ⟨_, hsame, rfl, rfl⟩
   | true =>
     have e2 : rowE g (c : Int) b = 0 := by rw [eE, hk]; rfl
     have eV : rowV g (c : Int) b = spN g c b b.length := by unfold rowV; rw [if_pos e2, Int.toNat_natCast, spN_row]
     have eVl := spN_len g c b b.length
     rw [e2, eV]
     simp only [vsAll, extractA, opA, dstOk, nilSliceOp, Nat.reduceAdd, Nat.reduceLT, Nat.reduceEqDiff, Nat.reduceBEq, ↓reduceIte, eq_self, eVl]
     refine vs_draw2 [0, 0, 0, 0, 0, 0, 0, 0, 0, 0, 0, 0, 0, 0, 0, 0, 0, 0, 0, 0, 0, 0, 0, 0, 0, 0, 0, 0, 0, 0, 0, 0, 0, 0, 0] [] [0, 1, 2, 3, 4, 5, 6, 7, 8, 9, 10, 11, 12, 13, 14, 15, 16, 17, 18, 19, 20, 21, 22, 23, 24, 25, 26, 27, 28, 29, 30, 31, 32, 33, 34] (by decide +kernel) ?_
     have ei : ((b.length : Int) - 1).toNat = b.length - 1 := by ((try clear h1 h2 hio hio'); omega)
     have hin : 0 < b.length → 0 ≤ b.getD (b.length - 1) 0 ∧ b.getD (b.length - 1) 0 < (g.sm.length : Int) := fun h0 => by
      obtain ⟨m, e, hm⟩ := row_nat hrb (show b.length - 1 < b.length by ((try clear h1 h2 hio hio'); omega))
      ((try clear h1 h2 hio hio'); omega)
     have esp : 0 < b.length → (spN g c b b.length).getD (b.length - 1) (0, 0) = (donN g (g.crew c).hi b b.length, donN g (g.crew c).lo b b.length) := fun h0 => by
      have h3 : (spN g c b b.length).getD (b.length - 1) (0, 0) = (donN g (g.crew c).hi b (b.length - 1 + 1), donN g (g.crew c).lo b (b.length - 1 + 1)) := by
       simp [spN, List.getD_eq_getElem?_getD, show b.length - 1 < b.length by ((try clear h1 h2 hio hio'); omega)]
      rw [h3, show b.length - 1 + 1 = b.length by ((try clear h1 h2 hio hio'); omega)]
     simp only [vsAll, binA, binLitA, intA, loadA, loadRow, partA, partOk, fieldAddrA, indexAddrA, lenA, pickA, opA, guardV, dstOk, argFr, Nat.reduceLT, Nat.reduceEqDiff, ↓reduceIte, reduceCtorEq, implies_true, eq_self, wtAll, ei, intF_at, spaF_at, smF_at]
     have hb1 : decide ((0 : Int) < (b.length : Int)) = true → 0 < b.length := fun q => by rw [decide_eq_true_eq] at q; ((try clear h1 h2 hio hio'); omega)
     refine ⟨fun q => ⟨q, by simp only [InR_i64]; ((try clear h1 h2 hio hio'); omega)⟩, fun q => ⟨q, q, by have := hb1 q; ((try clear h1 h2 hio hio'); omega), by ((try clear h1 h2 hio hio'); omega)⟩, fun q => ⟨q, by have := hb1 q; ((try clear h1 h2 hio hio'); omega)⟩, fun q => ⟨q, by simp only [InR_i64]; ((try clear h1 h2 hio hio'); omega)⟩, fun q => ⟨q, q, by have := hb1 q; ((try clear h1 h2 hio hio'); omega), by ((try clear h1 h2 hio hio'); omega)⟩, fun q => ⟨q, by have := hb1 q; ((try clear h1 h2 hio hio'); omega)⟩,
      fun q => ⟨q, q, (hin (hb1 q)).1, (hin (hb1 q)).2⟩, fun q => ⟨q, by have := hin (hb1 q); ((try clear h1 h2 hio hio'); omega)⟩, ?_⟩
     refine condV (fun hc2 => ?_) (fun hc2 => ?_)
     ·have hn : ¬ rgtB g c b = true := fun h => by
       rw [Bool.and_eq_true, decide_eq_true_eq, decide_eq_true_eq] at hc2
       have h0 : 0 < b.length := by ((try clear h1 h2 hio hio'); omega)
       have := (hgo.1 h).2 h0
       rw [esp h0] at hc2
       have h4 : g.sm.getD (b.getD (b.length - 1) 0).toNat sm0 = g.seam (b.getD (b.length - 1) 0).toNat := rfl
       rw [h4] at hc2
       exact absurd hc2.2 (by show ¬ _ < donN g (g.crew c).lo b b.length; ((try clear h1 h2 hio hio'); omega))
      rw [eX hn, sooF_nil]
      simp only [vsAll, resA, retA.eq_2, eq_self, Tryz.results100]
      exact ⟨_, hsame, rfl, rfl⟩
     ·have hr : rgtB g c b = true := hgo.2 ⟨hk, fun h0 => by
       rw [decide_eq_true (show (0 : Int) < (b.length : Int) by ((try clear h1 h2 hio hio'); omega)), Bool.true_and, decide_eq_false_iff_not, esp h0] at hc2
       exact Int.not_lt.1 hc2⟩
      have eR : rwsD g c S n b = rws g c S n b := if_pos hr
      have hent : ∀ i, i < b.length → 0 ≤ b.getD i 0 ∧ b.getD i 0 < 5 := fun i hi => by
       obtain ⟨m, e, hm⟩ := row_nat hrb hi
       ((try clear h1 h2 hio hio'); omega)
      have hsl := setL_lt hS5 hb
      have hfull := (rowOf_full hS5 hb).2
      have hlast := last_le k hc hS hb
      have hlt : lastT g c b = donN g (g.crew c).lo b b.length := rfl
      rw [eR]
      simp only [vsAll]
      refine vs_draw2 [0, 0, 0, 0] [] [0, 1, 2, 3] (by decide +kernel) ?_
      simp only [vsAll, opA, dstOk, argFr, Nat.reduceLT, ↓reduceIte, reduceCtorEq, eq_self]
      refine qcall _ ⟨trivial, by simp only [vsAll, okAll, opsA, opA, ↓reduceIte, eq_self], gsetOf_tri b _ (by ((try clear h1 h2 hio hio'); omega)) hent⟩ ?_
      simp only [vsAll, binA, binLitA, intA, loadA, loadRow, partA, partOk, opA, dstOk, argFr, Nat.reduceLT, Nat.reduceEqDiff, ↓reduceIte, eq_self, wtAll]
      cases n with
      | zero =>
        have es : setL b = S := hfull.2 (by ((try clear h1 h2 hio hio'); omega))
        have e0 : rws g c S 0 b = [b] := rfl
        rw [e0, sooF_one]
        simp only [vsAll, binA, binLitA, intA, lenA, opA, dstOk, nilSliceOp, Nat.reduceLT, Nat.reduceEqDiff, Nat.reduceBEq, ↓reduceIte, eq_self, wtAll, es]
        refine condD (fun h0 => ?_) (fun h0 => ?_)
        ·have h0' : 0 < b.length := by ((try clear h1 h2 hio hio'); omega)
         simp only [vsAll, binA, binLitA, intA, loadA, loadRow, partA, partOk, fieldAddrA, indexAddrA, lenA, cellA, cellsA, mmA, okAll, stAll, opsA, opA, newCells, okCells, storeObj, dstOk, nilSliceOp, resA, argFr, retA.eq_2, Nat.reduceLT, Nat.reduceEqDiff, Nat.reduceBEq, ↓reduceIte, eq_self, wtAll, Tryz.results100, h1, ei, spaF_at, esp h0']
         exact ⟨by simp only [InR_i64]; ((try clear h1 h2 hio hio'); omega), ⟨by ((try clear h1 h2 hio hio'); omega), by ((try clear h1 h2 hio hio'); omega)⟩, by ((try clear h1 h2 hio hio'); omega), _, HSub_rfl, rfl, by rw [hlt]⟩
        ·have h0' : b.length = 0 := by ((try clear h1 h2 hio hio'); omega)
         have hl0 : lastT g c b = 0 := by rw [hlt, h0']; rfl
         simp only [vsAll, loadA, loadRow, partA, partOk, cellA, cellsA, mmA, okAll, stAll, opsA, opA, newCells, okCells, storeObj, dstOk, resA, argFr, retA.eq_2, Nat.reduceLT, Nat.reduceEqDiff, ↓reduceIte, eq_self, wtAll, Tryz.results100, h1]
         exact ⟨_, HSub_rfl, rfl, by rw [hl0]⟩
      | succ n =>
        have hne : ¬ setL b = S := fun e => by
         have := hfull.1 e
         ((try clear h1 h2 hio hio'); omega)
        have dne : decide (((setL b : Nat) : Int) = ((S : Nat) : Int)) = false := decide_eq_false (by ((try clear h1 h2 hio hio'); omega))
        rw [rws_G]
        simp only [vsAll, loadA, loadRow, partA, partOk, fieldAddrA, lenA, opA, dstOk, argFr, Nat.reduceLT, Nat.reduceEqDiff, ↓reduceIte, eq_self, wtAll, dne]
        refine vs_loop (σ := Nat) (fun i => i ≤ g.N) (fun i => [(0, intsAV b), (1, gptr g), (2, bx c), (3, bx S), (4, .ref ib 0 1 0 0), (5, .ref io 0 1 0 0), (72, i64 g.N), (73, i64 i)])
         (fun i => H.set ib (.box 1 1 fun _ => [i64 (sooF g c x (rwsG g c S n b i))])) (fun i => g.N - i) 0 (Nat.zero_le _) ?_ ?_ fun i hi => ?_
        ·simp only [vsAll, argFr, Nat.reduceEqDiff, ↓reduceIte, reduceCtorEq, eq_self, Int.natCast_zero]
         try exact AV.Le.refl _
        ·exact hsame
        ·simp only [vsAll, binA, binLitA, intA, opA, dstOk, Nat.reduceLT, Nat.reduceEqDiff, ↓reduceIte, reduceCtorEq, eq_self]
         refine condD (fun hd3 => ?_) (fun hd3 => ?_)
         ·have his : i < g.N := by ((try clear h1 h2 hio hio'); omega)
          have hgs := rwsG_succ g c S n b i
          have hq1 : (S : Int) / 2 ^ i = ((S / 2 ^ i : Nat) : Int) := by simp
          have hq2 : S / 2 ^ i ≤ S := Nat.div_le_self _ _
          have hbq : decide ((((S : Int) / 2 ^ i).toNat &&& 1 : Nat) = (1 : Int)) = S.testBit i := bit_eq S i
          have hsn : ∀ (b' : List Int) (y : Int), b ++ [(i : Int)] = b' ++ [y] → rgtB g c b' = true := fun b' y e => by
           have := List.append_inj_left' e rfl
           rw [← this]; exact hr
          simp only [vsAll, binA, binLitA, intA, loadA, loadRow, partA, partOk, opA, guardV, dstOk, nilSliceOp, Nat.reduceLT, Nat.reduceEqDiff, Nat.reduceBEq, Int.reduceLE, Int.reduceToNat, ↓reduceIte, reduceCtorEq, implies_true, eq_self, wtAll]
          refine ⟨⟨by ((try clear h1 h2 hio hio'); omega), by ((try clear h1 h2 hio hio'); omega), rfl⟩, ⟨?_, ?_, by simp only [InR_i64]; ((try clear h1 h2 hio hio'); omega)⟩, ?_⟩
          ·rw [hq1]; exact Int.natCast_nonneg _
          ·rw [hq1]
           generalize S / 2 ^ i = q at *
           simp only [InR_i64]; ((try clear h1 h2 hio hio'); omega)
          rw [hbq]
          refine gcall (i64 (posV b (i : Int))) (fun hg => ⟨by simp only [vsAll, opA], by simp only [vsAll, okAll, opsA, opA, Nat.reduceEqDiff, ↓reduceIte, eq_self, hg], gat_tri b (i : Int) _ (by ((try clear h1 h2 hio hio'); omega))⟩) ?_
          simp only [vsAll, binA, binLitA, intA, pickA, opA, guardV, dstOk, Nat.reduceLT, Nat.reduceEqDiff, ↓reduceIte, implies_true, eq_self, posV_neg]
          refine condV (fun hd4 => ?_) (fun hd4 => ?_)
          ·rw [if_pos hd4] at hgs
           rw [Bool.and_eq_true, Bool.not_eq_true', ← Bool.not_eq_true, List.contains_iff_mem] at hd4
           have hr2 : RowOf S (b ++ [(i : Int)]) := rowOf_snoc.2 ⟨hb, hd4.1, hd4.2⟩
           have efo := sooF_app g c x (rwsG g c S n b i) (rwsD g c S n (b ++ [(i : Int)]))
           rw [← hgs] at efo
           refine vs_draw2 [0, 1, 0, 3, 0, 0, 5, 7] [([0, 2, 4, 5], [0], 1), ([], [0], 3), ([], [0], 6), ([], [], 7)] [] (by decide +kernel) ?_
           simp only [vsAll, loadA, loadRow, partA, partOk, cellA, cellsA, okParts, buildSliceA, buildMutA, partIdx, elemsA, lensA, okAll, stAll, opsA, partsA, partsOk, opA, appendA, dstOk, Nat.reduceMul, Nat.reduceLT, Nat.reduceLeDiff, Nat.reduceEqDiff, Nat.reduceBEq, ↓reduceIte, reduceCtorEq, eq_self, wtAll, h2, hio']
           intro i88 hh_i88; (try simp only [ite_none] at hh_i88)
           have n1 : ¬ ib = i88 := fun e => by rw [← e] at hh_i88; simp_all
           have n2 : ¬ io = i88 := fun e => by rw [← e] at hh_i88; simp_all
           have hY : (H.set ib (.box 1 1 fun _ => [i64 (sooF g c x (rwsG g c S n b i))])) i88 = none := by rw [Hp.set_ne _ _ (fun e => n1 e.symm)]; simp_all
           skip
           simp only [vsAll, Nat.reduceLT, ↓reduceIte, eq_self, n2]
           refine ⟨fun i hi => ⟨rfl, trivial⟩, by ((try clear h1 h2 hio hio' hh_i88 n1 n2); omega), by ((try clear h1 h2 hio hio' hh_i88 n1 n2); omega), fun i hi => by (have : i = 0 := by ((try clear h1 h2 hio hio' hh_i88 n1 n2); omega)); subst this; exact ⟨rfl, trivial⟩, by ((try clear h1 h2 hio hio' hh_i88 n1 n2); omega), by ((try clear h1 h2 hio hio' hh_i88 n1 n2); omega), ?_⟩
           refine callK (Tri.less (HSub.set (HSub_drop2 (by simp only [vsAll, ↓reduceIte, eq_self, hh_i88]) (HSub_drop2 (by simp only [vsAll, ↓reduceIte, eq_self, hh_i88]) HSub_rfl)) (row_ext fun q hq => cp_int b (i : Int) q hq)) (sub_soo (b := b) (x := (i : Int)) (Hp.set_same _ _ _) (ih n (by ((try clear h1 h2 hio hio' hh_i88 n1 n2); omega)) (b ++ [(i : Int)]) (sooF g c x (rwsG g c S n b i)) _ (by simp; ((try clear h1 h2 hio hio' hh_i88 n1 n2); omega)) hr2 hsn (by rw [set_del hY, Hp.set_same]) (by rw [set_del hY, Hp.set_ne _ _ hio']; exact h2)))) ?_
           rintro r H' ⟨rfl, rfl⟩
           rw [set_del hY, Hp.set_set, ← efo]
           simp only [vsAll, binA, binLitA, intA, opA, dstOk, Nat.reduceLT, Nat.reduceEqDiff, ↓reduceIte, reduceCtorEq, eq_self]
           refine ⟨by simp only [InR_i64]; ((try clear h1 h2 hio hio' hh_i88 n1 n2); omega), loop_next (i + 1) (by ((try clear h1 h2 hio hio' hh_i88 n1 n2); omega)) (by ((try clear h1 h2 hio hio' hh_i88 n1 n2); omega)) ?_ HSub_rfl⟩
           simp only [vsAll, Nat.reduceEqDiff, ↓reduceIte, reduceCtorEq, eq_self, Int.natCast_add, Int.natCast_one]
          ·rw [if_neg (by rw [hd4]; decide), List.append_nil] at hgs
           simp only [vsAll, binA, binLitA, intA, opA, dstOk, Nat.reduceLT, Nat.reduceEqDiff, ↓reduceIte, reduceCtorEq, eq_self]
           refine ⟨by simp only [InR_i64]; ((try clear h1 h2 hio hio'); omega), loop_next (i + 1) (by ((try clear h1 h2 hio hio'); omega)) (by ((try clear h1 h2 hio hio'); omega)) ?_ (by rw [hgs]; exact HSub_rfl)⟩
           simp only [vsAll, Nat.reduceEqDiff, ↓reduceIte, reduceCtorEq, eq_self, Int.natCast_add, Int.natCast_one]
         ·have ei : i = g.N := by ((try clear h1 h2 hio hio'); omega)
          subst ei
          simp only [vsAll, resA, retA.eq_2, ↓reduceIte, eq_self, Tryz.results100]
          exact ⟨_, HSub_rfl, rfl, rfl⟩
end Go.Proofs.YtdopkbldjagmlaaGreat
end
section
set_option linter.unusedVariables false
set_option linter.unusedSimpArgs false
set_option maxHeartbeats 4000000
set_option maxRecDepth 100000
namespace Go.Proofs.YtdopkbldjagmlaaGreat
open Go.V
theorem az151 : azT Tryz.prog 151 = some (1, 1, [.nilFunc]) := by kernel_rfl
theorem soo_tri {g : Gg} (k : OkG g) {c S : Nat} (hc : c < g.cw.length) (hS : S < 2 ^ g.N) (H : Hp) : PTri Tryz.prog (fnA 76) [g.av, i64 c, i64 S] H (i64 (sooV g c S)) := by
 have e0 := rowsD_eq g c S
 refine Tri.drop ?_
 refine tri_v0 (fun _ => false) Tryz.func76 (by kernel_rfl) rfl (by simp only [List.length_append, List.length_cons, List.length_nil, Tryz.ntmps76]; decide) ?_
 simp only [vsAll, loadA, loadRow, partA, partOk, boxA, boxZ, cellA, cellsA, okAll, stAll, opsA, opA, allocA, newCells, okCells, storeObj, dstOk, nilSliceOp, argFr, Nat.reduceAdd, Nat.reduceLT, Nat.reduceEqDiff, ↓reduceIte, eq_self, wtAll, Tryz.ntmps76, az151]
 intro i7 hh_i7; (try simp only [Hp.set_none, ite_none] at hh_i7); intro i8 hh_i8; (try simp only [ite_none] at hh_i8)
 have n1 : ¬ i7 = i8 := fun e => by rw [e] at hh_i7; simp_all
 have n2 : ¬ i8 = i7 := fun e => n1 e.symm
 skip
 have h := fun H' h1 h2 => soo1_tri k hc hS (ib := i7) (io := i8) n1 (pop S) [] 99 H' (Nat.zero_add _) (rowOf_nil S) (fun b' y e => by simp at e) h1 h2
 rw [e0, soo_eq k hc hS] at h
 refine callK (Tri.args (h _ (by simp only [vsAll, ↓reduceIte, eq_self, hh_i8]) (by simp only [vsAll, ↓reduceIte, eq_self])) rfl fun j hj => ?_) ?_
 ·match j, hj with
  | 0, _ => exact AV.Le.nil _ _
 ·rintro r H' ⟨rfl, rfl⟩
  simp only [vsAll, loadA, loadRow, partA, partOk, opA, dstOk, nilSliceOp, resA, retA.eq_1, Nat.reduceLT, Nat.reduceEqDiff, ↓reduceIte, eq_self, wtAll, Tryz.results76]
  exact dropR_pure rfl (by (repeat (first | exact HSub_rfl | refine HSub_put_eq (by simp only [vsAll, ↓reduceIte, eq_self, reduceCtorEq, Nat.reduceEqDiff, hh_i7, hh_i8, n1, n2]) ?_ | refine HSub_drop2 (by simp only [eq_self, hh_i7, hh_i8]) ?_ | refine HSub_keep_eq (by simp only [vsAll, ↓reduceIte, eq_self, reduceCtorEq, Nat.reduceEqDiff, hh_i7, hh_i8, n1, n2]) ?_)))
theorem wh_tri {g : Gg} (k : OkG g) {l : List Int} (hl : l.length = g.N) (H : Hp) : PTri Tryz.prog (fnA 30) [g.av, intsAV l] H (i64 (whV g l)) := by
 have nS := k.nS
 have nC := k.nC
 have hN : g.N ≤ 5 := nS
 have hNe : g.N = g.sm.length := rfl
 have ew := wh_domO k (Nat.le_of_eq hl)
 refine tri_v0 (fun _ => false) Tryz.func30 (by kernel_rfl) rfl (by simp only [List.length_append, List.length_cons, List.length_nil, Tryz.ntmps30]; decide) ?_
 simp only [vsAll, loadA, loadRow, partA, partOk, fieldAddrA, lenA, boxA, boxZ, opA, dstOk, nilSliceOp, argFr, Nat.reduceAdd, Nat.reduceLT, Nat.reduceEqDiff, ↓reduceIte, eq_self, wtAll, Tryz.ntmps30]
 refine vs_loop (σ := Nat) (fun c => c ≤ g.cw.length) (fun c => [(1, intsAV l), (2, gptr g), (5, i64 (whN g (crS l) c)), (12, i64 g.cw.length), (13, i64 c)]) (fun _ => H) (fun c => g.cw.length - c) 0 (Nat.zero_le _) ?_ HSub_rfl fun c hc => ?_
 ·have e0 : whN g (crS l) 0 = 0 := rfl
  simp only [vsAll, argFr, Nat.reduceEqDiff, ↓reduceIte, eq_self, Int.natCast_zero, e0]
 ·simp only [vsAll, binA, binLitA, intA, opA, dstOk, Nat.reduceLT, Nat.reduceEqDiff, ↓reduceIte, eq_self]
  refine condD (fun hd => ?_) (fun hd => ?_)
  ·have his : c < g.cw.length := by omega
   have es : whN g (crS l) (c + 1) = max (whN g (crS l) c) (sooV g c (crS l c)) := rfl
   have hSl := crS_lt' (g := g) (l := l) (Nat.le_of_eq hl) c
   simp only [vsAll, lenA, opA, dstOk, nilSliceOp, Nat.reduceLT, Nat.reduceEqDiff, ↓reduceIte, eq_self, wtAll]
   refine vs_loop (σ := Nat) (fun n => n ≤ l.length) (fun n => [(1, intsAV l), (2, gptr g), (5, i64 (whN g (crS l) c)), (6, i64 c), (7, i64 (crN l c n : Nat)), (12, i64 g.cw.length), (13, i64 c), (16, intsAV l), (17, i64 l.length), (18, i64 n)]) (fun _ => H) (fun n => l.length - n) 0 (Nat.zero_le _) ?_ HSub_rfl fun n hn => ?_
   ·have e0 : crN l c 0 = 0 := rfl
    simp only [vsAll, Nat.reduceEqDiff, ↓reduceIte, eq_self, Int.natCast_zero, e0]
   ·simp only [vsAll, binA, binLitA, intA, opA, dstOk, Nat.reduceLT, Nat.reduceEqDiff, ↓reduceIte, eq_self]
    refine condD (fun hd2 => ?_) (fun hd2 => ?_)
    ·have hns : n < l.length := by omega
     have hcl := crN_lt l c n
     have hcl2 := crN_lt l c (n + 1)
     have hpn : 2 ^ n ≤ 2 ^ 5 := Nat.pow_le_pow_right (by decide) (by omega)
     have hpn2 : 2 ^ (n + 1) ≤ 2 ^ 5 := Nat.pow_le_pow_right (by decide) (by omega)
     have est : crN l c (n + 1) = if l.getD n 0 = (c : Int) then crN l c n ||| 2 ^ n else crN l c n := rfl
     simp only [vsAll, binA, binLitA, intA, loadA, loadRow, partA, partOk, indexAddrA, opA, dstOk, nilSliceOp, Nat.reduceLT, Nat.reduceEqDiff, ↓reduceIte, eq_self, wtAll, intF_at]
     refine ⟨⟨by omega, by omega⟩, hns, ?_⟩
     refine condD (fun he => ?_) (fun he => ?_)
     ·rw [if_pos he] at est
      have ep : (1 : Int) * 2 ^ n = ((2 ^ n : Nat) : Int) := by rw [Int.one_mul]; simp
      simp only [vsAll, binA, binLitA, intA, opA, dstOk, nilSliceOp, Nat.reduceLT, Nat.reduceEqDiff, ↓reduceIte, eq_self, ep, ← est]
      generalize 2 ^ n = Q at *
      refine ⟨⟨by omega, by omega, by simp only [InR_i64]; omega⟩, ⟨by omega, by omega, by simp only [InR_i64]; omega, by simp only [InR_i64]; omega⟩, by simp only [InR_i64]; omega, loop_next (n + 1) hns (by omega) ?_ HSub_rfl⟩
      simp only [vsAll, Nat.reduceEqDiff, ↓reduceIte, eq_self, Int.natCast_add, Int.natCast_one]
     ·rw [if_neg he] at est
      simp only [vsAll, binA, binLitA, intA, opA, dstOk, Nat.reduceLT, Nat.reduceEqDiff, ↓reduceIte, eq_self]
      refine ⟨by simp only [InR_i64]; omega, loop_next (n + 1) hns (by omega) ?_ HSub_rfl⟩
      simp only [vsAll, Nat.reduceEqDiff, ↓reduceIte, eq_self, est, Int.natCast_add, Int.natCast_one]
    ·have en : n = l.length := by omega
     subst en
     have ecs : crN l c l.length = crS l c := rfl
     simp only [vsAll, loadA, loadRow, partA, partOk, okAll, stAll, opsA, opA, dstOk, Nat.reduceLT, Nat.reduceEqDiff, ↓reduceIte, eq_self, wtAll, ecs]
     refine callK_pure (soo_tri k his hSl _) ?_
     simp only [vsAll, binA, binLitA, intA, mmA, okAll, stAll, opsA, opA, dstOk, nilSliceOp, Nat.reduceLT, Nat.reduceEqDiff, ↓reduceIte, eq_self, ← es]
     refine ⟨by simp only [InR_i64]; omega, loop_next (c + 1) his (by omega) ?_ HSub_rfl⟩
     simp only [vsAll, Nat.reduceEqDiff, ↓reduceIte, eq_self, Int.natCast_add, Int.natCast_one]
  ·have ec : c = g.cw.length := by omega
   subst ec
   rw [← ew]
   simp only [vsAll, opA, dstOk, nilSliceOp, resA, retA.eq_1, Nat.reduceLT, Nat.reduceEqDiff, ↓reduceIte, eq_self, Tryz.results30]
structure DealF (g : Gg) : Prop where
 e : dealE g = 0 ∨ dealE g = 4
 f : enoE g = dealE g
 h : leaE g = 0
 lt : leaV g < 2 ^ g.N
 z : dealE g = 0 ↔ leaV g = 0
 no : dealE g = 4 → dealH g = 0 ∧ dealL g = [] ∧ enoV g = 0 ∧ (dlsL g g.F g.A).length = 0
 yes : dealE g = 0 → 0 < (dlsL g g.F g.A).length ∧ dealL g = bstD g ∧ dealH g = domI g (bstD g) ∧ LeastSet (genB g) g.cw.length (enoV g)
theorem deal_f {g : Gg} (k : OkG g) : DealF g := by
 have nS := k.nS
 have nC := k.nC
 have hN5 : g.N ≤ 5 := nS
 have z := errG_ok k
 have eE : dealE g = if (dO g g.F g.A g.N []).isSome = true then 0 else 4 := by unfold dealE; rw [if_pos z]
 have eF : enoE g = setE 0 (fewV (genB g) g.cw.length) := by unfold enoE; rw [z]
 have eV : enoV g = setV 0 (fewV (genB g) g.cw.length) := by unfold enoV; rw [z]
 have hdoc := eno_doc (g := g) k.nS nC
 have hz := lea_zero (g := g) (by omega)
 obtain ⟨s, hs, hL⟩ := lea_some (g := g) (by omega)
 have eL : leaV g = s := by unfold leaV; rw [show leaE g = 0 from z, if_pos rfl, hs]; rfl
 rw [hs] at hz
 by_cases hp : 0 < (dlsL g g.F g.A).length
 ·obtain ⟨b1, b2, b3⟩ := bstD_eq hp
  rw [b1] at eE
  have e1 : dealE g = 0 := eE
  rw [if_pos hp] at hdoc
  obtain ⟨s1, s2⟩ := setV_some (r := fewV (genB g) g.cw.length) (by rw [hdoc]; rfl)
  have e2 : dealH g = domI g (bstD g) := by unfold dealH; rw [if_pos e1, b1]; rfl
  have e3 : dealL g = bstD g := by unfold dealL; rw [if_pos e1, e2, b2]
  have hs0 : s = 0 := by have := hz.2 hp; cases this; rfl
  have hset := fewV_some (f := genB g) (m := g.cw.length) hdoc
  refine ⟨.inl e1, by rw [eF, s1, e1], z, by rw [eL]; exact hL.lt, ⟨fun _ => by rw [eL]; exact hs0, fun _ => e1⟩, fun h => (by rw [e1] at h; cases h), fun _ => ⟨hp, e3, e2, ?_⟩⟩
  rw [eV, s2, hdoc]
  exact hset
 ·have hl0 : (dlsL g g.F g.A).length = 0 := by omega
  rw [deal_doc.2 hl0] at eE
  have e1 : dealE g = 4 := eE
  rw [if_neg hp] at hdoc
  obtain ⟨s1, s2⟩ := setV_none (r := fewV (genB g) g.cw.length) (by rw [hdoc]; rfl)
  have e2 : dealH g = 0 := by unfold dealH; rw [if_neg (by rw [e1]; decide)]
  have e3 : dealL g = [] := by unfold dealL; rw [if_neg (by rw [e1]; decide)]
  have hs0 : ¬ s = 0 := fun e => hp (hz.1 (by rw [e]))
  refine ⟨.inr e1, by rw [eF, s1, e1], z, by rw [eL]; exact hL.lt, ⟨fun h => (by rw [e1] at h; cases h), fun h => absurd (eL.symm.trans h) hs0⟩, fun _ => ⟨e2, e3, by rw [eV, s2], hl0⟩, fun h => (by rw [e1] at h; cases h)⟩
theorem deal_no {g : Gg} (h : ¬ OkG g) : dealE g = 1 ∧ dealH g = 0 ∧ dealL g = [] ∧ enoE g = 1 ∧ enoV g = 0 ∧ leaE g = 1 ∧ leaV g = 0 := by
 have z := errG_no h true
 have e1 : dealE g = 1 := by unfold dealE; rw [z, if_neg (by decide)]
 have e2 : enoE g = 1 := by unfold enoE; rw [z]; exact (setV_no (by decide)).1
 have e3 : enoV g = 0 := by unfold enoV; rw [z]; exact (setV_no (by decide)).2
 have e4 : leaE g = 1 := z
 exact ⟨e1, by unfold dealH; rw [e1, if_neg (by decide)], by unfold dealL; rw [e1, if_neg (by decide)], e2, e3, e4, by unfold leaV; rw [e4, if_neg (by decide)]⟩
/-- Another deal, by numbers. -/
structure OwnL (g : Gg) (l : List Int) : Prop where
 len : l.length = g.N
 at_ : ∀ i, i < g.N → 0 ≤ l.getD i 0 ∧ (0 < g.cw.length → l.getD i 0 < g.cw.length)
theorem own_deal {g : Gg} {l : List Int} (o : OwnL g l) (h : 0 < g.cw.length ∨ g.N = 0) (hd : (domO g l).isSome = true) : DealOf g g.F g.A l := by
 refine ⟨o.len, fun i hi => ?_, hd⟩
 have h1 := o.at_ i hi
 have h2 := h1.2 (by omega)
 unfold crOk
 rw [if_pos (F_bit g hi)]
 exact ⟨(l.getD i 0).toNat, by omega, by omega, A_bit g (by omega)⟩
end Go.Proofs.YtdopkbldjagmlaaGreat
end
section
set_option linter.unusedVariables false
namespace Go.Proofs.YtdopkbldjagmlaaGreat
open Go.V
def byF (b : Nat → Int) : Nat → List AV := fun i => [.lit (.int .u8 (b i))]
theorem byF_at (b : Nat → Int) (i : Nat) : byF b i = [.lit (.int .u8 (b i))] := rfl
end Go.Proofs.YtdopkbldjagmlaaGreat
end
section
set_option linter.unusedVariables false
set_option linter.unusedSimpArgs false
set_option maxHeartbeats 8000000
set_option maxRecDepth 100000
namespace Go.Proofs.YtdopkbldjagmlaaGreat
open Go.V
inductive FzL (id st n : Nat) (f : Nat → List AV) : List (Nat × AV) → List (Nat × AV) → Prop
 | nil : FzL id st n f [] []
 | same {t : Nat} {v : AV} {l l' : List (Nat × AV)} : FzL id st n f l l' → FzL id st n f ((t, v) :: l) ((t, v) :: l')
 | hit {t : Nat} {l l' : List (Nat × AV)} : FzL id st n f l l' → FzL id st n f ((t, .sl id st n) :: l) ((t, .rsl n st f) :: l')
theorem FzL.frz {id st n : Nat} {f : Nat → List AV} {l l' : List (Nat × AV)} (h : FzL id st n f l l') : ∀ t, Fr.of l' t = Fr.of l t ∨ (Fr.of l t = .sl id st n ∧ Fr.of l' t = .rsl n st f) := by
 intro t
 induction h with
 | nil => exact .inl rfl
 | same _ ih =>
   simp only [Fr.of]
   split
   ·exact .inl rfl
   ·exact ih
 | hit _ ih =>
   simp only [Fr.of]
   split
   ·exact .inr ⟨rfl, rfl⟩
   ·exact ih
theorem FzL.refl {id st n : Nat} {f : Nat → List AV} : ∀ l : List (Nat × AV), FzL id st n f l l
 | [] => .nil
 | (t, v) :: l => .same (FzL.refl l)
def ownN (g : Gg) (N : Nat) (b : Nat → Int) (i : Nat) : List Int := (List.range i).map fun j : Nat => (if 0 < N then b (j % N) else (j : Int)).tmod (max 1 (g.cw.length : Int))
theorem ownN_len (g : Gg) (N : Nat) (b : Nat → Int) (i : Nat) : (ownN g N b i).length = i := by simp [ownN]
theorem ownN_succ (g : Gg) (N : Nat) (b : Nat → Int) (i : Nat) : ownN g N b (i + 1) = ownN g N b i ++ [(if 0 < N then b (i % N) else (i : Int)).tmod (max 1 (g.cw.length : Int))] := by simp [ownN, List.range_succ]
theorem ownN_own {g : Gg} {N : Nat} {b : Nat → Int} (hb : ∀ i, i < N → 0 ≤ b i ∧ b i ≤ 255) : OwnL g (ownN g N b g.N) := by
 refine ⟨ownN_len g N b _, fun i hi => ?_⟩
 have e : (ownN g N b g.N).getD i 0 = (if 0 < N then b (i % N) else (i : Int)).tmod (max 1 (g.cw.length : Int)) := by simp [ownN, List.getD_eq_getElem?_getD, hi]
 have h0 : 0 ≤ (if 0 < N then b (i % N) else (i : Int)) := by
  split
  ·exact (hb _ (Nat.mod_lt _ (by assumption))).1
  ·omega
 rw [e]
 refine ⟨Int.tmod_nonneg _ h0, fun hc => ?_⟩
 have := Int.tmod_lt_of_pos (if 0 < N then b (i % N) else (i : Int)) (show 0 < max 1 (g.cw.length : Int) by omega)
 omega
structure CutD (g : Gg) (l : List Int) : Prop where
 k : OkG g
 o : OwnL g l
 n4 : g.N ≤ 4
theorem deal_law (g : Gg) (N : Nat) (b : Nat → Int) (H : Hp) (hB : N < 2 ^ 63 ∧ ∀ i, i < N → 0 ≤ b i ∧ b i ≤ 255) : PTri Tryz.prog (fnA 6) [g.av, .rsl N 1 (byF b)] H (boo true) := by
 refine Tri.drop ?_
 refine tri_w0 Tryz.func6 (by kernel_rfl) rfl (by simp only [List.length_append, List.length_cons, List.length_nil, Tryz.ntmps6]; decide) ?_
 refine wps_cutG7 (m := fun _ => false) (σ := Unit) (fun _ => OkG g ∧ g.N ≤ 4)
  (fun _ => [(1, .rsl N 1 (byF b)), (2, gptr g), (5, i64 (dealH g)), (6, intsAV (dealL g)), (7, i64 (dealE g)), (8, i64 (enoV g : Nat))]) (fun _ => H) (fun _ => []) ?_ fun _ ⟨k, n4⟩ => ?_
 ·simp only [vsAll, loadA, loadRow, partA, partOk, boxA, boxZ, okAll, stAll, opsA, opA, dstOk, nilSliceOp, argFr, Nat.reduceAdd, Nat.reduceLT, Nat.reduceEqDiff, ↓reduceIte, eq_self, wtAll, Tryz.ntmps6]
  refine callK_pure (gfar0_tri g _) ?_
  simp only [vsAll, binA, binLitA, intA, loadA, loadRow, partA, partOk, fieldAddrA, lenA, opA, guardV, dstOk, Nat.reduceLT, Nat.reduceEqDiff, ↓reduceIte, implies_true, eq_self, wtAll]
  refine gcall (boo (decide (OkG g))) (fun hg => ⟨by simp only [vsAll, opA], by simp only [vsAll, okAll, opsA, opA, ↓reduceIte, eq_self, hg], gangs_tri g _ (farG_near (n := 0) (by
   cases h : farG g 0 with
   | false => rfl
   | true => rw [h] at hg; simp at hg)).1⟩) ?_
  simp only [vsAll, pickA, opA, guardV, dstOk, Nat.reduceLT, Nat.reduceEqDiff, ↓reduceIte, implies_true, eq_self]
  refine ⟨fun q => ⟨q, fun q2 => by rw [q, q2]; rfl⟩, ?_⟩
  refine condV (fun hc => ?_) (fun hc => ?_)
  ·simp only [vsAll, okAll, stAll, opsA, opA, dstOk, Nat.reduceLT]
   refine callK_pure (awake_tri _) ?_
   simp only [vsAll, opA, dstOk, nilSliceOp, resA, retA.eq_1, Nat.reduceLT, ↓reduceIte, eq_self, Tryz.results6, CutG_ret]
   exact dropR_pure rfl HSub_rfl
  ·have hf : farG g 0 = false := by
    cases h : farG g 0 with
    | false => rfl
    | true => rw [h] at hc; simp at hc
   have kn := (farG_near hf).1
   simp only [vsAll, loadA, loadRow, partA, partOk, okAll, stAll, opsA, opA, dstOk, Nat.reduceLT, Nat.reduceEqDiff, ↓reduceIte, eq_self, wtAll]
   refine callK_pure (wdeal_tri g _ kn) ?_
   simp only [vsAll, loadA, loadRow, partA, partOk, extractA, okAll, stAll, opsA, opA, dstOk, nilSliceOp, Nat.reduceAdd, Nat.reduceLT, Nat.reduceEqDiff, ↓reduceIte, eq_self, wtAll]
   refine callK_pure (wenough_tri g _ kn) ?_
   simp only [vsAll, loadA, loadRow, partA, partOk, extractA, okAll, stAll, opsA, opA, dstOk, nilSliceOp, Nat.reduceAdd, Nat.reduceLT, Nat.reduceEqDiff, ↓reduceIte, eq_self, wtAll]
   refine callK_pure (wleave_tri g _ kn) ?_
   simp only [vsAll, loadA, loadRow, partA, partOk, extractA, okAll, stAll, opsA, opA, dstOk, nilSliceOp, Nat.reduceAdd, Nat.reduceLT, Nat.reduceEqDiff, ↓reduceIte, eq_self, wtAll]
   refine callK_pure (gfine_tri g _) ?_
   by_cases k : OkG g
   ·have hfi : fineG g = true := by unfold fineG; rw [hf, decide_eq_true k]; rfl
    have nS := k.nS
    have nC := k.nC
    have hNe : g.N = g.sm.length := rfl
    have n4 : g.N ≤ 4 := by
     rw [hf, decide_eq_true k, Bool.false_or, Bool.and_true, decide_eq_false_iff_not] at hc
     omega
    have D := deal_f k
    have hlt := D.lt
    have hsh : ((leaV g : Nat) : Int) / 2 ^ g.sm.length = 0 := by
     have e : (2 : Int) ^ g.sm.length = ((2 ^ g.N : Nat) : Int) := by simp [Gg.N]
     rw [e]
     exact Int.ediv_eq_zero_of_lt (by omega) (by omega)
    have hfr := D.f
    have hh := D.h
    have hz := D.z
    rcases D.e with e0 | e4
    ·have hz0 := hz.1 e0
     rw [hfi, hfr, hh, e0, hz0]
     simp only [vsAll, binA, binLitA, intA, boolA, unA, loadA, loadRow, partA, partOk, fieldAddrA, lenA, pickA, opA, guardV, dstOk, Nat.reduceLT, Nat.reduceEqDiff, Int.reduceLT, Int.reduceEq, ↓reduceIte, implies_true, forall_const, eq_self, wtAll, Int.natCast_zero, Int.zero_ediv]
     refine ⟨⟨by omega, by omega, rfl⟩, ?_⟩
     simp only [vsAll, Bool.true_beq]
     exact cutG_of () ⟨k, n4⟩ (by simp only [vsAll, argFr, Nat.reduceEqDiff, ↓reduceIte, eq_self]) rfl HSub_rfl
    ·obtain ⟨d1, d2, d3, d4⟩ := D.no e4
     have hz0 : ¬ leaV g = 0 := fun h => by have := hz.2 h; rw [e4] at this; cases this
     have dz : decide (((leaV g : Nat) : Int) = 0) = false := decide_eq_false (by omega)
     have dn : decide (((leaV g : Nat) : Int) < 0) = false := decide_eq_false (by omega)
     rw [hfi, hfr, hh, e4, d1, d2, d3]
     simp only [vsAll, binA, binLitA, intA, boolA, unA, loadA, loadRow, partA, partOk, fieldAddrA, lenA, pickA, opA, guardV, dstOk, Nat.reduceLT, Nat.reduceEqDiff, Int.reduceEq, ↓reduceIte, implies_true, forall_const, eq_self, wtAll, Int.natCast_zero, dz, dn, hsh]
     refine ⟨⟨by omega, by omega, rfl⟩, ?_⟩
     simp only [vsAll, Bool.false_beq]
     exact cutG_of () ⟨k, n4⟩ (by simp only [vsAll, argFr, Nat.reduceEqDiff, ↓reduceIte, eq_self]; exact AV.Le.refl _) rfl HSub_rfl
   ·have hfi : fineG g = false := by unfold fineG; rw [decide_eq_false k, Bool.and_false]
    obtain ⟨e1, e2, e3, e4, e5, e6, e7⟩ := deal_no k
    rw [hfi, e1, e2, e3, e4, e5, e6, e7]
    simp only [vsAll, binA, binLitA, intA, unA, lenA, pickA, opA, guardV, dstOk, Nat.reduceLT, Nat.reduceEqDiff, ↓reduceIte, implies_true, eq_self, wtAll, Int.natCast_zero]
    refine gcall (boo true) (fun hg => ⟨by simp only [vsAll, opA], by simp only [okAll, opsA], awake_tri _⟩) ?_
    simp only [vsAll, pickA, opA, dstOk, nilSliceOp, resA, retA.eq_1, Nat.reduceLT, Nat.reduceEqDiff, ↓reduceIte, implies_true, eq_self, Tryz.results6, CutG_ret]
    exact dropR_pure rfl HSub_rfl
 ·have nS := k.nS
  have nC := k.nC
  have hNe : g.N = g.sm.length := rfl
  refine wps_cutG2 (m := mset [12]) (σ := List Int) (fun l => OwnL g l)
   (fun l => [(2, gptr g), (5, i64 (dealH g)), (6, intsAV (dealL g)), (7, i64 (dealE g)), (8, i64 (enoV g : Nat)), (12, intsAV l)]) (fun _ => H) (fun _ => []) ?_ fun l hl => ?_
  ·simp only [vsAll, loadA, loadRow, partA, partOk, fieldAddrA, lenA, opA, dstOk, Nat.reduceLT, Nat.reduceEqDiff, Nat.reduceBEq, ↓reduceIte, eq_self, wtAll, Tryz.ntmps6, Go.V.nilA]
   intro i12 hh_i12; (try simp only [Hp.set_none, ite_none] at hh_i12)
   refine vs_loop (σ := Nat) (fun i => i ≤ g.N) (fun i => [(1, .rsl N 1 (byF b)), (2, gptr g), (5, i64 (dealH g)), (6, intsAV (dealL g)), (7, i64 (dealE g)), (8, i64 (enoV g : Nat)), (12, .sl i12 1 i), (134, i64 g.N), (135, i64 i)]) (fun i => H.set i12 (.row 1 i (intF (ownN g N b i)))) (fun i => g.N - i) 0 (Nat.zero_le _) ?_ ?_ fun i hi => ?_
   ·simp only [vsAll, Nat.reduceEqDiff, ↓reduceIte, eq_self, Int.natCast_zero]
    try exact AV.Le.refl _
   ·exact HSub.set (HSub.refl _) (row_ext fun q hq => absurd hq (by ((try clear hh_i12); omega)))
   ·simp only [vsAll, binA, binLitA, intA, opA, dstOk, Nat.reduceLT, Nat.reduceEqDiff, ↓reduceIte, eq_self]
    refine condD (fun hd => ?_) (fun hd => ?_)
    ·have his : i < g.N := by ((try clear hh_i12); omega)
     have hsn := ownN_succ g N b i
     have hmx : max 1 (g.cw.length : Int) ≠ 0 := by ((try clear hh_i12); omega)
     have eap : ∀ x : Int, x = (if 0 < N then b (i % N) else (i : Int)).tmod (max 1 (g.cw.length : Int)) → appF i 1 (intF (ownN g N b i)) (fun q => [[AV.lit (.int .i64 x)]].getD q []) = intF (ownN g N b (i + 1)) := fun x hx => by
      have h := app_ints (ownN g N b i) x (fun q => [[AV.lit (.int .i64 x)]].getD q []) rfl
      rw [ownN_len] at h
      rw [hsn, ← hx]
      exact h
     simp only [vsAll, binA, binLitA, intA, lenA, opA, dstOk, nilSliceOp, Nat.reduceLT, Nat.reduceEqDiff, Nat.reduceBEq, ↓reduceIte, eq_self, wtAll]
     refine condD (fun hN => ?_) (fun hN => ?_)
     ·have hN0 : 0 < N := by ((try clear hh_i12); omega)
      rw [if_pos hN0] at eap
      have em : (i : Int).tmod (N : Int) = ((i % N : Nat) : Int) := (Int.ofNat_tmod i N).symm
      have hm := Nat.mod_lt i hN0
      have hbi := hB.2 (i % N) hm
      have ht : 0 ≤ (b (i % N)).tmod (max 1 (g.cw.length : Int)) := Int.tmod_nonneg _ hbi.1
      have ht2 := Int.tmod_lt_of_pos (b (i % N)) (show 0 < max 1 (g.cw.length : Int) by ((try clear hh_i12); omega))
      simp only [vsAll, binA, binLitA, intA, loadA, loadRow, partA, partOk, fieldAddrA, indexAddrA, lenA, cellA, cellsA, okParts, buildSliceA, partIdx, elemsA, lensA, convA, mmA, okAll, stAll, opsA, partsA, partsOk, opA, appendA, dstOk, nilSliceOp, Nat.reduceMul, Nat.reduceLT, Nat.reduceLeDiff, Nat.reduceEqDiff, Nat.reduceBEq, ↓reduceIte, eq_self, ne_eq, wtAll, em, byF_at]
      rw [eap _ rfl]
      refine ⟨by ((try clear hh_i12); omega), ⟨by ((try clear hh_i12); omega), by ((try clear hh_i12); omega)⟩, hm, by simp only [InR_i64]; ((try clear hh_i12); omega), hmx, fun q hq => by (have : q = 0 := by ((try clear hh_i12); omega)); subst this; exact ⟨rfl, trivial⟩, by ((try clear hh_i12); omega), by ((try clear hh_i12); omega), by simp only [InR_i64]; ((try clear hh_i12); omega), loop_next (i + 1) his (by ((try clear hh_i12); omega)) ?_ ?_⟩
      ·simp only [vsAll, Nat.reduceEqDiff, ↓reduceIte, eq_self, Int.natCast_add, Int.natCast_one]
      ·rw [Hp.set_set]; exact HSub_rfl
     ·have hN0 : ¬ 0 < N := by ((try clear hh_i12); omega)
      rw [if_neg hN0] at eap
      simp only [vsAll, binA, binLitA, intA, loadA, loadRow, partA, partOk, fieldAddrA, lenA, cellA, cellsA, okParts, buildSliceA, partIdx, elemsA, lensA, mmA, okAll, stAll, opsA, partsA, partsOk, opA, appendA, dstOk, nilSliceOp, Nat.reduceMul, Nat.reduceLT, Nat.reduceLeDiff, Nat.reduceEqDiff, Nat.reduceBEq, ↓reduceIte, eq_self, ne_eq, wtAll]
      rw [eap _ rfl]
      refine ⟨hmx, fun q hq => by (have : q = 0 := by ((try clear hh_i12); omega)); subst this; exact ⟨rfl, trivial⟩, by ((try clear hh_i12); omega), by ((try clear hh_i12); omega), by simp only [InR_i64]; ((try clear hh_i12); omega), loop_next (i + 1) his (by ((try clear hh_i12); omega)) ?_ ?_⟩
      ·simp only [vsAll, Nat.reduceEqDiff, ↓reduceIte, eq_self, Int.natCast_add, Int.natCast_one]
      ·rw [Hp.set_set]; exact HSub_rfl
    ·have ei : i = g.N := by ((try clear hh_i12); omega)
     subst ei
     simp only [vsAll, ↓reduceIte, eq_self]
     refine cutG_ent (Ent.of [(12, .sl i12 1 g.N), (2, gptr g), (5, i64 (dealH g)), (6, intsAV (dealL g)), (7, i64 (dealE g)), (8, i64 (enoV g : Nat))] (by simp only [vsAll, Nat.reduceEqDiff, ↓reduceIte, eq_self]) HSub_rfl ?_)
     have hl : (ownN g N b g.N).length = g.N := ownN_len _ _ _ _
     refine cutG_ent (Ent.freeze (id := i12) (st := 1) (n := g.N) (f := intF (ownN g N b g.N)) (s' := Fr.of [(12, .rsl g.N 1 (intF (ownN g N b g.N))), (2, gptr g), (5, i64 (dealH g)), (6, intsAV (dealL g)), (7, i64 (dealE g)), (8, i64 (enoV g : Nat))]) (Hp.set_same _ _ _) (FzL.frz (.hit (FzL.refl _))) ?_)
     rw [set_del hh_i12]
     have hle : AV.Le (.rsl g.N 1 (intF (ownN g N b g.N))) (intsAV (ownN g N b g.N)) := by
      show AV.Le _ (.rsl (ownN g N b g.N).length 1 (intF (ownN g N b g.N)))
      rw [hl]
      exact AV.Le.refl _
     exact cutG_of (ownN g N b g.N) (ownN_own hB.2) (by simp only [vsAll, Nat.reduceEqDiff, ↓reduceIte, eq_self]; exact hle) rfl HSub_rfl
  ·have D := deal_f k
   refine wps_vs (m := fun _ => false) ?_
   simp only [vsAll, binA, binLitA, intA, loadA, loadRow, partA, partOk, fieldAddrA, lenA, pickA, okAll, stAll, opsA, opA, guardV, dstOk, nilSliceOp, Nat.reduceLT, Nat.reduceEqDiff, ↓reduceIte, implies_true, eq_self, wtAll, Tryz.ntmps6]
   refine callK_pure (wh_tri k hl.len _) ?_
   have hnn : ∀ (a : Bool), (!a || a) = true := fun a => by cases a <;> rfl
   rcases D.e with e0 | e4
   ·obtain ⟨hp, y1, y2, y3⟩ := D.yes e0
    obtain ⟨b1, b2, b3⟩ := bstD_eq hp
    have hbl := b3.len
    have hall := dd_in (g := g) (mem_deals.2 b3)
    have hbd := domI_bd k (mem_deals.2 b3)
    have hwb : whV g (bstD g) = domI g (bstD g) := by
     have := b3.dom
     unfold whV domI
     cases h : domO g (bstD g) with
     | none => rw [h] at this; cases this
     | some m => rfl
    have his : 0 < g.cw.length ∨ g.N = 0 := by
     rcases Nat.eq_zero_or_pos g.N with h | h
     ·exact .inr h
     ·left
      have := hall.2.2 0 (by omega)
      omega
    have hown : (domO g l).isSome = true → DealOf g g.F g.A l := own_deal hl his
    have hge : domI g (bstD g) ≤ whV g l := by
     cases h : domO g l with
     | none => unfold whV; rw [h]; show domI g (bstD g) ≤ 99; omega
     | some m =>
       have h1 := (bst_lex hp (hown (by rw [h]; rfl))).1
       have h2 : whV g l = domI g l := by unfold whV domI; rw [h]; rfl
       omega
    have hwl : -1000000 ≤ whV g l ∧ whV g l ≤ 99 := by
     cases h : domO g l with
     | none => unfold whV; rw [h]; show -1000000 ≤ (99 : Int) ∧ (99 : Int) ≤ 99; omega
     | some m =>
       have h1 := domI_bd k (mem_deals.2 (hown (by rw [h]; rfl)))
       have h2 : whV g l = domI g l := by unfold whV domI; rw [h]; rfl
       omega
    have hlex : whV g l = domI g (bstD g) → ∀ j, j < g.N → (∀ q, q < j → (bstD g).getD q 0 = l.getD q 0) → (bstD g).getD j 0 ≤ l.getD j 0 := fun e => by
     have hs : (domO g l).isSome = true := by
      cases h : domO g l with
      | none => unfold whV at e; rw [h] at e; exact absurd (show (99 : Int) = domI g (bstD g) from e) (by omega)
      | some m => rfl
     refine (bst_lex hp (hown hs)).2 ?_
     rw [← e]
     unfold whV domI
     cases h : domO g l with
     | none => rw [h] at hs; cases hs
     | some m => rfl
    have hgu := (deal_used k.nS (by omega) b3)
    have hle : pop (enoV g) ≤ pop (setL (bstD g)) := by
     rcases y3.le _ hgu.2.1 (genB_iff.2 ⟨_, hgu.1⟩) with h | h
     ·omega
     ·omega
    have hev := y3.lt
    have hcw : ∀ i, i < (bstD g).length → isCw g ((bstD g).getD i 0) = true := fun i hi => (isCw_iff g _).2 (by have := hall.2.2 i hi; omega)
    have hh5 : ∀ i, i < (bstD g).length → 0 ≤ (bstD g).getD i 0 ∧ (bstD g).getD i 0 < 5 := fun i hi => by have := hall.2.2 i hi; omega
    rw [e0, y1, y2]
    generalize bstD g = d at *
    have hde : decide ((d.length : Int) = (g.sm.length : Int)) = true := decide_eq_true (by omega)
    have dn : decide (((enoV g : Nat) : Int) < 0) = false := decide_eq_false (by omega)
    simp only [vsAll, binA, binLitA, intA, loadA, loadRow, partA, partOk, fieldAddrA, lenA, opA, guardV, dstOk, nilSliceOp, Nat.reduceLT, Nat.reduceEqDiff, ↓reduceIte, eq_self, wtAll, hde]
    refine gcall (i64 (whV g d)) (fun hg => ⟨by simp only [vsAll, opA], by simp only [vsAll, okAll, opsA, opA, Nat.reduceEqDiff, ↓reduceIte, eq_self], wh_tri k hbl _⟩) ?_
    rw [hwb]
    simp only [vsAll, binA, binLitA, intA, lenA, pickA, opA, guardV, dstOk, nilSliceOp, Nat.reduceLT, Nat.reduceEqDiff, ↓reduceIte, implies_true, eq_self, wtAll]
    refine vs_loop (σ := Nat) (fun i => i ≤ d.length) (fun i => [(2, gptr g), (5, i64 (domI g d)), (6, intsAV d), (8, i64 (enoV g : Nat)), (12, intsAV l), (16, i64 (whV g l)), (17, i64 (setL (d.take i) : Nat)), (197, intsAV d), (198, i64 d.length), (199, i64 i)]) (fun _ => H) (fun i => d.length - i) 0 (Nat.zero_le _) ?_ HSub_rfl fun i hi => ?_
    ·simp only [vsAll, Nat.reduceEqDiff, ↓reduceIte, eq_self, Int.natCast_zero]
     try exact AV.Le.refl _
    ·simp only [vsAll, binA, binLitA, intA, opA, dstOk, Nat.reduceLT, Nat.reduceEqDiff, ↓reduceIte, eq_self]
     refine condD (fun hd => ?_) (fun hd => ?_)
     ·have his : i < d.length := by omega
      have hx := hh5 i his
      have h1 := setL_bd d hh5 i hi
      have h2 := setL_bd d hh5 (i + 1) his
      rw [setL_take d his] at h2
      have ep : (1 : Int) * 2 ^ (d.getD i 0).toNat = ((2 ^ (d.getD i 0).toNat : Nat) : Int) := by rw [Int.one_mul]; simp
      have hp : 2 ^ (d.getD i 0).toNat ≤ 2 ^ 4 := Nat.pow_le_pow_right (by decide) (by omega)
      have et := setL_take d his
      simp only [vsAll, loadA, loadRow, partA, partOk, indexAddrA, okAll, stAll, opsA, opA, dstOk, nilSliceOp, Nat.reduceLT, Nat.reduceEqDiff, ↓reduceIte, eq_self, wtAll, intF_at]
      refine ⟨⟨by omega, by omega⟩, his, callK_pure (dcrew_tri g (d.getD i 0) _ k.near) ?_⟩
      simp only [vsAll, binA, binLitA, intA, unA, opA, dstOk, nilSliceOp, Nat.reduceLT, Nat.reduceEqDiff, ↓reduceIte, eq_self, hcw i his, ep]
      clear ep
      generalize 2 ^ (d.getD i 0).toNat = Q at *
      refine ⟨⟨by omega, by omega, by simp only [InR_i64]; omega⟩, ⟨by omega, by omega, by simp only [InR_i64]; omega, by simp only [InR_i64]; omega⟩, by simp only [InR_i64]; omega, loop_next (i + 1) his (by omega) ?_ HSub_rfl⟩
      simp only [vsAll, Nat.reduceEqDiff, ↓reduceIte, eq_self, et, Int.natCast_add, Int.natCast_one]
     ·have ei : i = d.length := by omega
      subst ei
      have hsb := setL_bd d hh5 d.length (Nat.le_refl _)
      rw [List.take_length] at hsb
      have hev2 : enoV g < 2 ^ 5 := Nat.lt_of_lt_of_le hev (Nat.pow_le_pow_right (by decide) (by omega))
      have dp : decide (((pop (setL d) : Nat) : Int) < ((pop (enoV g) : Nat) : Int)) = false := decide_eq_false (by omega)
      have dl : decide (whV g l < domI g d) = false := decide_eq_false (by omega)
      simp only [vsAll, binA, binLitA, intA, opA, guardV, dstOk, Nat.reduceLT, Nat.reduceEqDiff, ↓reduceIte, eq_self, List.take_length, dn]
      refine gcall (i64 (pop (enoV g))) (fun hg => ⟨by simp only [vsAll, opA], by simp only [vsAll, okAll, opsA, opA, ↓reduceIte, eq_self], gsize_tri (enoV g) _ (by omega)⟩) ?_
      simp only [vsAll, opA, guardV, dstOk, Nat.reduceLT, Nat.reduceEqDiff, ↓reduceIte, eq_self]
      refine gcall (i64 (pop (setL d))) (fun hg => ⟨by simp only [vsAll, opA], by simp only [vsAll, okAll, opsA, opA, ↓reduceIte, eq_self], gsize_tri (setL d) _ (by omega)⟩) ?_
      simp only [vsAll, binA, binLitA, intA, lenA, pickA, opA, guardV, dstOk, Nat.reduceLT, Nat.reduceEqDiff, ↓reduceIte, implies_true, eq_self, wtAll, dp, dl]
      refine vs_loop (σ := Nat) (fun i => i ≤ d.length ∧ ∀ j, j < i → whV g l = domI g d → d.getD j 0 = l.getD j 0) (fun i => [(5, i64 (domI g d)), (6, intsAV d), (12, intsAV l), (16, i64 (whV g l)), (227, i64 d.length), (228, i64 i)]) (fun _ => H) (fun i => d.length - i) 0 ⟨Nat.zero_le _, fun j hj => absurd hj (by omega)⟩ ?_ HSub_rfl fun i hi => ?_
      ·simp only [vsAll, Nat.reduceEqDiff, ↓reduceIte, eq_self, Int.natCast_zero]
       try exact AV.Le.refl _
      ·obtain ⟨hi, hinv⟩ := hi
       have hll := hl.len
       simp only [vsAll, binA, binLitA, intA, opA, dstOk, Nat.reduceLT, Nat.reduceEqDiff, ↓reduceIte, eq_self]
       refine condD (fun hd => ?_) (fun hd => ?_)
       ·have his : i < d.length := by omega
        simp only [vsAll, opA, dstOk, nilSliceOp, Nat.reduceLT, Nat.reduceEqDiff, ↓reduceIte, eq_self]
        refine vs_draw2 [0, 0, 0, 0, 0, 0, 0, 0, 0, 0, 0, 0, 0, 0] [] [0, 1, 2, 3, 4, 5, 6, 7, 8, 9, 10, 11, 12, 13] (by decide +kernel) ?_
        simp only [vsAll, binA, binLitA, intA, loadA, loadRow, partA, partOk, indexAddrA, pickA, opA, guardV, dstOk, Nat.reduceLT, Nat.reduceEqDiff, ↓reduceIte, implies_true, eq_self, wtAll, intF_at]
        refine ⟨fun q => ⟨q, q, by omega, by omega⟩, fun q => ⟨q, his⟩, fun q => ⟨q, q, by omega, by omega⟩, fun q => ⟨q, by omega⟩, ?_⟩
        refine condV (fun hc => ?_) (fun hc => ?_)
        ·rw [Bool.and_eq_true, decide_eq_true_eq, Bool.not_eq_true', decide_eq_false_iff_not] at hc
         have h1 := hlex hc.1 i (by omega) fun q hq => hinv q hq hc.1
         have dlt : decide (d.getD i 0 < l.getD i 0) = true := decide_eq_true (by omega)
         simp only [vsAll]
         refine vs_draw2 [0, 0, 0, 0, 0, 0, 0, 0, 0, 0, 0, 0, 0] [] [0, 1, 2, 3, 4, 5, 6, 7, 8, 9, 10, 11, 12] (by decide +kernel) ?_
         simp only [vsAll, binA, binLitA, intA, loadA, loadRow, partA, partOk, indexAddrA, opA, guardV, dstOk, Nat.reduceLT, Nat.reduceEqDiff, ↓reduceIte, eq_self, wtAll, intF_at, dlt]
         refine ⟨⟨by omega, by omega⟩, his, ⟨by omega, by omega⟩, by omega, ?_⟩
         refine qgcall (boo true) (fun hg => ⟨by simp only [vsAll, opA], by simp only [okAll, opsA], awake_tri _⟩) ?_
         simp only [vsAll, pickA, opA, dstOk, resA, retA.eq_1, Nat.reduceLT, Nat.reduceEqDiff, ↓reduceIte, implies_true, eq_self, Tryz.results6]
         exact dropR_pure rfl HSub_rfl
        ·simp only [vsAll, binA, binLitA, intA, opA, dstOk, Nat.reduceLT, Nat.reduceEqDiff, ↓reduceIte, eq_self]
         refine ⟨by simp only [InR_i64]; omega, loop_next (i + 1) ⟨his, fun j hj e => ?_⟩ (by omega) ?_ HSub_rfl⟩
         ·by_cases ej : j = i
          ·subst ej
           rw [decide_eq_true e, Bool.true_and, Bool.not_eq_false', decide_eq_true_eq] at hc
           exact hc
          ·exact hinv j (by omega) e
         ·simp only [vsAll, Nat.reduceEqDiff, ↓reduceIte, eq_self, Int.natCast_add, Int.natCast_one]
       ·simp only [vsAll, okAll, stAll, opsA, opA, dstOk, Nat.reduceLT, ↓reduceIte, eq_self]
        refine callK_pure (awake_tri _) ?_
        simp only [vsAll, opA, dstOk, nilSliceOp, resA, retA.eq_1, Nat.reduceLT, ↓reduceIte, eq_self, Tryz.results6]
        exact dropR_pure rfl HSub_rfl
   ·obtain ⟨d1, d2, d3, d4⟩ := D.no e4
    rw [e4, d1, d2, d3]
    have hz : (!(decide (0 < (g.cw.length : Int)) || decide ((g.sm.length : Int) = 0)) || decide (whV g l = 99)) = true := by
     by_cases hi : 0 < g.cw.length ∨ g.N = 0
     ·have : domO g l = none := by
       cases h : domO g l with
       | none => rfl
       | some m =>
         have := List.length_pos_iff.2 (List.ne_nil_of_mem (mem_deals.2 (own_deal hl hi (by rw [h]; rfl))))
         omega
      have e : whV g l = 99 := by unfold whV; rw [this]; rfl
      rw [e]; simp
     ·rw [decide_eq_false (by omega), decide_eq_false (by omega)]; rfl
    simp only [vsAll, binA, binLitA, intA, unA, pickA, opA, guardV, dstOk, nilSliceOp, Nat.reduceLT, Nat.reduceEqDiff, Int.reduceEq, ↓reduceIte, implies_true, eq_self, hz]
    refine gcall (boo true) (fun hg => ⟨by simp only [vsAll, opA], by simp only [okAll, opsA], awake_tri _⟩) ?_
    simp only [vsAll, pickA, opA, dstOk, nilSliceOp, resA, retA.eq_1, Nat.reduceLT, Nat.reduceEqDiff, ↓reduceIte, implies_true, eq_self, Tryz.results6]
    exact dropR_pure rfl HSub_rfl
end Go.Proofs.YtdopkbldjagmlaaGreat
end
section
set_option linter.unusedVariables false
set_option linter.unusedSimpArgs false
set_option maxRecDepth 100000
namespace Go.Proofs.YtdopkbldjagmlaaGreat
open Go.V Go.ChangeShapes Go.WideShapes Go.ChangeAt Go.RowKit
theorem gang_cells : cellsT Tryz.prog 9 29 = some [.sl [.int .i64, .int .i64, .int .i64, .int .i64], .sl [.int .i64, .int .i64, .int .i64], .int .i64, .int .i64, .int .i64, .sl [.int .i64], .sl [.int .i64, .int .i64, .int .i64]] := by kernel_rfl
theorem ints_of {av : AV} (h : CKA (.sl [.int .i64]) av) : ∃ l : List Int, l.length ≤ maxLen ∧ AV.Le av (intsAV l) := by
 obtain ⟨l, h1, h2⟩ := told_slice (α := Int) (fun z => [i64 z]) 0 (fun cs hcs => by
  obtain ⟨z, hz, _⟩ := told_int 0 hcs rfl
  exact ⟨z, rfl, fun j hj => by
   match j, hj with
   | 0, _ => rw [hz]; exact AV.Le.refl _⟩) h
 exact ⟨l, h1, h2⟩
theorem seams_of {av : AV} (h : CKA (.sl [.int .i64, .int .i64, .int .i64, .int .i64]) av) : ∃ l : List Sm, l.length ≤ maxLen ∧ AV.Le av (smAV l) := by
 obtain ⟨l, h1, h2⟩ := told_slice (α := Sm) Sm.cs sm0 (fun cs hcs => by
  obtain ⟨a, ha, _⟩ := told_int 0 hcs rfl
  obtain ⟨b, hb, _⟩ := told_int 1 hcs rfl
  obtain ⟨c, hc, _⟩ := told_int 2 hcs rfl
  obtain ⟨d, hd, _⟩ := told_int 3 hcs rfl
  exact ⟨⟨a, b, c, d⟩, rfl, fun j hj => by
   match j, hj with
   | 0, _ => rw [ha]; exact AV.Le.refl _
   | 1, _ => rw [hb]; exact AV.Le.refl _
   | 2, _ => rw [hc]; exact AV.Le.refl _
   | 3, _ => rw [hd]; exact AV.Le.refl _⟩) h
 exact ⟨l, h1, h2⟩
theorem crews_of {av : AV} (h : CKA (.sl [.int .i64, .int .i64, .int .i64]) av) : ∃ l : List Cw, l.length ≤ maxLen ∧ AV.Le av (cwAV l) := by
 obtain ⟨l, h1, h2⟩ := told_slice (α := Cw) Cw.cs cw0 (fun cs hcs => by
  obtain ⟨a, ha, _⟩ := told_int 0 hcs rfl
  obtain ⟨b, hb, _⟩ := told_int 1 hcs rfl
  obtain ⟨c, hc, _⟩ := told_int 2 hcs rfl
  exact ⟨⟨a, b, c⟩, rfl, fun j hj => by
   match j, hj with
   | 0, _ => rw [ha]; exact AV.Le.refl _
   | 1, _ => rw [hb]; exact AV.Le.refl _
   | 2, _ => rw [hc]; exact AV.Le.refl _⟩) h
 exact ⟨l, h1, h2⟩
theorem pots_of {av : AV} (h : CKA (.sl [.int .i64, .int .i64, .int .i64]) av) : ∃ l : List Po, l.length ≤ maxLen ∧ AV.Le av (psAV l) := by
 obtain ⟨l, h1, h2⟩ := told_slice (α := Po) Po.cs po0 (fun cs hcs => by
  obtain ⟨a, ha, _⟩ := told_int 0 hcs rfl
  obtain ⟨b, hb, _⟩ := told_int 1 hcs rfl
  obtain ⟨c, hc, _⟩ := told_int 2 hcs rfl
  exact ⟨⟨a, b, c⟩, rfl, fun j hj => by
   match j, hj with
   | 0, _ => rw [ha]; exact AV.Le.refl _
   | 1, _ => rw [hb]; exact AV.Le.refl _
   | 2, _ => rw [hc]; exact AV.Le.refl _⟩) h
 exact ⟨l, h1, h2⟩
theorem gang_rel {H : Type} {enc : TypeId × Value → H} {W : World} {sp : Nat → Bool} {held : Bool} {v : Value} {d : DataW H} {ps : List MemPlace}
  {base : Nat} (hv : Value.okWide Tryz.prog W .any base 29 v) (h : DataW.Trod enc Tryz.prog W 0 sp held 29 v d ps) : ∃ g : Gg, True ∧ VRel (st0 W) g.av v := by
 obtain ⟨cs, hcs, hv⟩ := trod_agg gang_cells (by decide) h
 obtain ⟨sm, l0, h0⟩ := seams_of (hcs.2 0 _ rfl)
 obtain ⟨cw, l1, h1⟩ := crews_of (hcs.2 1 _ rfl)
 obtain ⟨hr, h2, _⟩ := told_int 2 hcs rfl
 obtain ⟨fro, h3, _⟩ := told_int 3 hcs rfl
 obtain ⟨per, h4, _⟩ := told_int 4 hcs rfl
 obtain ⟨fs, l5, h5⟩ := ints_of (hcs.2 5 _ rfl)
 obtain ⟨ps, l6, h6⟩ := pots_of (hcs.2 6 _ rfl)
 refine ⟨⟨sm, cw, ⟨hr, fro, per, fs, ps⟩⟩, trivial, AV.Le.aggD (cs := cs) hcs.1.symm (fun j hj => ?_) _ _ hv⟩
 have hj7 : j < 7 := by have := hcs.1; simp at this; omega
 match j, hj7 with
 | 0, _ => exact h0
 | 1, _ => exact h1
 | 2, _ => rw [h2]; exact AV.Le.refl _
 | 3, _ => rw [h3]; exact AV.Le.refl _
 | 4, _ => rw [h4]; exact AV.Le.refl _
 | 5, _ => exact h5
 | 6, _ => exact h6
theorem Tryz.own : ownKnob Tryz.prog.godebug = none := by kernel_rfl
theorem u3 : Tryz.prog.underlying 3 = some (.int .i64) := by kernel_rfl
theorem u4 : Tryz.prog.underlying 4 = some .bool := by kernel_rfl
theorem u50 : Tryz.prog.underlying 50 = some (.slice 5) := by kernel_rfl
def iz : Value → Int
 | .int _ n => n
 | _ => 0
theorem by_rel {H : Type} {enc : TypeId × Value → H} {W : World} {sp : Nat → Bool} {held : Bool} {v : Value} {d : DataW H} {ps : List MemPlace} {base : Nat}
  (hv : Value.okWide Tryz.prog W .any base 50 v) (h : DataW.Trod enc Tryz.prog W 0 sp held 50 v d ps) : ∃ (N : Nat) (b : Nat → Int), (N < 2 ^ 63 ∧ ∀ i, i < N → 0 ≤ b i ∧ b i ≤ 255) ∧ VRel (st0 W) (.rsl N 1 (byF b)) v := by
 obtain ⟨a, len, cap, rfl⟩ := okWide_slice u50 hv
 obtain ⟨fuel, h⟩ := h
 obtain ⟨n, g, hn, hl, hr⟩ := trod_slice_rel (d := 4) (e := 5) (ks := [.int .u8]) u50 (by decide +kernel) (by decide +kernel) (by decide) (show DataW.trod enc Tryz.prog W 0 sp held fuel 50 [.slice a len cap] = some (d, ps) from h)
 have key : ∀ i, i < n → ∃ z : Int, g i = [.int .u8 z] ∧ 0 ≤ z ∧ z ≤ 255 := fun i hi => by
  obtain ⟨h1, h2⟩ := hl i hi
  match hg : g i, h1 with
  | [x], _ =>
    obtain ⟨z, rfl, hz⟩ := h2 0 (.int .u8) x rfl (by rw [hg]; rfl)
    refine ⟨z, rfl, ?_⟩
    simp [Lit.wf, IntKind.min, IntKind.max, IntKind.signed, IntKind.bits] at hz
    omega
 have hm : maxLen < 2 ^ 63 := by decide
 refine ⟨n, fun i => iz ((g i).getD 0 undef), ⟨by omega, fun i hi => ?_⟩, AV.Le.rsl (fun i hi => ?_) _ _ hr⟩
 ·obtain ⟨z, e, hz⟩ := key i hi
  simp only [e]; exact hz
 ·obtain ⟨z, e, hz⟩ := key i hi
  simp only [e]; simp only [byF, e]; rfl
end Go.Proofs.YtdopkbldjagmlaaGreat
end
