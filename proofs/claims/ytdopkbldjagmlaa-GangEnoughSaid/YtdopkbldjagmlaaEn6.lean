/- WHAT IS PROVED: the given statement of this claim. Conditions: none beyond the given row. -/
import Derived.Test.YtdopkbldjagmlaaRows
import Derived.ChangeVars
import Derived.Test.YtdopkbldjagmlaaEn5
section
set_option linter.unusedVariables false
set_option linter.unusedSimpArgs false
set_option maxHeartbeats 1000000
set_option maxRecDepth 100000
namespace Go.Proofs.Ytdopkbldjagmlaa
open Go.V
theorem gdeals_tri (g : Gg) (H : Hp) (kn : NearG g) : PTri Try.prog (fnA 27) [g.av] H (boo (decide (dealE g = 0))) := by
 refine tri_v0 (fun _ => false) Try.func27 (by kernel_rfl) rfl (by simp only [List.length_append, List.length_cons, List.length_nil, Try.ntmps27]; decide) ?_
 simp only [vsAll, loadA, loadRow, partA, partOk, boxA, boxZ, okAll, stAll, opsA, opA, dstOk, nilSliceOp, argFr, Nat.reduceAdd, Nat.reduceLT, Nat.reduceEqDiff, ↓reduceIte, eq_self, wtAll, Try.ntmps27]
 refine callK_pure (wdeal_tri g _ kn) ?_
 simp only [vsAll, binA, binLitA, intA, extractA, opA, dstOk, nilSliceOp, resA, retA.eq_1, Nat.reduceAdd, Nat.reduceLT, Nat.reduceEqDiff, ↓reduceIte, eq_self, Try.results27]
theorem dealE_ok {g : Gg} (k : OkG g) : decide (dealE g = 0) = genB g g.A := by
 unfold dealE genB
 rw [errG_ok k, if_pos rfl]
 cases (dO g g.F g.A g.N []).isSome <;> rfl
theorem appZ (n : Nat) (f g : Nat → List AV) (q : Nat) (hq : q < n) : appF 0 n f g q = g q := by
 rw [appF_at (by omega), if_neg (Nat.not_lt_zero q), Nat.sub_zero]
theorem cwF_eq {l m : List Cw} {q : Nat} (h : l.getD q cw0 = m.getD q cw0) : cwF l q = cwF m q := by
 unfold cwF
 rw [h]
theorem onlN_zero (g : Gg) (s : Nat) {q : Nat} (hq : q < g.cw.length) : cwF (onlN g s 0) q = cwF g.cw q := by
 refine cwF_eq ?_
 rw [onlN_at g s 0 hq, if_neg (by omega)]
 rfl
theorem onlN_same {g : Gg} {s i : Nat} (hb : s.testBit i = true) {q : Nat} (hq : q < g.cw.length) : cwF (onlN g s (i + 1)) q = cwF (onlN g s i) q := by
 refine cwF_eq ?_
 rw [onlN_at g s _ hq, onlN_at g s _ hq]
 by_cases e : q = i
 ·subst e
  rw [hb]
  simp
 ·simp only [show (q < i + 1) ↔ (q < i) from by omega]
theorem onlN_upd {g : Gg} {s i : Nat} (hb : s.testBit i = false) (hi : i < g.cw.length) {q : Nat} (hq : q < g.cw.length) :
  updF g.cw.length i (cwF (onlN g s i)) (List.take 2 (cwF (onlN g s i) i) ++ [i64 0] ++ List.drop 3 (cwF (onlN g s i) i)) q = cwF (onlN g s (i + 1)) q := by
 rw [Go.V.updF_at hi hq]
 by_cases e : q = i
 ·subst e
  rw [if_pos rfl]
  have e1 : (onlN g s q).getD q cw0 = g.crew q := by rw [onlN_at g s _ hq, if_neg (by omega)]
  have e2 : (onlN g s (q + 1)).getD q cw0 = ⟨(g.crew q).lo, (g.crew q).hi, 0⟩ := by rw [onlN_at g s _ hq, if_pos ⟨by omega, hb⟩]
  simp only [cwF, e1, e2]
  rfl
 ·rw [if_neg e]
  refine cwF_eq ?_
  rw [onlN_at g s _ hq, onlN_at g s _ hq]
  simp only [show (q < i + 1) ↔ (q < i) from by omega]
theorem bit0_eq (S i : Nat) : decide ((((S : Int) / 2 ^ i).toNat &&& 1 : Nat) = (0 : Int)) = !S.testBit i := by
 have h : decide ((((S : Int) / 2 ^ i).toNat &&& 1 : Nat) = (1 : Int)) = S.testBit i := bit_eq S i
 rw [← h, Nat.and_one_is_mod]
 have : ((S : Int) / 2 ^ i).toNat % 2 = 0 ∨ ((S : Int) / 2 ^ i).toNat % 2 = 1 := by omega
 rcases this with e | e <;> rw [e] <;> rfl
theorem only_tri (g : Gg) (s : Nat) (H : Hp) (k : NearG g) (hs : s < 2 ^ 60) : PTri Try.prog (fnA 30) [g.av, i64 (s : Nat)] H (onlG g s).av := by
 have nC := k.nC
 refine Tri.thawX (R1 := fun r H' => ∃ id, H id = none ∧ r = .ret (.agg [smAV g.sm, .sl id 3 g.cw.length, i64 g.pt.hr, i64 g.pt.fro, i64 g.pt.per, intsAV g.pt.fs, psAV g.pt.ps]) ∧ H' = H.set id (.row 3 g.cw.length (cwF (onlN g s g.cw.length)))) ?_ fun r H' hr => ?_
 ·refine Tri.drop ?_
  refine tri_v0 (mset [8]) Try.func30 (by kernel_rfl) rfl (by simp only [List.length_append, List.length_cons, List.length_nil, Try.ntmps30]; decide) ?_
  simp only [vsAll, loadA, loadRow, partA, partOk, fieldAddrA, lenA, boxA, boxZ, cellA, cellsA, okParts, buildMutA, partIdx, elemsA, lensA, partsA, partsOk, opA, allocA, newCells, okCells, storeObj, appendA, dstOk, argFr, Nat.reduceAdd, Nat.reduceMul, Nat.reduceLT, Nat.reduceLeDiff, Nat.reduceEqDiff, Nat.reduceBEq, ↓reduceIte, eq_self, wtAll, Try.ntmps30]
  intro i4 hh_i4; (try simp only [Hp.set_none, ite_none] at hh_i4); intro i5 hh_i5; (try simp only [ite_none] at hh_i5); intro i8 hh_i8; (try simp only [ite_none] at hh_i8)
  simp only [vsAll, Nat.reduceLT, ↓reduceIte, eq_self, hh_i8]
  refine ⟨fun q _ => ⟨rfl, rfl, rfl, trivial⟩, by ((try clear hh_i4); (try clear hh_i5); (try clear hh_i8); omega), by ((try clear hh_i4); (try clear hh_i5); (try clear hh_i8); omega), ?_⟩
  refine vs_loop (σ := Nat) (fun i => i ≤ g.cw.length) (fun i => [(1, i64 (s : Nat)), (4, .ref i4 0 7 0 0), (5, .ref i5 0 7 0 0), (15, i64 g.cw.length), (16, i64 i)])
   (fun i => ((H.set i4 (.box 7 1 fun _ => [.lit (.slice none 0 0), .lit (.slice none 0 0), i64 0, i64 0, i64 0, .lit (.slice none 0 0), .lit (.slice none 0 0)])).set i5 (.box 7 1 fun _ => [smAV g.sm, .sl i8 3 g.cw.length, i64 g.pt.hr, i64 g.pt.fro, i64 g.pt.per, intsAV g.pt.fs, psAV g.pt.ps])).set i8 (.row 3 g.cw.length (cwF (onlN g s i)))) (fun i => g.cw.length - i) 0 (Nat.zero_le _) ?_ ?_ fun i hi => ?_
  ·simp only [vsAll, argFr, Nat.reduceEqDiff, ↓reduceIte, eq_self, Int.natCast_zero]
  ·refine HSub_put (o' := .row 3 g.cw.length (appF 0 g.cw.length (fun i => []) (cwF g.cw))) (by simp only [vsAll, ↓reduceIte, eq_self, hh_i8]) (row_ext fun q hq => by rw [appZ _ _ _ q hq, onlN_zero g s hq]) ?_
   (repeat (first | exact HSub_rfl | refine HSub_put_eq (by simp only [vsAll, ↓reduceIte, eq_self, hh_i5, hh_i8]) ?_ | refine HSub_drop2 (by simp only [eq_self, hh_i4, hh_i5, hh_i8]) ?_ | refine HSub_keep_eq (by simp only [vsAll, ↓reduceIte, eq_self, reduceCtorEq, Nat.reduceEqDiff, hh_i4, hh_i5, hh_i8]) ?_))
  ·simp only [vsAll, binA, binLitA, intA, opA, dstOk, Nat.reduceLT, Nat.reduceEqDiff, ↓reduceIte, eq_self]
   refine condD (fun hd => ?_) (fun hd => ?_)
   ·have his : i < g.cw.length := by ((try clear hh_i4); (try clear hh_i5); (try clear hh_i8); omega)
    have h1 : (s : Int) / 2 ^ i = ((s / 2 ^ i : Nat) : Int) := by simp
    have h2 : s / 2 ^ i ≤ s := Nat.div_le_self _ _
    simp only [vsAll, binA, binLitA, intA, opA, dstOk, nilSliceOp, Nat.reduceLT, Nat.reduceEqDiff, Nat.reduceBEq, Int.reduceLE, Int.reduceToNat, ↓reduceIte, eq_self]
    refine ⟨⟨by ((try clear hh_i4); (try clear hh_i5); (try clear hh_i8); omega), by ((try clear hh_i4); (try clear hh_i5); (try clear hh_i8); omega), rfl⟩, ⟨?_, ?_, by simp only [InR_i64]; ((try clear hh_i4); (try clear hh_i5); (try clear hh_i8); omega)⟩, ?_⟩
    ·rw [h1]; exact Int.natCast_nonneg _
    ·rw [h1]
     generalize s / 2 ^ i = q at *
     simp only [InR_i64]; ((try clear hh_i4); (try clear hh_i5); (try clear hh_i8); omega)
    rw [bit0_eq]
    refine condV (fun hc => ?_) (fun hc => ?_)
    ·rw [Bool.not_eq_true'] at hc
     simp only [vsAll, binA, binLitA, intA, loadA, loadRow, partA, partOk, fieldAddrA, indexAddrA, cellA, cellsA, opA, newCells, okCells, storeObj, dstOk, Nat.reduceAdd, Nat.reduceLT, Nat.reduceEqDiff, ↓reduceIte, eq_self, wtAll, hh_i8]
     refine ⟨⟨by ((try clear hh_i4); (try clear hh_i5); (try clear hh_i8); omega), by ((try clear hh_i4); (try clear hh_i5); (try clear hh_i8); omega)⟩, his, by simp only [InR_i64]; ((try clear hh_i4); (try clear hh_i5); (try clear hh_i8); omega), loop_next (i + 1) (by ((try clear hh_i4); (try clear hh_i5); (try clear hh_i8); omega)) (by ((try clear hh_i4); (try clear hh_i5); (try clear hh_i8); omega)) ?_ ?_⟩
     ·simp only [vsAll, Nat.reduceEqDiff, ↓reduceIte, eq_self, Int.natCast_add, Int.natCast_one]
     ·rw [Hp.set_set]
      refine HSub_put (o' := .row 3 g.cw.length (updF g.cw.length i (cwF (onlN g s i)) (List.take 2 (cwF (onlN g s i) i) ++ [i64 0] ++ List.drop 3 (cwF (onlN g s i) i)))) (by simp only [vsAll, ↓reduceIte, eq_self]) (row_ext fun q hq => onlN_upd hc his hq) ?_
      (repeat (first | exact HSub_rfl | refine HSub_put_eq (by simp only [vsAll, ↓reduceIte, eq_self, hh_i5, hh_i8]) ?_ | refine HSub_drop2 (by simp only [eq_self, hh_i4, hh_i5, hh_i8]) ?_ | refine HSub_keep_eq (by simp only [vsAll, ↓reduceIte, eq_self, reduceCtorEq, Nat.reduceEqDiff, hh_i4, hh_i5, hh_i8]) ?_))
    ·rw [Bool.not_eq_false'] at hc
     simp only [vsAll, binA, binLitA, intA, opA, dstOk, Nat.reduceLT, Nat.reduceEqDiff, ↓reduceIte, eq_self]
     refine ⟨by simp only [InR_i64]; ((try clear hh_i4); (try clear hh_i5); (try clear hh_i8); omega), loop_next (i + 1) (by ((try clear hh_i4); (try clear hh_i5); (try clear hh_i8); omega)) (by ((try clear hh_i4); (try clear hh_i5); (try clear hh_i8); omega)) ?_ ?_⟩
     ·simp only [vsAll, Nat.reduceEqDiff, ↓reduceIte, eq_self, Int.natCast_add, Int.natCast_one]
     ·refine HSub_put (o' := .row 3 g.cw.length (cwF (onlN g s i))) (by simp only [vsAll, ↓reduceIte, eq_self]) (row_ext fun q hq => (onlN_same hc hq).symm) ?_
      (repeat (first | exact HSub_rfl | refine HSub_put_eq (by simp only [vsAll, ↓reduceIte, eq_self, hh_i5, hh_i8]) ?_ | refine HSub_drop2 (by simp only [eq_self, hh_i4, hh_i5, hh_i8]) ?_ | refine HSub_keep_eq (by simp only [vsAll, ↓reduceIte, eq_self, reduceCtorEq, Nat.reduceEqDiff, hh_i4, hh_i5, hh_i8]) ?_))
   ·have ei : i = g.cw.length := by ((try clear hh_i4); (try clear hh_i5); (try clear hh_i8); omega)
    subst ei
    simp only [vsAll, loadA, loadRow, partA, partOk, cellA, opA, newCells, okCells, storeObj, dstOk, resA, retA.eq_1, Nat.reduceAdd, Nat.reduceLT, Nat.reduceEqDiff, ↓reduceIte, eq_self, wtAll, Try.results30, hh_i5, hh_i8]
    exact ⟨H.set i8 (.row 3 g.cw.length (cwF (onlN g s g.cw.length))), by (repeat (first | exact HSub_rfl | refine HSub_put_eq (by simp only [vsAll, ↓reduceIte, eq_self, hh_i8]) ?_ | refine HSub_drop2 (by simp only [eq_self, hh_i4, hh_i5, hh_i8]) ?_ | refine HSub_keep_eq (by simp only [vsAll, ↓reduceIte, eq_self, reduceCtorEq, Nat.reduceEqDiff, hh_i4, hh_i5, hh_i8]) ?_)), i8, hh_i8.2.2.2, rfl, rfl⟩
 ·obtain ⟨id, hid, rfl, rfl⟩ := hr
  refine .inr ⟨_, (onlG g s).av, id, 3, g.cw.length, cwF (onlN g s g.cw.length), rfl, .inr ⟨Hp.set_same _ _ _, ?_⟩, rfl, set_del hid⟩
  refine .agg rfl fun q hq => ?_
  match q, hq with
  | 0, _ => exact .same _
  | 1, _ =>
    refine .leaf ⟨rfl, cwF (onlN g s g.cw.length), fun _ _ => rfl, ?_⟩
    show AV.rsl (onlN g s g.cw.length).length 3 _ = _
    rw [onlN_len]
    rfl
  | 2, _ => exact .same _
  | 3, _ => exact .same _
  | 4, _ => exact .same _
  | 5, _ => exact .same _
  | 6, _ => exact .same _
end Go.Proofs.Ytdopkbldjagmlaa
end
section
set_option linter.unusedVariables false
set_option linter.unusedSimpArgs false
set_option maxHeartbeats 2000000
set_option maxRecDepth 100000
namespace Go.Proofs.Ytdopkbldjagmlaa
open Go.V
theorem kpN_yes {S i : Nat} (h : S.testBit i = true) : kpN S (i + 1) = kpN S i := by
 simp [kpN, List.range_succ, List.filter_append, h]
theorem kpN_no {S i : Nat} (h : S.testBit i = false) : kpN S (i + 1) = kpN S i ++ [i] := by
 simp [kpN, List.range_succ, List.filter_append, h]
/-- The crews, if the first ones have been told of one seam more. -/
def wcN (g : Gg) (S i j : Nat) : List Cw := (List.range g.cw.length).map fun c => if c < j then (wthN g S (i + 1)).crew c else (wthN g S i).crew c
theorem wthN_crew (g : Gg) (S i : Nat) {c : Nat} (h : c < g.cw.length) : (wthN g S i).crew c = ⟨(g.crew c).lo, (g.crew c).hi, (mkN (g.crew c).st.toNat (kpN S i) (kpN S i).length : Nat)⟩ := by
 simp [Gg.crew, wthN, List.getD_eq_getElem?_getD, h]
theorem wcN_at (g : Gg) (S i j : Nat) {c : Nat} (h : c < g.cw.length) : (wcN g S i j).getD c cw0 = if c < j then (wthN g S (i + 1)).crew c else (wthN g S i).crew c := by
 simp [wcN, List.getD_eq_getElem?_getD, h]
theorem mk_step {g : Gg} {S i c : Nat} (h : S.testBit i = false) : mkN (g.crew c).st.toNat (kpN S (i + 1)) (kpN S (i + 1)).length = mkN (g.crew c).st.toNat (kpN S i) (kpN S i).length ||| (if (g.crew c).st.toNat.testBit i = true then 2 ^ (kpN S i).length else 0) := by
 rw [kpN_no h, List.length_append, List.length_cons, List.length_nil]
 simp only [mkN]
 have e1 : (kpN S i ++ [i]).getD (kpN S i).length 0 = i := by simp [List.getD_eq_getElem?_getD]
 have e2 : mkN (g.crew c).st.toNat (kpN S i ++ [i]) (kpN S i).length = mkN (g.crew c).st.toNat (kpN S i) (kpN S i).length := mkN_congr _ fun j hj => by
  simp [List.getD_eq_getElem?_getD, List.getElem?_append_left hj]
 rw [e1, e2]
 split
 ·rfl
 ·rw [Nat.or_zero]
def bI (S i : Nat) : Nat := if S.testBit i = true then 1 else 0
theorem band_eq (S i : Nat) : (((S : Int) / 2 ^ i).toNat &&& 1 : Nat) = bI S i := by
 have h : decide ((((S : Int) / 2 ^ i).toNat &&& 1 : Nat) = (1 : Int)) = S.testBit i := bit_eq S i
 have h2 : ((S : Int) / 2 ^ i).toNat &&& 1 = 0 ∨ ((S : Int) / 2 ^ i).toNat &&& 1 = 1 := by
  rw [Nat.and_one_is_mod]; omega
 unfold bI
 rcases h2 with e | e
 ·rw [e] at h ⊢
  rw [← h]; rfl
 ·rw [e] at h ⊢
  rw [← h]; rfl
theorem bI_mul (S i n : Nat) : bI S i * 2 ^ n = if S.testBit i = true then 2 ^ n else 0 := by
 unfold bI
 split
 ·rw [Nat.one_mul]
 ·rw [Nat.zero_mul]
theorem wcN_upd {g : Gg} {S i j : Nat} (hb : S.testBit i = false) (hj : j < g.cw.length) {q : Nat} (hq : q < g.cw.length) :
  updF g.cw.length j (cwF (wcN g S i j)) (List.take 2 (cwF (wcN g S i j) j) ++ [i64 ((mkN (g.crew j).st.toNat (kpN S i) (kpN S i).length ||| bI (g.crew j).st.toNat i * 2 ^ (kpN S i).length : Nat) : Int)] ++ List.drop 3 (cwF (wcN g S i j) j)) q = cwF (wcN g S i (j + 1)) q := by
 rw [Go.V.updF_at hj hq, bI_mul, ← mk_step hb]
 by_cases e : q = j
 ·subst e
  rw [if_pos rfl]
  have e1 : (wcN g S i q).getD q cw0 = (wthN g S i).crew q := by rw [wcN_at g S i q hq, if_neg (by omega)]
  have e2 : (wcN g S i (q + 1)).getD q cw0 = (wthN g S (i + 1)).crew q := by rw [wcN_at g S i _ hq, if_pos (by omega)]
  simp only [cwF, e1, e2, wthN_crew g S _ hq]
  rfl
 ·rw [if_neg e]
  refine cwF_eq ?_
  rw [wcN_at g S i _ hq, wcN_at g S i _ hq]
  simp only [show (q < j + 1) ↔ (q < j) from by omega]
def wthR (g : Gg) (S : Nat) (H : Hp) : Res → Hp → Prop := fun r H' => ∃ is ic, H is = none ∧ H ic = none ∧ ¬ is = ic ∧ r = .ret (.agg [.sl is 4 (kpN S g.N).length, .sl ic 3 g.cw.length, i64 g.pt.hr, i64 g.pt.fro, i64 g.pt.per, intsAV g.pt.fs, psAV g.pt.ps]) ∧
 H' = (H.set ic (.row 3 g.cw.length (cwF (wthG g S).cw))).set is (.row 4 (kpN S g.N).length (smF (wthG g S).sm))
theorem withoutM_tri (g : Gg) (S : Nat) (H : Hp) (k : OkG g) (hS : S < 2 ^ 60) : Tri Try.prog (.func (.func 31) [] [gptr g]) [i64 (S : Nat)] H (wthR g S H) := by
 have nC := k.nC
 have nS := k.nS
 have hN : g.N ≤ 5 := nS
 have hNe : g.N = g.sm.length := rfl
 refine Tri.drop ?_
 refine tri_v0 (mset [10]) Try.func31 (by kernel_rfl) rfl (by simp only [List.length_append, List.length_cons, List.length_nil, Try.ntmps31]; decide) ?_
 simp only [vsAll, loadA, loadRow, partA, partOk, fieldAddrA, lenA, cellA, cellsA, okParts, buildMutA, partIdx, elemsA, lensA, partsA, partsOk, opA, allocA, newCells, okCells, storeObj, appendA, dstOk, argFr, Nat.reduceAdd, Nat.reduceMul, Nat.reduceLT, Nat.reduceLeDiff, Nat.reduceEqDiff, Nat.reduceBEq, ↓reduceIte, eq_self, wtAll, Try.ntmps31]
 intro i3 hh_i3; (try simp only [Hp.set_none, ite_none] at hh_i3); intro i4 hh_i4; (try simp only [ite_none] at hh_i4); intro ic hh_ic; (try simp only [ite_none] at hh_ic)
 simp only [vsAll, Nat.reduceLT, ↓reduceIte, eq_self, hh_ic]
 refine ⟨fun q _ => ⟨rfl, rfl, rfl, trivial⟩, by ((try clear hh_i3); (try clear hh_i4); (try clear hh_ic); omega), by ((try clear hh_i3); (try clear hh_i4); (try clear hh_ic); omega), ?_⟩
 refine vs_loop (σ := Nat) (fun i => i ≤ g.cw.length) (fun i => [(0, i64 (S : Nat)), (1, gptr g), (3, .ref i3 0 7 0 0), (4, .ref i4 0 7 0 0), (18, i64 g.cw.length), (19, i64 i)])
  (fun i => ((H.set i3 (.box 7 1 fun _ => [.lit (.slice none 0 0), .lit (.slice none 0 0), i64 0, i64 0, i64 0, .lit (.slice none 0 0), .lit (.slice none 0 0)])).set i4 (.box 7 1 fun _ => [.lit (.slice none 0 0), .sl ic 3 g.cw.length, i64 g.pt.hr, i64 g.pt.fro, i64 g.pt.per, intsAV g.pt.fs, psAV g.pt.ps])).set ic (.row 3 g.cw.length (cwF (onlN g 0 i)))) (fun i => g.cw.length - i) 0 (Nat.zero_le _) ?_ ?_ fun i hi => ?_
 ·simp only [vsAll, argFr, Nat.reduceEqDiff, ↓reduceIte, reduceCtorEq, eq_self, Int.natCast_zero]
 ·refine HSub_put (o' := .row 3 g.cw.length (appF 0 g.cw.length (fun i => []) (cwF g.cw))) (by simp only [vsAll, ↓reduceIte, eq_self, hh_ic]) (row_ext fun q hq => by rw [appZ _ _ _ q hq, onlN_zero g 0 hq]) ?_
  (repeat (first | exact HSub_rfl | refine HSub_put_eq (by simp only [vsAll, ↓reduceIte, eq_self, hh_i4, hh_ic]) ?_ | refine HSub_drop2 (by simp only [eq_self, hh_i3, hh_i4, hh_ic]) ?_ | refine HSub_keep_eq (by simp only [vsAll, ↓reduceIte, eq_self, reduceCtorEq, Nat.reduceEqDiff, hh_i3, hh_i4, hh_ic]) ?_))
 ·simp only [vsAll, binA, binLitA, intA, opA, dstOk, Nat.reduceLT, Nat.reduceEqDiff, ↓reduceIte, reduceCtorEq, eq_self]
  refine condD (fun hd => ?_) (fun hd => ?_)
  ·have his : i < g.cw.length := by ((try clear hh_i3); (try clear hh_i4); (try clear hh_ic); omega)
   simp only [vsAll, binA, binLitA, intA, loadA, loadRow, partA, partOk, fieldAddrA, indexAddrA, cellA, cellsA, opA, newCells, okCells, storeObj, dstOk, nilSliceOp, Nat.reduceAdd, Nat.reduceLT, Nat.reduceEqDiff, Nat.reduceBEq, ↓reduceIte, reduceCtorEq, eq_self, wtAll, hh_ic]
   refine ⟨⟨by ((try clear hh_i3); (try clear hh_i4); (try clear hh_ic); omega), by ((try clear hh_i3); (try clear hh_i4); (try clear hh_ic); omega)⟩, his, by simp only [InR_i64]; ((try clear hh_i3); (try clear hh_i4); (try clear hh_ic); omega), loop_next (i + 1) (by ((try clear hh_i3); (try clear hh_i4); (try clear hh_ic); omega)) (by ((try clear hh_i3); (try clear hh_i4); (try clear hh_ic); omega)) ?_ ?_⟩
   ·simp only [vsAll, Nat.reduceEqDiff, ↓reduceIte, reduceCtorEq, eq_self, Int.natCast_add, Int.natCast_one]
   ·rw [Hp.set_set]
    refine HSub_put (o' := .row 3 g.cw.length (updF g.cw.length i (cwF (onlN g 0 i)) (List.take 2 (cwF (onlN g 0 i) i) ++ [i64 0] ++ List.drop 3 (cwF (onlN g 0 i) i)))) (by simp only [vsAll, ↓reduceIte, eq_self]) (row_ext fun q hq => onlN_upd (Nat.zero_testBit i) his hq) ?_
    (repeat (first | exact HSub_rfl | refine HSub_put_eq (by simp only [vsAll, ↓reduceIte, eq_self, hh_i4, hh_ic]) ?_ | refine HSub_drop2 (by simp only [eq_self, hh_i3, hh_i4, hh_ic]) ?_ | refine HSub_keep_eq (by simp only [vsAll, ↓reduceIte, eq_self, reduceCtorEq, Nat.reduceEqDiff, hh_i3, hh_i4, hh_ic]) ?_))
  ·have ei : i = g.cw.length := by ((try clear hh_i3); (try clear hh_i4); (try clear hh_ic); omega)
   subst ei
   simp only [vsAll, loadA, loadRow, partA, partOk, fieldAddrA, lenA, opA, dstOk, Nat.reduceLT, Nat.reduceEqDiff, ↓reduceIte, reduceCtorEq, eq_self, wtAll]
   refine vs_entL (Ent.nilBox 4 (smF []) (fun id _ => [.sl id 4 0, .sl ic 3 g.cw.length, i64 g.pt.hr, i64 g.pt.fro, i64 g.pt.per, intsAV g.pt.fs, psAV g.pt.ps]) (j := i4) (st' := 7) (n' := 1) (g := fun _ => [.lit (.slice none 0 0), .sl ic 3 g.cw.length, i64 g.pt.hr, i64 g.pt.fro, i64 g.pt.per, intsAV g.pt.fs, psAV g.pt.ps]) (by simp only [vsAll, ↓reduceIte, eq_self, hh_ic]) (fun _ _ _ => rfl) (fun id q d hq hd => ?_) fun is hse => ?_)
   ·match d, hd with
    | 0, _ => exact .hit
    | 1, _ => exact .inl rfl
    | 2, _ => exact .inl rfl
    | 3, _ => exact .inl rfl
    | 4, _ => exact .inl rfl
    | 5, _ => exact .inl rfl
    | 6, _ => exact .inl rfl
   simp only [Hp.set_none] at hse
   skip
   refine vs_loop (σ := Nat) (fun i => i ≤ g.N) (fun i => [(0, i64 (S : Nat)), (1, gptr g), (3, .ref i3 0 7 0 0), (4, .ref i4 0 7 0 0), (29, smAV g.sm), (30, i64 g.N), (31, i64 i)])
    (fun i => (((H.set i3 (.box 7 1 fun _ => [.lit (.slice none 0 0), .lit (.slice none 0 0), i64 0, i64 0, i64 0, .lit (.slice none 0 0), .lit (.slice none 0 0)])).set i4 (.box 7 1 fun _ => [.sl is 4 (kpN S i).length, .sl ic 3 g.cw.length, i64 g.pt.hr, i64 g.pt.fro, i64 g.pt.per, intsAV g.pt.fs, psAV g.pt.ps])).set ic (.row 3 g.cw.length (cwF (wthN g S i).cw))).set is (.row 4 (kpN S i).length (smF (wthN g S i).sm))) (fun i => g.N - i) 0 (Nat.zero_le _) ?_ ?_ fun i hi => ?_
   ·simp only [vsAll, Nat.reduceEqDiff, ↓reduceIte, reduceCtorEq, eq_self, Int.natCast_zero, hNe]
    try exact AV.Le.refl _
   ·have e0 : (kpN S 0).length = 0 := rfl
    rw [e0]
    refine HSub_put_eq (by simp only [vsAll, ↓reduceIte, eq_self, hse]; try rfl) ?_
    refine HSub_put (o' := .row 3 g.cw.length (cwF (onlN g 0 g.cw.length))) (by simp only [vsAll, ↓reduceIte, eq_self, hh_ic, hse]) (row_ext fun q hq => cwF_eq ?_) ?_
    ·rw [onlN_at g 0 _ hq, if_pos ⟨hq, Nat.zero_testBit q⟩]
     exact (wthN_crew g S 0 hq).symm
    ·(repeat (first | exact HSub_rfl | refine HSub_put_eq (by simp only [vsAll, ↓reduceIte, eq_self, hh_i4, hh_ic, hse]) ?_ | refine HSub_drop2 (by simp only [eq_self, hh_i3, hh_i4, hh_ic, hse]) ?_ | refine HSub_keep_eq (by simp only [vsAll, ↓reduceIte, eq_self, reduceCtorEq, Nat.reduceEqDiff, hh_i3, hh_i4, hh_ic, hse]) ?_))
   ·simp only [vsAll, binA, binLitA, intA, opA, dstOk, Nat.reduceLT, Nat.reduceEqDiff, ↓reduceIte, reduceCtorEq, eq_self]
    refine condD (fun hd => ?_) (fun hd => ?_)
    ·have his : i < g.N := by ((try clear hh_i3); (try clear hh_i4); (try clear hh_ic); (try clear hse); omega)
     have h1 : (S : Int) / 2 ^ i = ((S / 2 ^ i : Nat) : Int) := by simp
     have h2 : S / 2 ^ i ≤ S := Nat.div_le_self _ _
     have hbq : decide ((((S : Int) / 2 ^ i).toNat &&& 1 : Nat) = (1 : Int)) = S.testBit i := bit_eq S i
     have hkl := kp_len S i
     have eS : g.sm.getD i sm0 = g.seam i := rfl
     simp only [vsAll, binA, binLitA, intA, loadA, loadRow, partA, partOk, indexAddrA, cellA, opA, allocA, newCells, okCells, storeObj, dstOk, nilSliceOp, Nat.reduceAdd, Nat.reduceLT, Nat.reduceEqDiff, Nat.reduceBEq, Int.reduceLE, Int.reduceToNat, ↓reduceIte, reduceCtorEq, eq_self, wtAll, smF_at, eS]
     refine ⟨⟨by ((try clear hh_i3); (try clear hh_i4); (try clear hh_ic); (try clear hse); omega), by ((try clear hh_i3); (try clear hh_i4); (try clear hh_ic); (try clear hse); omega)⟩, by ((try clear hh_i3); (try clear hh_i4); (try clear hh_ic); (try clear hse); omega), ?_⟩
     intro i7 hh_i7; (try simp only [ite_none] at hh_i7)
     refine ⟨⟨by ((try clear hh_i3); (try clear hh_i4); (try clear hh_ic); (try clear hse); (try clear hh_i7); omega), by ((try clear hh_i3); (try clear hh_i4); (try clear hh_ic); (try clear hse); (try clear hh_i7); omega), rfl⟩, ⟨?_, ?_, by simp only [InR_i64]; ((try clear hh_i3); (try clear hh_i4); (try clear hh_ic); (try clear hse); (try clear hh_i7); omega)⟩, ?_⟩
     ·rw [h1]; exact Int.natCast_nonneg _
     ·rw [h1]
      generalize S / 2 ^ i = q at *
      simp only [InR_i64]; ((try clear hh_i3); (try clear hh_i4); (try clear hh_ic); (try clear hse); (try clear hh_i7); omega)
     rw [hbq, Hp.set_set]
     refine condV (fun hc => ?_) (fun hc => ?_)
     ·have ek := kpN_yes hc
      simp only [vsAll, binA, binLitA, intA, opA, dstOk, Nat.reduceLT, Nat.reduceEqDiff, ↓reduceIte, reduceCtorEq, eq_self]
      refine ⟨by simp only [InR_i64]; ((try clear hh_i3); (try clear hh_i4); (try clear hh_ic); (try clear hse); (try clear hh_i7); omega), loop_next (i + 1) his (by ((try clear hh_i3); (try clear hh_i4); (try clear hh_ic); (try clear hse); (try clear hh_i7); omega)) ?_ ?_⟩
      ·simp only [vsAll, Nat.reduceEqDiff, ↓reduceIte, reduceCtorEq, eq_self, Int.natCast_add, Int.natCast_one]
      ·unfold wthN
       rw [ek]
       (repeat (first | exact HSub_rfl | refine HSub_put_eq (by simp only [vsAll, ↓reduceIte, eq_self, hh_i4, hh_ic, hse, hh_i7]) ?_ | refine HSub_drop2 (by simp only [eq_self, hh_i3, hh_i4, hh_ic, hse, hh_i7]) ?_ | refine HSub_keep_eq (by simp only [vsAll, ↓reduceIte, eq_self, reduceCtorEq, Nat.reduceEqDiff, hh_i3, hh_i4, hh_ic, hse, hh_i7]) ?_))
     ·simp only [vsAll, loadA, loadRow, partA, partOk, fieldAddrA, lenA, opA, dstOk, Nat.reduceLT, Nat.reduceEqDiff, ↓reduceIte, reduceCtorEq, eq_self, wtAll, hh_ic, hse, hh_i7]
      refine vs_loop (σ := Nat) (fun j => j ≤ g.cw.length) (fun j => [(0, i64 (S : Nat)), (1, gptr g), (3, .ref i3 0 7 0 0), (4, .ref i4 0 7 0 0), (6, i64 i), (7, .ref i7 0 4 0 0), (29, smAV g.sm), (30, i64 g.N), (31, i64 i), (43, i64 g.cw.length), (44, i64 j)])
       (fun j => (((((H.set i3 (.box 7 1 fun _ => [.lit (.slice none 0 0), .lit (.slice none 0 0), i64 0, i64 0, i64 0, .lit (.slice none 0 0), .lit (.slice none 0 0)])).set i4 (.box 7 1 fun _ => [.sl is 4 (kpN S i).length, .sl ic 3 g.cw.length, i64 g.pt.hr, i64 g.pt.fro, i64 g.pt.per, intsAV g.pt.fs, psAV g.pt.ps])).set ic (.row 3 g.cw.length (cwF (wcN g S i j)))).set is (.row 4 (kpN S i).length (smF (wthN g S i).sm))).set i7 (.box 4 1 fun _ => [i64 (g.seam i).fa, i64 (g.seam i).dr, i64 (g.seam i).fl, i64 (g.seam i).po]))) (fun j => g.cw.length - j) 0 (Nat.zero_le _) ?_ ?_ fun j hj => ?_
      ·simp only [vsAll, Nat.reduceEqDiff, ↓reduceIte, reduceCtorEq, eq_self, Int.natCast_zero, hNe]
       try exact AV.Le.refl _
      ·have ee : ∀ q, q < g.cw.length → cwF (wthN g S i).cw q = cwF (wcN g S i 0) q := fun q hq => cwF_eq (by
        rw [wcN_at g S i 0 hq, if_neg (by ((try clear hh_i3); (try clear hh_i4); (try clear hh_ic); (try clear hse); (try clear hh_i7); omega))]; rfl)
       refine HSub_put_eq (by simp only [vsAll, ↓reduceIte, eq_self]) ?_
       refine HSub_put_eq (by simp only [vsAll, ↓reduceIte, eq_self, hh_i7]) ?_
       refine HSub_put (o' := .row 3 g.cw.length (cwF (wthN g S i).cw)) (by simp only [vsAll, ↓reduceIte, eq_self, hse, hh_i7]) (row_ext ee) ?_
       (repeat (first | exact HSub_rfl | refine HSub_put_eq (by simp only [vsAll, ↓reduceIte, eq_self, hh_i4, hh_ic, hse, hh_i7]) ?_ | refine HSub_drop2 (by simp only [eq_self, hh_i3, hh_i4, hh_ic, hse, hh_i7]) ?_ | refine HSub_keep_eq (by simp only [vsAll, ↓reduceIte, eq_self, reduceCtorEq, Nat.reduceEqDiff, hh_i3, hh_i4, hh_ic, hse, hh_i7]) ?_))
      ·simp only [vsAll, binA, binLitA, intA, opA, dstOk, Nat.reduceLT, Nat.reduceEqDiff, ↓reduceIte, reduceCtorEq, eq_self]
       refine condD (fun hd2 => ?_) (fun hd2 => ?_)
       ·have hjs : j < g.cw.length := by ((try clear hh_i3); (try clear hh_i4); (try clear hh_ic); (try clear hse); (try clear hh_i7); omega)
        simp only [vsAll, opA, dstOk, nilSliceOp, Nat.reduceLT, Nat.reduceEqDiff, Nat.reduceBEq, ↓reduceIte, reduceCtorEq, eq_self]
        refine vs_draw2 [0, 0, 0, 0, 0, 0, 0, 0, 0, 0, 0, 0, 0, 0, 0, 0, 0, 0, 0, 0, 0, 0, 1] [([0, 1, 2, 3, 4, 5, 6, 7, 8, 9, 10, 11, 12, 13, 14, 15, 16, 17, 18, 19, 20, 21], [], 22)] [] (by decide +kernel) ?_
        have hcj := k.crew hjs
        have est : (g.cw.getD j cw0).st = (((g.crew j).st.toNat : Nat) : Int) := by
         show (g.crew j).st = _
         have := hcj.2.2.2.1
         ((try clear hh_i3); (try clear hh_i4); (try clear hh_ic); (try clear hse); (try clear hh_i7); omega)
        have ewc : (wcN g S i j).getD j cw0 = ⟨(g.crew j).lo, (g.crew j).hi, (mkN (g.crew j).st.toNat (kpN S i) (kpN S i).length : Nat)⟩ := by rw [wcN_at g S i j hjs, if_neg (Nat.lt_irrefl j), wthN_crew g S i hjs]
        have hsl := (st_lt k hjs).2.2
        have hmk := mkN_lt (g.crew j).st.toNat (kpN S i) (kpN S i).length
        have h2l : 2 ^ (kpN S i).length ≤ 2 ^ 5 := Nat.pow_le_pow_right (by decide) (by ((try clear hh_i3); (try clear hh_i4); (try clear hh_ic); (try clear hse); (try clear hh_i7); omega))
        have hbe := band_eq (g.crew j).st.toNat i
        have hb1 : bI (g.crew j).st.toNat i ≤ 1 := by unfold bI; split <;> ((try clear hh_i3); (try clear hh_i4); (try clear hh_ic); (try clear hse); (try clear hh_i7); omega)
        have hbm : bI (g.crew j).st.toNat i * 2 ^ (kpN S i).length ≤ 1 * 2 ^ (kpN S i).length := Nat.mul_le_mul_right _ hb1
        have emu : ((bI (g.crew j).st.toNat i : Nat) : Int) * 2 ^ (kpN S i).length = ((bI (g.crew j).st.toNat i * 2 ^ (kpN S i).length : Nat) : Int) := by simp
        have hup := fun q hq => wcN_upd (g := g) (S := S) (i := i) (j := j) hc hjs (q := q) hq
        have h3 : ((g.crew j).st.toNat : Int) / 2 ^ i = (((g.crew j).st.toNat / 2 ^ i : Nat) : Int) := by simp
        have h4 : (g.crew j).st.toNat / 2 ^ i ≤ (g.crew j).st.toNat := Nat.div_le_self _ _
        simp only [vsAll, binA, binLitA, intA, loadA, loadRow, partA, partOk, fieldAddrA, indexAddrA, lenA, cellA, cellsA, opA, newCells, okCells, storeObj, dstOk, Nat.reduceAdd, Nat.reduceLT, Nat.reduceEqDiff, Int.reduceLE, Int.reduceToNat, ↓reduceIte, reduceCtorEq, eq_self, wtAll, hh_ic, hse, hh_i7, cwF_at, est, ewc, hbe, emu]
        generalize bI (g.crew j).st.toNat i * 2 ^ (kpN S i).length = BM at hbm hup emu ⊢
        generalize mkN (g.crew j).st.toNat (kpN S i) (kpN S i).length = MK at hmk hup ewc ⊢
        have hup2 : ∀ q, q < g.cw.length → updF g.cw.length j (cwF (wcN g S i j)) [i64 (g.crew j).lo, i64 (g.crew j).hi, i64 ((MK ||| BM : Nat) : Int)] q = cwF (wcN g S i (j + 1)) q := fun q hq => by
         have h := hup q hq
         rw [show cwF (wcN g S i j) j = [i64 (g.crew j).lo, i64 (g.crew j).hi, i64 (MK : Int)] from by rw [cwF_at, ewc]] at h
         exact h
        refine ⟨⟨by ((try clear hh_i3); (try clear hh_i4); (try clear hh_ic); (try clear hse); (try clear hh_i7); omega), by ((try clear hh_i3); (try clear hh_i4); (try clear hh_ic); (try clear hse); (try clear hh_i7); omega)⟩, hjs, ⟨by ((try clear hh_i3); (try clear hh_i4); (try clear hh_ic); (try clear hse); (try clear hh_i7); omega), by ((try clear hh_i3); (try clear hh_i4); (try clear hh_ic); (try clear hse); (try clear hh_i7); omega)⟩, hjs, ⟨by ((try clear hh_i3); (try clear hh_i4); (try clear hh_ic); (try clear hse); (try clear hh_i7); omega), by ((try clear hh_i3); (try clear hh_i4); (try clear hh_ic); (try clear hse); (try clear hh_i7); omega), rfl⟩, ⟨?_, ?_, by simp only [InR_i64]; ((try clear hh_i3); (try clear hh_i4); (try clear hh_ic); (try clear hse); (try clear hh_i7); omega)⟩, ⟨by ((try clear hh_i3); (try clear hh_i4); (try clear hh_ic); (try clear hse); (try clear hh_i7); omega), by ((try clear hh_i3); (try clear hh_i4); (try clear hh_ic); (try clear hse); (try clear hh_i7); omega), by simp only [InR_i64]; ((try clear hh_i3); (try clear hh_i4); (try clear hh_ic); (try clear hse); (try clear hh_i7); omega)⟩, ⟨by ((try clear hh_i3); (try clear hh_i4); (try clear hh_ic); (try clear hse); (try clear hh_i7); omega), by ((try clear hh_i3); (try clear hh_i4); (try clear hh_ic); (try clear hse); (try clear hh_i7); omega), by simp only [InR_i64]; ((try clear hh_i3); (try clear hh_i4); (try clear hh_ic); (try clear hse); (try clear hh_i7); omega), by simp only [InR_i64]; ((try clear hh_i3); (try clear hh_i4); (try clear hh_ic); (try clear hse); (try clear hh_i7); omega)⟩, ⟨by ((try clear hh_i3); (try clear hh_i4); (try clear hh_ic); (try clear hse); (try clear hh_i7); omega), by ((try clear hh_i3); (try clear hh_i4); (try clear hh_ic); (try clear hse); (try clear hh_i7); omega)⟩, hjs, by simp only [InR_i64]; ((try clear hh_i3); (try clear hh_i4); (try clear hh_ic); (try clear hse); (try clear hh_i7); omega), loop_next (j + 1) hjs (by ((try clear hh_i3); (try clear hh_i4); (try clear hh_ic); (try clear hse); (try clear hh_i7); omega)) ?_ ?_⟩
        ·rw [h3]; exact Int.natCast_nonneg _
        ·rw [h3]
         generalize (g.crew j).st.toNat / 2 ^ i = q at *
         simp only [InR_i64]; ((try clear hh_i3); (try clear hh_i4); (try clear hh_ic); (try clear hse); (try clear hh_i7); omega)
        ·simp only [vsAll, Nat.reduceEqDiff, ↓reduceIte, reduceCtorEq, eq_self, Int.natCast_add, Int.natCast_one]
        ·refine HSub_put_eq (by simp only [vsAll, ↓reduceIte, eq_self, hh_i7]) ?_
         refine HSub_put_eq (by simp only [vsAll, ↓reduceIte, eq_self, hse, hh_i7]) ?_
         refine HSub_put (o' := .row 3 g.cw.length (updF g.cw.length j (cwF (wcN g S i j)) [i64 (g.crew j).lo, i64 (g.crew j).hi, i64 ((MK ||| BM : Nat) : Int)])) (by simp only [vsAll, ↓reduceIte, eq_self]) (row_ext hup2) ?_
         (repeat (first | exact HSub_rfl | refine HSub_put_eq (by simp only [vsAll, ↓reduceIte, eq_self, hh_i4, hh_ic, hse, hh_i7]) ?_ | refine HSub_drop2 (by simp only [eq_self, hh_i3, hh_i4, hh_ic, hse, hh_i7]) ?_ | refine HSub_keep_eq (by simp only [vsAll, ↓reduceIte, eq_self, reduceCtorEq, Nat.reduceEqDiff, hh_i3, hh_i4, hh_ic, hse, hh_i7]) ?_))
       ·have ej : j = g.cw.length := by ((try clear hh_i3); (try clear hh_i4); (try clear hh_ic); (try clear hse); (try clear hh_i7); omega)
        subst ej
        have ek := kpN_no hc
        have el : (kpN S (i + 1)).length = (kpN S i).length + 1 := by rw [ek]; simp
        have eap : appF (kpN S i).length 1 (smF (wthN g S i).sm) (fun q => [[i64 (g.seam i).fa, i64 (g.seam i).dr, i64 (g.seam i).fl, i64 (g.seam i).po]].getD q []) = smF (wthN g S (i + 1)).sm := by
         have e1 : (wthN g S i).sm.length = (kpN S i).length := by simp [wthN]
         have e2 : (wthN g S (i + 1)).sm = (wthN g S i).sm ++ [g.seam i] := by simp [wthN, ek]
         rw [e2, ← e1]
         exact app_lF Sm.cs sm0 _ (g.seam i) _ rfl
        have ee : ∀ q, q < g.cw.length → cwF (wcN g S i g.cw.length) q = cwF (wthN g S (i + 1)).cw q := fun q hq => cwF_eq (by
         rw [wcN_at g S i _ hq, if_pos hq]; rfl)
        simp only [vsAll, binA, binLitA, intA, loadA, loadRow, partA, partOk, fieldAddrA, cellA, cellsA, okParts, buildSliceA, partIdx, elemsA, lensA, partsA, partsOk, opA, newCells, okCells, storeObj, appendA, dstOk, Nat.reduceAdd, Nat.reduceMul, Nat.reduceLT, Nat.reduceLeDiff, Nat.reduceEqDiff, Nat.reduceBEq, ↓reduceIte, reduceCtorEq, eq_self, wtAll, hh_ic, hse, hh_i7]
        refine ⟨fun q hq => by (have : q = 0 := by ((try clear hh_i3); (try clear hh_i4); (try clear hh_ic); (try clear hse); (try clear hh_i7); omega)); subst this; exact ⟨rfl, rfl, rfl, rfl, trivial⟩, by ((try clear hh_i3); (try clear hh_i4); (try clear hh_ic); (try clear hse); (try clear hh_i7); omega), by ((try clear hh_i3); (try clear hh_i4); (try clear hh_ic); (try clear hse); (try clear hh_i7); omega), by simp only [InR_i64]; ((try clear hh_i3); (try clear hh_i4); (try clear hh_ic); (try clear hse); (try clear hh_i7); omega), loop_next (i + 1) his (by ((try clear hh_i3); (try clear hh_i4); (try clear hh_ic); (try clear hse); (try clear hh_i7); omega)) ?_ ?_⟩
        ·simp only [vsAll, Nat.reduceEqDiff, ↓reduceIte, reduceCtorEq, eq_self, Int.natCast_add, Int.natCast_one]
        ·rw [eap, el]
         refine HSub_put_eq (by simp only [vsAll, ↓reduceIte, eq_self, hse]) ?_
         refine HSub_put (o' := .row 3 g.cw.length (cwF (wcN g S i g.cw.length))) (by simp only [vsAll, ↓reduceIte, eq_self, hh_ic, hse, hh_i7]) (row_ext ee) ?_
         (repeat (first | exact HSub_rfl | refine HSub_put_eq (by simp only [vsAll, ↓reduceIte, eq_self, hh_i4, hh_ic, hse, hh_i7]) ?_ | refine HSub_drop2 (by simp only [eq_self, hh_i3, hh_i4, hh_ic, hse, hh_i7]) ?_ | refine HSub_keep_eq (by simp only [vsAll, ↓reduceIte, eq_self, reduceCtorEq, Nat.reduceEqDiff, hh_i3, hh_i4, hh_ic, hse, hh_i7]) ?_))
    ·have ei : i = g.N := by ((try clear hh_i3); (try clear hh_i4); (try clear hh_ic); (try clear hse); omega)
     subst ei
     simp only [vsAll, loadA, loadRow, partA, partOk, cellA, opA, newCells, okCells, storeObj, dstOk, resA, retA.eq_1, Nat.reduceAdd, Nat.reduceLT, Nat.reduceEqDiff, ↓reduceIte, reduceCtorEq, eq_self, wtAll, Try.results31, hh_i4, hh_ic, hse]
     have hni : H is = none := by (first | exact hse.2.2.2 | exact hse.2.2.2.2 | exact hse.2.2 | simp only [hse])
     have hci : H ic = none := by (first | exact hh_ic.2.2 | exact hh_ic.2.2.2 | exact hh_ic.2)
     refine ⟨(H.set ic (.row 3 g.cw.length (cwF (wthN g S g.N).cw))).set is (.row 4 (kpN S g.N).length (smF (wthN g S g.N).sm)), ?_, is, ic, hni, hci, hse.1.1, rfl, rfl⟩
     (repeat (first | exact HSub_rfl | refine HSub_put_eq (by simp only [vsAll, ↓reduceIte, eq_self, hh_ic, hse]) ?_ | refine HSub_drop2 (by simp only [eq_self, hh_i3, hh_i4, hh_ic, hse]) ?_ | refine HSub_keep_eq (by simp only [vsAll, ↓reduceIte, eq_self, reduceCtorEq, Nat.reduceEqDiff, hh_i3, hh_i4, hh_ic, hse]) ?_))
theorem gwithout_tri (g : Gg) (S : Nat) (H : Hp) (k : OkG g) (hS : S < 2 ^ 60) : PTri Try.prog (.func (.func 31) [] [gptr g]) [i64 (S : Nat)] H (wthG g S).av := by
 have eN : (wthG g S).sm.length = (kpN S g.N).length := wthG_N g S
 have eM := wthG_len g S
 refine Tri.thawX (R1 := fun r H' => ∃ ic, H ic = none ∧ r = .ret (.agg [smAV (wthG g S).sm, .sl ic 3 g.cw.length, i64 g.pt.hr, i64 g.pt.fro, i64 g.pt.per, intsAV g.pt.fs, psAV g.pt.ps]) ∧ H' = H.set ic (.row 3 g.cw.length (cwF (wthG g S).cw))) ?_ fun r H' hr => ?_
 ·refine Tri.thawX (withoutM_tri g S H k hS) fun r H' hr => ?_
  obtain ⟨is, ic, h1, h2, h3, rfl, rfl⟩ := hr
  refine .inr ⟨_, .agg [smAV (wthG g S).sm, .sl ic 3 g.cw.length, i64 g.pt.hr, i64 g.pt.fro, i64 g.pt.per, intsAV g.pt.fs, psAV g.pt.ps], is, 4, (kpN S g.N).length, smF (wthG g S).sm, rfl, .inr ⟨Hp.set_same _ _ _, ?_⟩, ic, h2, rfl, ?_⟩
  ·refine .agg rfl fun q hq => ?_
   match q, hq with
   | 0, _ =>
     refine .leaf ⟨rfl, smF (wthG g S).sm, fun _ _ => rfl, ?_⟩
     show AV.rsl (wthG g S).sm.length 4 _ = _
     rw [eN]
   | 1, _ => exact .same _
   | 2, _ => exact .same _
   | 3, _ => exact .same _
   | 4, _ => exact .same _
   | 5, _ => exact .same _
   | 6, _ => exact .same _
  ·exact set_del (by rw [Hp.set_ne _ _ h3]; exact h1)
 ·obtain ⟨ic, hid, rfl, rfl⟩ := hr
  refine .inr ⟨_, (wthG g S).av, ic, 3, g.cw.length, cwF (wthG g S).cw, rfl, .inr ⟨Hp.set_same _ _ _, ?_⟩, rfl, set_del hid⟩
  refine .agg rfl fun q hq => ?_
  match q, hq with
  | 0, _ => exact .same _
  | 1, _ =>
    refine .leaf ⟨rfl, cwF (wthG g S).cw, fun _ _ => rfl, ?_⟩
    show AV.rsl (wthG g S).cw.length 3 _ = _
    rw [eM]
  | 2, _ => exact .same _
  | 3, _ => exact .same _
  | 4, _ => exact .same _
  | 5, _ => exact .same _
  | 6, _ => exact .same _
end Go.Proofs.Ytdopkbldjagmlaa
end
section
set_option linter.unusedVariables false
set_option linter.unusedSimpArgs false
namespace Go.Proofs.Ytdopkbldjagmlaa
open Go.V
/-- All is as easy, or easier, for the second gangs. -/
structure EasG (g x : Gg) : Prop where
 kg : OkG g
 kx : OkG x
 n : x.N = g.N
 m : x.cw.length = g.cw.length
 s : ∀ n, n < g.N → 0 ≤ begV g n → 0 ≤ begV x n ∧ begV x n ≤ begV g n
 f : ∀ n, n < g.N → (x.seam n).fa ≤ (g.seam n).fa ∧ (g.seam n).fl ≤ (x.seam n).fl
 c : ∀ c, c < g.cw.length → (g.crew c).lo ≤ (x.crew c).lo
 k : ∀ c n, c < g.cw.length → n < g.N → (g.crew c).st.toNat.testBit n = true → (x.crew c).st.toNat.testBit n = true
end Go.Proofs.Ytdopkbldjagmlaa
end
section
set_option linter.unusedVariables false
set_option linter.unusedSimpArgs false
set_option maxHeartbeats 4000000
set_option maxRecDepth 100000
namespace Go.Proofs.Ytdopkbldjagmlaa
open Go.V
theorem fineG_ok {g : Gg} (h : (!fineG g) = false) : OkG g ∧ NearG g := by
 unfold fineG at h
 simp only [Bool.not_eq_false', Bool.and_eq_true, decide_eq_true_eq] at h
 exact ⟨h.2, h.2.near⟩
def rdN (g : Gg) (l : List Int) (i : Nat) : List Int := (List.range i).map fun j => readyV g (l.getD j 0)
def kaN (g : Gg) (l : List Int) (b : Bool) : Nat → Bool
 | 0 => b
 | i + 1 => kaN g l b i && decide (readyE g (l.getD i 0) = 0)
def spk (a b c : Int) (q : Nat) : Int := [a, b, c].getD q 0
def mxF (g : Gg) (a b c : Int) (l : List Int) (i k : Nat) : Nat → List AV := fun q => [i64 (donN g (spk a b c q) l (if q < k then i + 1 else i))]
def lateV (g : Gg) (c : Nat) (l : List Int) (i : Nat) : Int := match (List.range i).find? (ltB g c l) with
 | some j => l.getD j 0
 | none => -1
end Go.Proofs.Ytdopkbldjagmlaa
end
section
set_option linter.unusedVariables false
set_option linter.unusedSimpArgs false
set_option maxHeartbeats 4000000
set_option maxRecDepth 100000
namespace Go.Proofs.Ytdopkbldjagmlaa
open Go.V
theorem onl_deal {g : Gg} (k : OkG g) (s : Nat) : decide (dealE (onlG g s) = 0) = genB g s := by
 rw [dealE_ok (onlG_ok k s), only_gen k s]
theorem wth_deal {g : Gg} (k : OkG g) (s : Nat) : decide (dealE (wthG g s) = 0) = leaB g s := by
 rw [dealE_ok (wthG_ok k s), wth_gen k s]
/-- A least set: none that is less suits. -/
theorem least_less {f : Nat → Bool} {m s i : Nat} (hm : m ≤ 5) (h : LeastSet f m s) (hi : i < m) : (s.testBit i && f (dif s (2 ^ i))) = false := by
 rw [← Bool.not_eq_true, Bool.and_eq_true]
 rintro ⟨h1, h2⟩
 have h5 := lt32 hm h.lt
 have hd := dif_pop s h5 i (by omega) h1
 have := h.le _ (dif_lt h.lt) h2
 omega
theorem least_own {f : Nat → Bool} {m s q : Nat} (h : LeastSet f m s) (hq : q < 2 ^ m) : (f q && (decide ((pop q : Int) < (pop s : Int)) || decide ((pop q : Int) = (pop s : Int)) && decide ((q : Int) < (s : Int)))) = false := by
 rw [← Bool.not_eq_true]
 intro hb
 rw [Bool.and_eq_true, Bool.or_eq_true, Bool.and_eq_true, decide_eq_true_eq, decide_eq_true_eq, decide_eq_true_eq] at hb
 have := h.le q hq hb.1
 omega
theorem enough_law (g : Gg) (bt : Int) (H : Hp) (hbt : 0 ≤ bt ∧ bt ≤ 255) : PTri Try.prog (fnA 6) [g.av, .lit (.int .u8 bt)] H (boo true) := by
 refine Tri.drop ?_
 refine tri_v0 (fun _ => false) Try.func6 (by kernel_rfl) rfl (by simp only [List.length_append, List.length_cons, List.length_nil, Try.ntmps6]; decide) ?_
 simp only [vsAll, loadA, loadRow, partA, partOk, boxA, boxZ, okAll, stAll, opsA, opA, dstOk, nilSliceOp, argFr, Nat.reduceAdd, Nat.reduceLT, Nat.reduceEqDiff, ↓reduceIte, eq_self, wtAll, Try.ntmps6]
 refine callK_pure (gfine_tri g _) ?_
 simp only [vsAll, unA, opA, dstOk, Nat.reduceLT, ↓reduceIte, eq_self]
 refine condV (fun hc => ?_) (fun hc => ?_)
 ·simp only [vsAll, okAll, stAll, opsA, opA, dstOk, Nat.reduceLT]
  refine callK_pure (awake_tri _) ?_
  simp only [vsAll, opA, dstOk, nilSliceOp, resA, retA.eq_1, Nat.reduceLT, ↓reduceIte, eq_self, Try.results6]
  exact dropR_pure rfl HSub_rfl
 ·obtain ⟨k, kn⟩ := fineG_ok hc
  have nS := k.nS
  have nC := k.nC
  have hN5 : g.N ≤ 5 := nS
  have hNe : g.N = g.sm.length := rfl
  have hpS : 2 ^ g.N ≤ 2 ^ 5 := Nat.pow_le_pow_right (by omega) hN5
  have hp0 : 0 < 2 ^ g.N := Nat.two_pow_pos _
  have hpC : 2 ^ g.cw.length ≤ 2 ^ 3 := Nat.pow_le_pow_right (by omega) nC
  have hp1 : 0 < 2 ^ g.cw.length := Nat.two_pow_pos _
  have epS : (1 : Int) * 2 ^ g.sm.length = ((2 ^ g.N : Nat) : Int) := by rw [Int.one_mul]; simp [Gg.N]
  have epC : (1 : Int) * 2 ^ g.cw.length = ((2 ^ g.cw.length : Nat) : Int) := by rw [Int.one_mul]; simp
  have eTS : (((2 ^ g.N : Nat) : Int) - 1).toNat = 2 ^ g.N - 1 := by omega
  have eTC : (((2 ^ g.cw.length : Nat) : Int) - 1).toNat = 2 ^ g.cw.length - 1 := by omega
  have hon : ∀ (s : Nat) (X : Hp), PTri Try.prog (fnA 27) [(onlG g s).av] X (boo (genB g s)) := fun s X => by
   have := gdeals_tri (onlG g s) X (onlG_ok k s).near
   rwa [onl_deal k s] at this
  have hwt : ∀ (s : Nat) (X : Hp), PTri Try.prog (fnA 27) [(wthG g s).av] X (boo (leaB g s)) := fun s X => by
   have := gdeals_tri (wthG g s) X (wthG_ok k s).near
   rwa [wth_deal k s] at this
  obtain ⟨L, hL1, hL2⟩ := lea_some (g := g) (by omega)
  have eLE : leaE g = 0 := errG_ok k
  have eLV : leaV g = L := by unfold leaV; rw [eLE, hL1]; rfl
  simp only [vsAll, loadA, loadRow, partA, partOk, okAll, stAll, opsA, opA, dstOk, nilSliceOp, Nat.reduceLT, Nat.reduceEqDiff, ↓reduceIte, eq_self, wtAll]
  refine callK_pure (wenough_tri g _ kn) ?_
  have he0 : errG g true = 0 := errG_ok k
  cases hr : fewV (genB g) g.cw.length with
  | none =>
    have e1 : enoE g = 4 := by unfold enoE; rw [he0, hr]; rfl
    simp only [vsAll, binA, binLitA, intA, loadA, loadRow, partA, partOk, extractA, okAll, stAll, opsA, opA, dstOk, nilSliceOp, Nat.reduceAdd, Nat.reduceLT, Nat.reduceEqDiff, Int.reduceEq, ↓reduceIte, eq_self, wtAll, e1]
    refine callK_pure (wleave_tri g _ kn) ?_
    have dL1 : decide (((2 ^ g.N : Nat) : Int) - 1 < (L : Int)) = false := decide_eq_false (by have := hL2.lt; omega)
    have dL2 : decide ((L : Int) < 0) = false := decide_eq_false (by omega)
    have hLt := hL2.lt
    have hL32 := lt32 hN5 hLt
    simp only [vsAll, binA, binLitA, intA, loadA, loadRow, partA, partOk, fieldAddrA, extractA, lenA, pickA, opA, guardV, dstOk, nilSliceOp, Nat.reduceAdd, Nat.reduceLT, Nat.reduceEqDiff, ↓reduceIte, implies_true, eq_self, wtAll, eLE, eLV, epS, dL1, dL2]
    refine ⟨⟨by omega, by omega, by simp only [InR_i64]; omega⟩, by simp only [InR_i64]; omega, ?_⟩
    refine gcall ((wthG g L).av) (fun hg => ⟨by simp only [vsAll, opA, Nat.reduceEqDiff, ↓reduceIte, eq_self], by simp only [vsAll, okAll, opsA, opA, ↓reduceIte, eq_self], gwithout_tri g L _ k (by omega)⟩) ?_
    simp only [vsAll, guardV, dstOk, Nat.reduceLT, Nat.reduceEqDiff, ↓reduceIte, eq_self]
    refine gcall (boo (leaB g L)) (fun hg => ⟨by simp only [vsAll, opA, Nat.reduceEqDiff, ↓reduceIte, eq_self], by simp only [vsAll, okAll, opsA, opA, ↓reduceIte, eq_self], hwt L _⟩) ?_
    rw [hL2.is]
    simp only [vsAll, unA, loadA, loadRow, partA, partOk, fieldAddrA, lenA, pickA, opA, guardV, dstOk, Nat.reduceLT, Nat.reduceEqDiff, ↓reduceIte, implies_true, eq_self, wtAll]
    refine vs_loop (σ := Nat) (fun i => i ≤ g.N) (fun i => [(2, gptr g), (1, .lit (.int .u8 bt)), (5, .func (.func 26) [] []), (6, .func (.func 27) [] []), (12, .func (.func 31) [] [gptr g]), (13, i64 L), (15, i64 (((2 ^ g.N : Nat) : Int) - 1)), (135, i64 g.N), (136, i64 i)]) (fun _ => H) (fun i => g.N - i) 0 (Nat.zero_le _) ?_ HSub_rfl fun i hi => ?_
    ·simp only [vsAll, argFr, Nat.reduceEqDiff, ↓reduceIte, eq_self, Int.natCast_zero, hNe]
     try exact AV.Le.refl _
    ·simp only [vsAll, binA, binLitA, intA, opA, dstOk, Nat.reduceLT, Nat.reduceEqDiff, ↓reduceIte, eq_self]
     refine condD (fun hd => ?_) (fun hd => ?_)
     ·have his : i < g.N := by omega
      have hbq : decide ((((L : Int) / 2 ^ i).toNat &&& 1 : Nat) = (1 : Int)) = L.testBit i := bit_eq L i
      have h1 : (L : Int) / 2 ^ i = ((L / 2 ^ i : Nat) : Int) := by simp
      have h2 : L / 2 ^ i ≤ L := Nat.div_le_self _ _
      have hdv : 0 ≤ (L : Int) / 2 ^ i ∧ InR .i64 ((L : Int) / 2 ^ i) := by
       rw [h1]
       refine ⟨Int.natCast_nonneg _, ?_⟩
       generalize L / 2 ^ i = q at *
       simp only [InR_i64]; omega
      have ep2 : (1 : Int) * 2 ^ i = ((2 ^ i : Nat) : Int) := by rw [Int.one_mul]; simp
      have hpi : 2 ^ i ≤ 2 ^ 5 := Nat.pow_le_pow_right (by omega) (by omega)
      have hll := least_less hN5 hL2 his
      have hdl : dif L (2 ^ i) < 2 ^ g.N := dif_lt hLt
      have edf : (L ^^^ (L &&& 2 ^ i)) = dif L (2 ^ i) := rfl
      simp only [vsAll, binA, binLitA, intA, opA, guardV, dstOk, nilSliceOp, Nat.reduceLT, Nat.reduceEqDiff, Int.reduceLE, Int.reduceToNat, ↓reduceIte, implies_true, eq_self, hbq, ep2, edf]
      generalize 2 ^ i = P2 at hpi hll hdl ep2 ⊢
      refine ⟨⟨by omega, by omega, rfl⟩, ⟨?_, ?_, by simp only [InR_i64]; omega⟩, fun q => ⟨q, by omega, by omega, by simp only [InR_i64]; omega⟩, fun q => ⟨q, q, by omega, by omega, by simp only [InR_i64]; omega, by simp only [InR_i64]; omega⟩, ?_⟩
      ·exact hdv.1
      ·exact hdv.2
      refine gcall ((wthG g (dif L P2)).av) (fun hg => ⟨by simp only [vsAll, opA, Nat.reduceEqDiff, ↓reduceIte, eq_self, hg], by simp only [vsAll, okAll, opsA, opA, ↓reduceIte, eq_self, hg], gwithout_tri g (dif L P2) _ k (by omega)⟩) ?_
      simp only [vsAll, guardV, dstOk, Nat.reduceLT, Nat.reduceEqDiff, ↓reduceIte, eq_self]
      refine gcall (boo (leaB g (dif L P2))) (fun hg => ⟨by simp only [vsAll, opA, Nat.reduceEqDiff, ↓reduceIte, eq_self, hg], by simp only [vsAll, okAll, opsA, opA, ↓reduceIte, eq_self, hg], hwt (dif L P2) _⟩) ?_
      simp only [vsAll, pickA, opA, dstOk, Nat.reduceLT, Nat.reduceEqDiff, ↓reduceIte, implies_true, eq_self]
      rw [hll]
      simp only [vsAll, binA, binLitA, intA, opA, dstOk, Nat.reduceLT, Nat.reduceEqDiff, ↓reduceIte, eq_self]
      refine ⟨by simp only [InR_i64]; omega, loop_next (i + 1) his (by omega) ?_ HSub_rfl⟩
      simp only [vsAll, Nat.reduceEqDiff, ↓reduceIte, eq_self, Int.natCast_add, Int.natCast_one]
     ·have ei : i = g.N := by omega
      subst ei
      have hql : bt.toNat &&& (2 ^ g.N - 1) < 2 ^ g.N := by
       have := Nat.and_le_right (n := bt.toNat) (m := 2 ^ g.N - 1)
       omega
      have hlo := least_own hL2 hql
      have hpl := pop_le L
      simp only [vsAll, binA, binLitA, intA, convA, okAll, stAll, opsA, opA, dstOk, nilSliceOp, Nat.reduceLT, Nat.reduceEqDiff, ↓reduceIte, eq_self, wtAll, eTS]
      generalize bt.toNat &&& (2 ^ g.N - 1) = Q at hql hlo ⊢
      have hpq := pop_le Q
      refine ⟨by simp only [InR_i64]; omega, ⟨by omega, by omega, by simp only [InR_i64]; omega, by simp only [InR_i64]; omega⟩, ?_⟩
      refine callK_pure (gwithout_tri g Q _ k (by omega)) ?_
      simp only [vsAll, okAll, stAll, opsA, opA, dstOk, Nat.reduceLT, Nat.reduceEqDiff, ↓reduceIte, eq_self]
      refine callK_pure (hwt Q _) ?_
      simp only [vsAll, unA, opA, guardV, dstOk, Nat.reduceLT, Nat.reduceEqDiff, ↓reduceIte, implies_true, eq_self]
      refine gcall (i64 (pop Q : Nat)) (fun hg => ⟨by simp only [vsAll, opA, Nat.reduceEqDiff, ↓reduceIte, eq_self, hg], by simp only [vsAll, okAll, opsA, opA, ↓reduceIte, eq_self, hg], gsize_tri Q _ (by omega)⟩) ?_
      simp only [vsAll, opA, guardV, dstOk, Nat.reduceLT, Nat.reduceEqDiff, ↓reduceIte, implies_true, eq_self]
      refine gcall (i64 (pop L : Nat)) (fun hg => ⟨by simp only [vsAll, opA, Nat.reduceEqDiff, ↓reduceIte, eq_self, hg], by simp only [vsAll, okAll, opsA, opA, ↓reduceIte, eq_self, hg], gsize_tri L _ (by omega)⟩) ?_
      simp only [vsAll, binA, binLitA, intA, pickA, opA, guardV, dstOk, Nat.reduceLT, Nat.reduceEqDiff, ↓reduceIte, implies_true, eq_self]
      refine gcall (i64 (pop Q : Nat)) (fun hg => ⟨by simp only [vsAll, opA, Nat.reduceEqDiff, ↓reduceIte, eq_self, hg], by simp only [vsAll, okAll, opsA, opA, ↓reduceIte, eq_self, hg], gsize_tri Q _ (by omega)⟩) ?_
      simp only [vsAll, opA, guardV, dstOk, Nat.reduceLT, Nat.reduceEqDiff, ↓reduceIte, implies_true, eq_self]
      refine gcall (i64 (pop L : Nat)) (fun hg => ⟨by simp only [vsAll, opA, Nat.reduceEqDiff, ↓reduceIte, eq_self, hg], by simp only [vsAll, okAll, opsA, opA, ↓reduceIte, eq_self, hg], gsize_tri L _ (by omega)⟩) ?_
      simp only [vsAll, binA, binLitA, intA, pickA, opA, guardV, dstOk, Nat.reduceLT, Nat.reduceEqDiff, ↓reduceIte, implies_true, eq_self]
      refine ⟨fun q => ⟨q, fun q2 => by rw [q, q2]; rfl⟩, ?_⟩
      have hfin : (!leaB g Q || decide ((pop L : Int) < (pop Q : Int)) || decide ((pop Q : Int) = (pop L : Int)) && decide ((L : Int) ≤ (Q : Int))) = true := by
       cases hlq : leaB g Q with
       | false => rfl
       | true =>
         rcases hL2.le Q hql hlq with h | ⟨h1, h2⟩
         ·rw [decide_eq_true (show (pop L : Int) < (pop Q : Int) by omega)]; rfl
         ·rw [decide_eq_true (show (pop Q : Int) = (pop L : Int) by omega), decide_eq_true (show (L : Int) ≤ (Q : Int) by omega)]; simp
      rw [hfin]
      refine gcall (boo true) (fun hg => ⟨by simp only [vsAll, opA], by simp only [okAll, opsA], awake_tri _⟩) ?_
      simp only [vsAll, pickA, opA, dstOk, nilSliceOp, resA, retA.eq_1, Nat.reduceLT, Nat.reduceEqDiff, ↓reduceIte, implies_true, eq_self, Try.results6]
      exact dropR_pure rfl HSub_rfl
  | some s =>
    have e1 : enoE g = 0 := by unfold enoE; rw [he0, hr]; rfl
    have e2 : enoV g = s := by unfold enoV; rw [he0, hr]; rfl
    have hs := fewV_some hr
    have hs1 := hs.lt
    have d1 : decide (((2 ^ g.cw.length : Nat) : Int) - 1 < (s : Int)) = false := decide_eq_false (by omega)
    have d2 : decide ((s : Int) < 0) = false := decide_eq_false (by omega)
    simp only [vsAll, binA, binLitA, intA, loadA, loadRow, partA, partOk, fieldAddrA, extractA, lenA, pickA, opA, guardV, dstOk, nilSliceOp, Nat.reduceAdd, Nat.reduceLT, Nat.reduceEqDiff, ↓reduceIte, implies_true, eq_self, wtAll, e1, e2, epC, d1, d2]
    refine ⟨⟨by omega, by omega, by simp only [InR_i64]; omega⟩, by simp only [InR_i64]; omega, ?_⟩
    refine gcall ((onlG g s).av) (fun hg => ⟨by simp only [vsAll, opA], by simp only [vsAll, okAll, opsA, opA, Nat.reduceEqDiff, ↓reduceIte, eq_self], only_tri g s _ kn (by omega)⟩) ?_
    simp only [vsAll, guardV, dstOk, Nat.reduceLT, Nat.reduceEqDiff, ↓reduceIte, eq_self]
    refine gcall (boo (genB g s)) (fun hg => ⟨by simp only [vsAll, opA, Nat.reduceEqDiff, ↓reduceIte, eq_self], by simp only [vsAll, okAll, opsA, opA, ↓reduceIte, eq_self], hon s _⟩) ?_
    rw [hs.is]
    simp only [vsAll, unA, loadA, loadRow, partA, partOk, fieldAddrA, lenA, pickA, opA, guardV, dstOk, Nat.reduceLT, Nat.reduceEqDiff, ↓reduceIte, implies_true, eq_self, wtAll]
    refine vs_loop (σ := Nat) (fun i => i ≤ g.cw.length) (fun i => [(2, gptr g), (1, .lit (.int .u8 bt)), (5, .func (.func 26) [] []), (6, .func (.func 27) [] []), (7, i64 s), (9, i64 (((2 ^ g.cw.length : Nat) : Int) - 1)), (51, i64 g.cw.length), (52, i64 i)]) (fun _ => H) (fun i => g.cw.length - i) 0 (Nat.zero_le _) ?_ HSub_rfl fun i hi => ?_
    ·simp only [vsAll, argFr, Nat.reduceEqDiff, ↓reduceIte, eq_self, Int.natCast_zero]
    ·simp only [vsAll, binA, binLitA, intA, opA, dstOk, Nat.reduceLT, Nat.reduceEqDiff, ↓reduceIte, eq_self]
     refine condD (fun hd => ?_) (fun hd => ?_)
     ·have his : i < g.cw.length := by omega
      have hbq : decide ((((s : Int) / 2 ^ i).toNat &&& 1 : Nat) = (1 : Int)) = s.testBit i := bit_eq s i
      have h1 : (s : Int) / 2 ^ i = ((s / 2 ^ i : Nat) : Int) := by simp
      have h2 : s / 2 ^ i ≤ s := Nat.div_le_self _ _
      have hdv : 0 ≤ (s : Int) / 2 ^ i ∧ InR .i64 ((s : Int) / 2 ^ i) := by
       rw [h1]
       refine ⟨Int.natCast_nonneg _, ?_⟩
       generalize s / 2 ^ i = q at *
       simp only [InR_i64]; omega
      have ep2 : (1 : Int) * 2 ^ i = ((2 ^ i : Nat) : Int) := by rw [Int.one_mul]; simp
      have hpi : 2 ^ i ≤ 2 ^ 5 := Nat.pow_le_pow_right (by omega) (by omega)
      have hll := least_less (by omega) hs his
      have hdl : dif s (2 ^ i) < 2 ^ g.cw.length := dif_lt hs1
      have edf : (s ^^^ (s &&& 2 ^ i)) = dif s (2 ^ i) := rfl
      simp only [vsAll, opA, dstOk, nilSliceOp, Nat.reduceLT, Nat.reduceEqDiff, ↓reduceIte, eq_self]
      refine vs_draw2 [0, 0, 0, 0, 0, 0, 0, 0, 0, 0, 0, 0, 0, 0, 0] [] [0, 1, 2, 3, 4, 5, 6, 7, 8, 9, 10, 11, 12, 13, 14] (by decide +kernel) ?_
      simp only [vsAll, binA, binLitA, intA, loadA, loadRow, partA, partOk, opA, guardV, dstOk, Nat.reduceLT, Nat.reduceEqDiff, Int.reduceLE, Int.reduceToNat, ↓reduceIte, implies_true, eq_self, wtAll, hbq, ep2, edf]
      generalize 2 ^ i = P2 at hpi hll hdl ep2 ⊢
      refine ⟨⟨by omega, by omega, rfl⟩, ⟨hdv.1, hdv.2, by simp only [InR_i64]; omega⟩, fun q => ⟨q, by omega, by omega, by simp only [InR_i64]; omega⟩, fun q => ⟨q, q, by omega, by omega, by simp only [InR_i64]; omega, by simp only [InR_i64]; omega⟩, ?_⟩
      refine qgcall ((onlG g (dif s P2)).av) (fun hg => ⟨by simp only [vsAll, opA], by simp only [vsAll, okAll, opsA, opA, Nat.reduceEqDiff, ↓reduceIte, eq_self, hg], only_tri g (dif s P2) _ kn (by omega)⟩) ?_
      simp only [vsAll, guardV, dstOk, Nat.reduceLT, Nat.reduceEqDiff, ↓reduceIte, eq_self]
      refine qgcall (boo (genB g (dif s P2))) (fun hg => ⟨by simp only [vsAll, opA, Nat.reduceEqDiff, ↓reduceIte, eq_self, hg], by simp only [vsAll, okAll, opsA, opA, ↓reduceIte, eq_self, hg], hon (dif s P2) _⟩) ?_
      simp only [vsAll, pickA, opA, dstOk, Nat.reduceLT, Nat.reduceEqDiff, ↓reduceIte, implies_true, eq_self]
      rw [hll]
      simp only [vsAll, binA, binLitA, intA, opA, dstOk, Nat.reduceLT, Nat.reduceEqDiff, ↓reduceIte, eq_self]
      refine ⟨by simp only [InR_i64]; omega, loop_next (i + 1) his (by omega) ?_ HSub_rfl⟩
      simp only [vsAll, Nat.reduceEqDiff, ↓reduceIte, eq_self, Int.natCast_add, Int.natCast_one]
     ·have ei : i = g.cw.length := by omega
      subst ei
      have hql : bt.toNat &&& (2 ^ g.cw.length - 1) < 2 ^ g.cw.length := by
       have := Nat.and_le_right (n := bt.toNat) (m := 2 ^ g.cw.length - 1)
       omega
      have hlo := least_own hs hql
      have hpl := pop_le s
      simp only [vsAll, binA, binLitA, intA, loadA, loadRow, partA, partOk, convA, okAll, stAll, opsA, opA, dstOk, nilSliceOp, Nat.reduceLT, Nat.reduceEqDiff, ↓reduceIte, eq_self, wtAll, eTC]
      generalize bt.toNat &&& (2 ^ g.cw.length - 1) = Q at hql hlo ⊢
      have hpq := pop_le Q
      refine ⟨by simp only [InR_i64]; omega, ⟨by omega, by omega, by simp only [InR_i64]; omega, by simp only [InR_i64]; omega⟩, ?_⟩
      refine callK_pure (only_tri g Q _ kn (by omega)) ?_
      simp only [vsAll, okAll, stAll, opsA, opA, dstOk, Nat.reduceLT, Nat.reduceEqDiff, ↓reduceIte, eq_self]
      refine callK_pure (hon Q _) ?_
      simp only [vsAll, opA, guardV, dstOk, Nat.reduceLT, Nat.reduceEqDiff, ↓reduceIte, implies_true, eq_self]
      refine gcall (i64 (pop Q : Nat)) (fun hg => ⟨by simp only [vsAll, opA, Nat.reduceEqDiff, ↓reduceIte, eq_self, hg], by simp only [vsAll, okAll, opsA, opA, ↓reduceIte, eq_self, hg], gsize_tri Q _ (by omega)⟩) ?_
      simp only [vsAll, opA, guardV, dstOk, Nat.reduceLT, Nat.reduceEqDiff, ↓reduceIte, implies_true, eq_self]
      refine gcall (i64 (pop s : Nat)) (fun hg => ⟨by simp only [vsAll, opA, Nat.reduceEqDiff, ↓reduceIte, eq_self, hg], by simp only [vsAll, okAll, opsA, opA, ↓reduceIte, eq_self, hg], gsize_tri s _ (by omega)⟩) ?_
      simp only [vsAll, binA, binLitA, intA, opA, guardV, dstOk, Nat.reduceLT, Nat.reduceEqDiff, ↓reduceIte, implies_true, eq_self]
      refine gcall (i64 (pop Q : Nat)) (fun hg => ⟨by simp only [vsAll, opA, Nat.reduceEqDiff, ↓reduceIte, eq_self, hg], by simp only [vsAll, okAll, opsA, opA, ↓reduceIte, eq_self, hg], gsize_tri Q _ (by omega)⟩) ?_
      simp only [vsAll, opA, guardV, dstOk, Nat.reduceLT, Nat.reduceEqDiff, ↓reduceIte, implies_true, eq_self]
      refine gcall (i64 (pop s : Nat)) (fun hg => ⟨by simp only [vsAll, opA, Nat.reduceEqDiff, ↓reduceIte, eq_self, hg], by simp only [vsAll, okAll, opsA, opA, ↓reduceIte, eq_self, hg], gsize_tri s _ (by omega)⟩) ?_
      simp only [vsAll, binA, binLitA, intA, pickA, opA, guardV, dstOk, Nat.reduceLT, Nat.reduceEqDiff, ↓reduceIte, implies_true, eq_self]
      refine ⟨fun q => ⟨q, fun q2 => by rw [q, q2]; rfl⟩, fun q => ⟨q, fun q2 => by rw [q, q2]; rfl⟩, ?_⟩
      rw [hlo]
      simp only [vsAll, loadA, loadRow, partA, partOk, okAll, stAll, opsA, opA, dstOk, nilSliceOp, Nat.reduceLT, Nat.reduceEqDiff, ↓reduceIte, eq_self, wtAll]
      refine callK_pure (wleave_tri g _ kn) ?_
      have dL1 : decide (((2 ^ g.N : Nat) : Int) - 1 < (L : Int)) = false := decide_eq_false (by have := hL2.lt; omega)
      have dL2 : decide ((L : Int) < 0) = false := decide_eq_false (by omega)
      have hLt := hL2.lt
      have hL32 := lt32 hN5 hLt
      simp only [vsAll, binA, binLitA, intA, loadA, loadRow, partA, partOk, fieldAddrA, extractA, lenA, pickA, opA, guardV, dstOk, nilSliceOp, Nat.reduceAdd, Nat.reduceLT, Nat.reduceEqDiff, ↓reduceIte, implies_true, eq_self, wtAll, eLE, eLV, epS, dL1, dL2]
      refine ⟨⟨by omega, by omega, by simp only [InR_i64]; omega⟩, by simp only [InR_i64]; omega, ?_⟩
      refine gcall ((wthG g L).av) (fun hg => ⟨by simp only [vsAll, opA, Nat.reduceEqDiff, ↓reduceIte, eq_self], by simp only [vsAll, okAll, opsA, opA, ↓reduceIte, eq_self], gwithout_tri g L _ k (by omega)⟩) ?_
      simp only [vsAll, guardV, dstOk, Nat.reduceLT, Nat.reduceEqDiff, ↓reduceIte, eq_self]
      refine gcall (boo (leaB g L)) (fun hg => ⟨by simp only [vsAll, opA, Nat.reduceEqDiff, ↓reduceIte, eq_self], by simp only [vsAll, okAll, opsA, opA, ↓reduceIte, eq_self], hwt L _⟩) ?_
      rw [hL2.is]
      simp only [vsAll, unA, loadA, loadRow, partA, partOk, fieldAddrA, lenA, pickA, opA, guardV, dstOk, Nat.reduceLT, Nat.reduceEqDiff, ↓reduceIte, implies_true, eq_self, wtAll]
      refine vs_loop (σ := Nat) (fun i => i ≤ g.N) (fun i => [(2, gptr g), (1, .lit (.int .u8 bt)), (5, .func (.func 26) [] []), (6, .func (.func 27) [] []), (12, .func (.func 31) [] [gptr g]), (13, i64 L), (15, i64 (((2 ^ g.N : Nat) : Int) - 1)), (135, i64 g.N), (136, i64 i)]) (fun _ => H) (fun i => g.N - i) 0 (Nat.zero_le _) ?_ HSub_rfl fun i hi => ?_
      ·simp only [vsAll, Nat.reduceEqDiff, ↓reduceIte, eq_self, Int.natCast_zero, hNe]
       try exact AV.Le.refl _
      ·simp only [vsAll, binA, binLitA, intA, opA, dstOk, Nat.reduceLT, Nat.reduceEqDiff, ↓reduceIte, eq_self]
       refine condD (fun hd => ?_) (fun hd => ?_)
       ·have his : i < g.N := by omega
        have hbq : decide ((((L : Int) / 2 ^ i).toNat &&& 1 : Nat) = (1 : Int)) = L.testBit i := bit_eq L i
        have h1 : (L : Int) / 2 ^ i = ((L / 2 ^ i : Nat) : Int) := by simp
        have h2 : L / 2 ^ i ≤ L := Nat.div_le_self _ _
        have hdv : 0 ≤ (L : Int) / 2 ^ i ∧ InR .i64 ((L : Int) / 2 ^ i) := by
         rw [h1]
         refine ⟨Int.natCast_nonneg _, ?_⟩
         generalize L / 2 ^ i = q at *
         simp only [InR_i64]; omega
        have ep2 : (1 : Int) * 2 ^ i = ((2 ^ i : Nat) : Int) := by rw [Int.one_mul]; simp
        have hpi : 2 ^ i ≤ 2 ^ 5 := Nat.pow_le_pow_right (by omega) (by omega)
        have hll := least_less hN5 hL2 his
        have hdl : dif L (2 ^ i) < 2 ^ g.N := dif_lt hLt
        have edf : (L ^^^ (L &&& 2 ^ i)) = dif L (2 ^ i) := rfl
        simp only [vsAll, binA, binLitA, intA, opA, guardV, dstOk, nilSliceOp, Nat.reduceLT, Nat.reduceEqDiff, Int.reduceLE, Int.reduceToNat, ↓reduceIte, implies_true, eq_self, hbq, ep2, edf]
        generalize 2 ^ i = P2 at hpi hll hdl ep2 ⊢
        refine ⟨⟨by omega, by omega, rfl⟩, ⟨?_, ?_, by simp only [InR_i64]; omega⟩, fun q => ⟨q, by omega, by omega, by simp only [InR_i64]; omega⟩, fun q => ⟨q, q, by omega, by omega, by simp only [InR_i64]; omega, by simp only [InR_i64]; omega⟩, ?_⟩
        ·exact hdv.1
        ·exact hdv.2
        refine gcall ((wthG g (dif L P2)).av) (fun hg => ⟨by simp only [vsAll, opA, Nat.reduceEqDiff, ↓reduceIte, eq_self, hg], by simp only [vsAll, okAll, opsA, opA, ↓reduceIte, eq_self, hg], gwithout_tri g (dif L P2) _ k (by omega)⟩) ?_
        simp only [vsAll, guardV, dstOk, Nat.reduceLT, Nat.reduceEqDiff, ↓reduceIte, eq_self]
        refine gcall (boo (leaB g (dif L P2))) (fun hg => ⟨by simp only [vsAll, opA, Nat.reduceEqDiff, ↓reduceIte, eq_self, hg], by simp only [vsAll, okAll, opsA, opA, ↓reduceIte, eq_self, hg], hwt (dif L P2) _⟩) ?_
        simp only [vsAll, pickA, opA, dstOk, Nat.reduceLT, Nat.reduceEqDiff, ↓reduceIte, implies_true, eq_self]
        rw [hll]
        simp only [vsAll, binA, binLitA, intA, opA, dstOk, Nat.reduceLT, Nat.reduceEqDiff, ↓reduceIte, eq_self]
        refine ⟨by simp only [InR_i64]; omega, loop_next (i + 1) his (by omega) ?_ HSub_rfl⟩
        simp only [vsAll, Nat.reduceEqDiff, ↓reduceIte, eq_self, Int.natCast_add, Int.natCast_one]
       ·have ei : i = g.N := by omega
        subst ei
        have hql : bt.toNat &&& (2 ^ g.N - 1) < 2 ^ g.N := by
         have := Nat.and_le_right (n := bt.toNat) (m := 2 ^ g.N - 1)
         omega
        have hlo := least_own hL2 hql
        have hpl := pop_le L
        simp only [vsAll, binA, binLitA, intA, convA, okAll, stAll, opsA, opA, dstOk, nilSliceOp, Nat.reduceLT, Nat.reduceEqDiff, ↓reduceIte, eq_self, wtAll, eTS]
        generalize bt.toNat &&& (2 ^ g.N - 1) = Q at hql hlo ⊢
        have hpq := pop_le Q
        refine ⟨by simp only [InR_i64]; omega, ⟨by omega, by omega, by simp only [InR_i64]; omega, by simp only [InR_i64]; omega⟩, ?_⟩
        refine callK_pure (gwithout_tri g Q _ k (by omega)) ?_
        simp only [vsAll, okAll, stAll, opsA, opA, dstOk, Nat.reduceLT, Nat.reduceEqDiff, ↓reduceIte, eq_self]
        refine callK_pure (hwt Q _) ?_
        simp only [vsAll, unA, opA, guardV, dstOk, Nat.reduceLT, Nat.reduceEqDiff, ↓reduceIte, implies_true, eq_self]
        refine gcall (i64 (pop Q : Nat)) (fun hg => ⟨by simp only [vsAll, opA, Nat.reduceEqDiff, ↓reduceIte, eq_self, hg], by simp only [vsAll, okAll, opsA, opA, ↓reduceIte, eq_self, hg], gsize_tri Q _ (by omega)⟩) ?_
        simp only [vsAll, opA, guardV, dstOk, Nat.reduceLT, Nat.reduceEqDiff, ↓reduceIte, implies_true, eq_self]
        refine gcall (i64 (pop L : Nat)) (fun hg => ⟨by simp only [vsAll, opA, Nat.reduceEqDiff, ↓reduceIte, eq_self, hg], by simp only [vsAll, okAll, opsA, opA, ↓reduceIte, eq_self, hg], gsize_tri L _ (by omega)⟩) ?_
        simp only [vsAll, binA, binLitA, intA, pickA, opA, guardV, dstOk, Nat.reduceLT, Nat.reduceEqDiff, ↓reduceIte, implies_true, eq_self]
        refine gcall (i64 (pop Q : Nat)) (fun hg => ⟨by simp only [vsAll, opA, Nat.reduceEqDiff, ↓reduceIte, eq_self, hg], by simp only [vsAll, okAll, opsA, opA, ↓reduceIte, eq_self, hg], gsize_tri Q _ (by omega)⟩) ?_
        simp only [vsAll, opA, guardV, dstOk, Nat.reduceLT, Nat.reduceEqDiff, ↓reduceIte, implies_true, eq_self]
        refine gcall (i64 (pop L : Nat)) (fun hg => ⟨by simp only [vsAll, opA, Nat.reduceEqDiff, ↓reduceIte, eq_self, hg], by simp only [vsAll, okAll, opsA, opA, ↓reduceIte, eq_self, hg], gsize_tri L _ (by omega)⟩) ?_
        simp only [vsAll, binA, binLitA, intA, pickA, opA, guardV, dstOk, Nat.reduceLT, Nat.reduceEqDiff, ↓reduceIte, implies_true, eq_self]
        refine ⟨fun q => ⟨q, fun q2 => by rw [q, q2]; rfl⟩, ?_⟩
        have hfin : (!leaB g Q || decide ((pop L : Int) < (pop Q : Int)) || decide ((pop Q : Int) = (pop L : Int)) && decide ((L : Int) ≤ (Q : Int))) = true := by
         cases hlq : leaB g Q with
         | false => rfl
         | true =>
           rcases hL2.le Q hql hlq with h | ⟨h1, h2⟩
           ·rw [decide_eq_true (show (pop L : Int) < (pop Q : Int) by omega)]; rfl
           ·rw [decide_eq_true (show (pop Q : Int) = (pop L : Int) by omega), decide_eq_true (show (L : Int) ≤ (Q : Int) by omega)]; simp
        rw [hfin]
        refine gcall (boo true) (fun hg => ⟨by simp only [vsAll, opA], by simp only [okAll, opsA], awake_tri _⟩) ?_
        simp only [vsAll, pickA, opA, dstOk, nilSliceOp, resA, retA.eq_1, Nat.reduceLT, Nat.reduceEqDiff, ↓reduceIte, implies_true, eq_self, Try.results6]
        exact dropR_pure rfl HSub_rfl
end Go.Proofs.Ytdopkbldjagmlaa
end
section
set_option linter.unusedVariables false
set_option linter.unusedSimpArgs false
set_option maxRecDepth 100000
namespace Go.Proofs.Ytdopkbldjagmlaa
open Go.V Go.ChangeShapes Go.WideShapes Go.ChangeAt Go.RowKit
theorem gang_cells : cellsT Try.prog 9 29 = some [.sl [.int .i64, .int .i64, .int .i64, .int .i64], .sl [.int .i64, .int .i64, .int .i64], .int .i64, .int .i64, .int .i64, .sl [.int .i64], .sl [.int .i64, .int .i64, .int .i64]] := by kernel_rfl
theorem ints_of {av : AV} (h : CKA (.sl [.int .i64]) av) : ∃ l : List Int, l.length ≤ maxLen ∧ AV.Le av (intsAV l) := by
 obtain ⟨l, h1, h2⟩ := told_slice (α := Int) (fun z => [i64 z]) 0 (fun cs hcs => by
  obtain ⟨z, hz, _⟩ := told_int 0 hcs rfl
  exact ⟨z, rfl, fun j hj => by
   match j, hj with
   | 0, _ => rw [hz]; exact AV.Le.refl _⟩) h
 exact ⟨l, h1, h2⟩
theorem seams_of {av : AV} (h : CKA (.sl [.int .i64, .int .i64, .int .i64, .int .i64]) av) : ∃ l : List Sm, l.length ≤ maxLen ∧ AV.Le av (smAV l) := by
 obtain ⟨l, h1, h2⟩ := told_slice (α := Sm) Sm.cs sm0 (fun cs hcs => by
  obtain ⟨a, ha, _⟩ := told_int 0 hcs rfl
  obtain ⟨b, hb, _⟩ := told_int 1 hcs rfl
  obtain ⟨c, hc, _⟩ := told_int 2 hcs rfl
  obtain ⟨d, hd, _⟩ := told_int 3 hcs rfl
  exact ⟨⟨a, b, c, d⟩, rfl, fun j hj => by
   match j, hj with
   | 0, _ => rw [ha]; exact AV.Le.refl _
   | 1, _ => rw [hb]; exact AV.Le.refl _
   | 2, _ => rw [hc]; exact AV.Le.refl _
   | 3, _ => rw [hd]; exact AV.Le.refl _⟩) h
 exact ⟨l, h1, h2⟩
theorem crews_of {av : AV} (h : CKA (.sl [.int .i64, .int .i64, .int .i64]) av) : ∃ l : List Cw, l.length ≤ maxLen ∧ AV.Le av (cwAV l) := by
 obtain ⟨l, h1, h2⟩ := told_slice (α := Cw) Cw.cs cw0 (fun cs hcs => by
  obtain ⟨a, ha, _⟩ := told_int 0 hcs rfl
  obtain ⟨b, hb, _⟩ := told_int 1 hcs rfl
  obtain ⟨c, hc, _⟩ := told_int 2 hcs rfl
  exact ⟨⟨a, b, c⟩, rfl, fun j hj => by
   match j, hj with
   | 0, _ => rw [ha]; exact AV.Le.refl _
   | 1, _ => rw [hb]; exact AV.Le.refl _
   | 2, _ => rw [hc]; exact AV.Le.refl _⟩) h
 exact ⟨l, h1, h2⟩
theorem pots_of {av : AV} (h : CKA (.sl [.int .i64, .int .i64, .int .i64]) av) : ∃ l : List Po, l.length ≤ maxLen ∧ AV.Le av (psAV l) := by
 obtain ⟨l, h1, h2⟩ := told_slice (α := Po) Po.cs po0 (fun cs hcs => by
  obtain ⟨a, ha, _⟩ := told_int 0 hcs rfl
  obtain ⟨b, hb, _⟩ := told_int 1 hcs rfl
  obtain ⟨c, hc, _⟩ := told_int 2 hcs rfl
  exact ⟨⟨a, b, c⟩, rfl, fun j hj => by
   match j, hj with
   | 0, _ => rw [ha]; exact AV.Le.refl _
   | 1, _ => rw [hb]; exact AV.Le.refl _
   | 2, _ => rw [hc]; exact AV.Le.refl _⟩) h
 exact ⟨l, h1, h2⟩
theorem gang_rel {H : Type} {enc : TypeId × Value → H} {W : World} {sp : Nat → Bool} {held : Bool} {v : Value} {d : DataW H} {ps : List MemPlace}
  {base : Nat} (hv : Value.okWide Try.prog W .any base 29 v) (h : DataW.Trod enc Try.prog W 0 sp held 29 v d ps) : ∃ g : Gg, True ∧ VRel (st0 W) g.av v := by
 obtain ⟨cs, hcs, hv⟩ := trod_agg gang_cells (by decide) h
 obtain ⟨sm, l0, h0⟩ := seams_of (hcs.2 0 _ rfl)
 obtain ⟨cw, l1, h1⟩ := crews_of (hcs.2 1 _ rfl)
 obtain ⟨hr, h2, _⟩ := told_int 2 hcs rfl
 obtain ⟨fro, h3, _⟩ := told_int 3 hcs rfl
 obtain ⟨per, h4, _⟩ := told_int 4 hcs rfl
 obtain ⟨fs, l5, h5⟩ := ints_of (hcs.2 5 _ rfl)
 obtain ⟨ps, l6, h6⟩ := pots_of (hcs.2 6 _ rfl)
 refine ⟨⟨sm, cw, ⟨hr, fro, per, fs, ps⟩⟩, trivial, AV.Le.aggD (cs := cs) hcs.1.symm (fun j hj => ?_) _ _ hv⟩
 have hj7 : j < 7 := by have := hcs.1; simp at this; omega
 match j, hj7 with
 | 0, _ => exact h0
 | 1, _ => exact h1
 | 2, _ => rw [h2]; exact AV.Le.refl _
 | 3, _ => rw [h3]; exact AV.Le.refl _
 | 4, _ => rw [h4]; exact AV.Le.refl _
 | 5, _ => exact h5
 | 6, _ => exact h6
theorem Try.own : ownKnob Try.prog.godebug = none := by kernel_rfl
theorem u4 : Try.prog.underlying 4 = some .bool := by kernel_rfl
theorem u5 : Try.prog.underlying 5 = some (.int .u8) := by kernel_rfl
theorem wf_u8 {n : Int} (h : (Lit.int .u8 n).wf = true) : 0 ≤ n ∧ n ≤ 255 := by
 simp [Lit.wf, IntKind.min, IntKind.max, IntKind.signed, IntKind.bits] at h
 omega
def iz : Value → Int
 | .int _ n => n
 | _ => 0
end Go.Proofs.Ytdopkbldjagmlaa
end
section
set_option linter.unusedVariables false
set_option linter.unusedSimpArgs false
set_option maxRecDepth 100000
namespace Go.Proofs.Ytdopkbldjagmlaa
open Go.V Go.ChangeShapes Go.WideShapes Go.ChangeAt Go.RowKit
theorem gangEnough_lifted (os : Os) (started : os.Started) (H : Type) (enc : TypeId × Value → H) :
  ReturnsInHanded {} Try.checked os 6 .any (Rows.gangEnoughSpec.pre6 enc Try.prog Try.f6 Rows.gangEnoughRow.domain false) (Rows.gangEnoughSpec.post enc Try.prog Try.f6 false true false false) := by
 refine returnsInHanded_of_change (C := Try.checked) Try.own started (by kernel_rfl) Try.func6
  (ChangeSpec.witness6 (enc := enc) (C := Try.checked) false ⟨#[], #[.agg #[.slice none 0 0, .slice none 0 0, .int .i64 0, .int .i64 0, .int .i64 0, .slice none 0 0, .slice none 0 0], .int .u8 0], []⟩ 8 (by kernel_rfl) (by kernel_rfl) (by kernel_rfl) (by kernel_rfl)) ?_
 intro W base args ds gs before hval hW hcnd _
 have hW' := hW
 obtain ⟨p, q, hA, hV, rfl, hfz, hnd⟩ := hW
 obtain ⟨rfl, rfl⟩ := trodVars_none hV
 rw [show Try.f6.params.toList = [29, 5] from by kernel_rfl] at hA
 obtain ⟨v0, v1, d0, d1, p0, p1, rfl, rfl, rfl, h0, h1⟩ := trodAll_two hA
 have hval : ∀ (j : Nat) t v, Try.f6.params[j]? = some t → (#[v0, v1] : Array Value)[j]? = some v → Value.okWide Try.prog W .any base t v := hval
 rw [show Try.f6.params = #[29, 5] from by kernel_rfl] at hval
 obtain ⟨x0, b0, r0⟩ := gang_rel (hval 0 29 v0 rfl rfl) h0
 obtain ⟨x1, rfl, rfl, rfl, w1⟩ := open_int u5 (hval 1 5 v1 rfl rfl) h1
 refine (law_calls (W := W) (args := #[v0, .int .u8 x1]) Try.func6 (by kernel_rfl) rfl (Tri.mono (enough_law x0 x1 H0 (wf_u8 w1)) ?_) (fun p hp => by cases hp) ⟨rfl, fun k hk => match k, hk with | 0, _ => r0 | 1, _ => .lit _⟩).mono fun e W' he => ?_
 ·rintro r H' ⟨rfl, _⟩; rfl
 ·obtain ⟨rfl, hh, ho, hp⟩ := he
  exact ⟨_, rfl, law_post (d := 6) rfl (tb := 4) (by kernel_rfl) u4 (by decide +kernel) hW' rfl hh ho hp⟩

theorem gangEnough_holds : Rows.GangEnoughSaid :=
 OpenClaim.holds_of_wide (p := Try.pinned) (s := Rows.gangEnoughSpec) (c := Rows.gangEnoughRow) 6 Try.f6 rfl rfl rfl rfl rfl rfl rfl ⟨rfl, rfl, rfl, rfl, rfl⟩ rfl rfl rfl rfl rfl (by kernel_rfl) Try.func6 (by kernel_rfl)
  (of_decide_eq_true (by kernel_rfl)) (by unfold Func.isWrapper; first | (rw [if_pos (by decide +kernel)]; kernel_rfl) | (rw [if_neg (by decide +kernel)]; exact ⟨rfl, rfl⟩))
  (fun os started H enc _ => gangEnough_lifted os started H enc)

end Go.Proofs.Ytdopkbldjagmlaa
end
