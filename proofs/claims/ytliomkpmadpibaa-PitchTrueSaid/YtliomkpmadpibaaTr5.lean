/- WHAT IS PROVED: the given statement of this claim. Conditions: none beyond the given row. -/
import Derived.Test.YtliomkpmadpibaaRows
import Derived.ChangeVars
import Derived.Test.YtliomkpmadpibaaTr4
section
set_option linter.unusedVariables false
set_option linter.unusedSimpArgs false
set_option maxHeartbeats 4000000
set_option maxRecDepth 100000
namespace Go.Proofs.Ytliomkpmadpibaa
open Go.V
theorem upd_at (n i : Nat) (f : Nat → List AV) (c : List AV) (q : Nat) (hi : i < n) (hq : q < n) : updF n i f c q = if q = i then c else f q := by
  unfold updF
  split
  · rw [if_pos (by omega)]
  · rfl
theorem app0 (n : Nat) (f g : Nat → List AV) (q : Nat) (hq : q < n) : appF 0 n f g q = g q := by
  unfold appF
  split
  · have : q = 0 := by omega
    subst this; rfl
  · simp
def cloneR (l : List Int) (H : Hp) : Res → Hp → Prop := fun r H' => ∃ id, H id = none ∧ r = .ret (.sl id 1 l.length) ∧ H' = H.set id (.row 1 l.length (intF l))
theorem clone_tri (l : List Int) (H : Hp) (hl : l.length < 2 ^ 40) : Tri Try.prog (fnA 105) [intsAV l] H (cloneR l H) := by
  refine Tri.drop ?_
  refine tri_wm Try.func105 (by kernel_rfl) rfl (by simp only [List.length_append, List.length_cons, List.length_nil, Try.ntmps105]; decide) ?_
  refine wps_cutG (m := fun _ => false) (σ := Unit) (fun _ => True) (fun _ => [(0, intsAV l)]) (fun _ => H) (fun _ => []) ?_ fun _ _ => ?_
  · simp only [vsAll, opA, dstOk, nilSliceOp, Nat.reduceLT, eq_self, Try.ntmps105]
    exact cutG_of () trivial (by simp only [vsAll, argFr, ↓reduceIte, reduceCtorEq]) rfl HSub_rfl
  · refine wps_seq ?_
    refine wps_seq ?_
    refine wps_region_nilI (m := fun _ => false) 1 rfl rfl rfl rfl (by decide) (by kernel_rfl) ?_
    simp only [vsAll, opA, dstOk, Nat.reduceAdd, Nat.reduceLT, ↓reduceIte, eq_self, Try.ntmps105]
    refine ⟨_, _, _, rfl, fun b hb => ?_⟩
    simp only [thn_normal]
    cases b with
    | true =>
      have h0 := hb rfl
      refine wps_vs (m := mset [2]) ?_
      simp only [vsAll, opA, dstOk, Nat.reduceLT, Nat.reduceBEq, ↓reduceIte, eq_self]
      simp only [Go.V.nilA, elT22]
      intro i2 hh_i2; (try simp only [Hp.set_none, ite_none] at hh_i2)
      simp only [vsAll, resA, retA.eq_1, ↓reduceIte, eq_self, Try.results105, Post.thn]
      refine ⟨H.set i2 (.row 1 0 (intF l)), HSub.set HSub_rfl (row_ext fun q hq => absurd hq (Nat.not_lt_zero q)), i2, hh_i2, ?_, ?_⟩
      · rw [h0]
      · rw [h0]
    | false =>
      refine wps_vs (m := fun _ => false) ?_
      simp only [vsAll, opA, ↓reduceIte, eq_self, thn_normal]
      refine wps_vs (m := mset [5]) ?_
      simp only [vsAll, okParts, buildMutA, partIdx, elemsA, lensA, partsA, partsOk, opA, appendA, dstOk, nilSliceOp, resA, retA.eq_1, Nat.reduceMul, Nat.reduceLT, Nat.reduceLeDiff, Nat.reduceEqDiff, Nat.reduceBEq, ↓reduceIte, reduceCtorEq, eq_self, wtAll, Try.results105]
      intro i5 hh_i5; (try simp only [Hp.set_none, ite_none] at hh_i5)
      refine ⟨fun i hi => ⟨rfl, trivial⟩, by ((try clear hh_i5); omega), by ((try clear hh_i5); omega), _, ?_, i5, hh_i5, rfl, rfl⟩
      rw [Hp.set_set]
      exact HSub.set HSub_rfl (row_ext fun q hq => app0 _ _ _ q hq)
theorem every_tri (p : Pt) (H : Hp) (nF : p.fs.length ≤ 3) (nP : p.ps.length ≤ 4) : PTri Try.prog (fnA 83) [pP p] H (.tuple [u64 ((2 ^ p.ps.length - 1 : Nat) : Int), u64 ((2 ^ p.fs.length - 1 : Nat) : Int)]) := by
  have h1 : 2 ^ p.ps.length ≤ 2 ^ 4 := Nat.pow_le_pow_right (by decide) nP
  have h2 : 2 ^ p.fs.length ≤ 2 ^ 3 := Nat.pow_le_pow_right (by decide) nF
  have h3 : 0 < 2 ^ p.ps.length := Nat.two_pow_pos _
  have h4 : 0 < 2 ^ p.fs.length := Nat.two_pow_pos _
  have e1 : (1 : Int) * 2 ^ p.ps.length = ((2 ^ p.ps.length : Nat) : Int) := by rw [Int.one_mul]; simp
  have e2 : (1 : Int) * 2 ^ p.fs.length = ((2 ^ p.fs.length : Nat) : Int) := by rw [Int.one_mul]; simp
  refine tri_v0 (fun _ => false) Try.func83 (by kernel_rfl) rfl (by simp only [List.length_append, List.length_cons, List.length_nil, Try.ntmps83]; decide) ?_
  simp only [vsAll, opA, dstOk, nilSliceOp, Nat.reduceLT, eq_self, Try.ntmps83]
  refine vs_draw2 [0, 0, 0, 0, 0, 0, 0, 0, 0, 0, 0, 0, 0, 0, 0, 0, 0, 0] [] [0, 1, 2, 3, 4, 5, 6, 7, 8, 9, 10, 11, 12, 13, 14, 15, 16, 17] (by decide +kernel) ?_
  simp only [vsAll, binA, binLitA, intA, loadA, loadRow, partA, partOk, fieldAddrA, lenA, nilCheckA, opA, dstOk, resA, argFr, retA.eq_2, Nat.reduceLT, Nat.reduceEqDiff, ↓reduceIte, reduceCtorEq, eq_self, wtAll, Try.results83, e1, e2]
  rw [show ((2 ^ p.ps.length - 1 : Nat) : Int) = ((2 ^ p.ps.length : Nat) : Int) - 1 by omega, show ((2 ^ p.fs.length - 1 : Nat) : Int) = ((2 ^ p.fs.length : Nat) : Int) - 1 by omega]
  simp only [InR_u64]
  refine ⟨⟨by omega, by omega, by omega⟩, by omega, ⟨by omega, by omega, by omega⟩, by omega, trivial⟩
theorem dec_cast (a b : Nat) (x : Bool) : (decide ((a : Int) = (b : Int)) && x) = (decide (a = b) && x) := by
  rw [show decide ((a : Int) = (b : Int)) = decide (a = b) from decide_eq_decide.2 (by omega)]
theorem fewest_tri (f : Nat → Bool) (m : Nat) (fv : AV) (H : Hp) (hm : m ≤ 8) (hok : fv.ok) (hst : fv.st = fv) (hf : ∀ j : Nat, j < 2 ^ m → PTri Try.prog fv [u64 j] H (boo (f j))) :
    PTri Try.prog (fnA 84) [i64 m, fv] H (.tuple [u64 ((fewV f m).getD 0 : Nat), boo (fewV f m).isSome]) := by
  have hp : 2 ^ m ≤ 2 ^ 8 := Nat.pow_le_pow_right (by decide) hm
  have hp0 : 0 < 2 ^ m := Nat.pow_pos (by decide)
  have ep : (1 : Int) * 2 ^ m = ((2 ^ m : Nat) : Int) := by rw [Int.one_mul]; simp
  refine tri_v0 (fun _ => false) Try.func84 (by kernel_rfl) rfl (by simp only [List.length_append, List.length_cons, List.length_nil, Try.ntmps84]; decide) ?_
  skip
  simp only [vsAll, binA, binLitA, intA, opA, dstOk, nilSliceOp, argFr, Nat.reduceLT, ↓reduceIte, reduceCtorEq, eq_self, Try.ntmps84]
  refine ⟨by simp only [InR_i64]; ((try clear hok); (try clear hst); omega), ?_⟩
  refine vs_loop (σ := Nat) (fun i => i ≤ m + 1 ∧ fewV f m = outF f m (m + 1 - i) i) (fun i => [(0, i64 m), (1, fv), (9, i64 ((m : Int) + 1)), (10, i64 i)]) (fun _ => H) (fun i => m + 1 - i) 0 ⟨by ((try clear hok); (try clear hst); omega), rfl⟩ ?_ (HSub.refl _) fun i hi => ?_
  · simp only [vsAll, argFr, Nat.reduceEqDiff, ↓reduceIte, reduceCtorEq, eq_self, Int.natCast_zero]
  · obtain ⟨hi, hv⟩ := hi
    simp only [vsAll, binA, binLitA, intA, opA, dstOk, Nat.reduceLT, Nat.reduceEqDiff, ↓reduceIte, reduceCtorEq, eq_self]
    refine condD (fun hd => ?_) (fun hd => ?_)
    · rw [show m + 1 - i = (m - i) + 1 by ((try clear hok); (try clear hst); omega)] at hv
      simp only [vsAll, binA, binLitA, intA, opA, dstOk, nilSliceOp, Nat.reduceLT, Nat.reduceEqDiff, ↓reduceIte, reduceCtorEq, eq_self, ep]
      refine ⟨⟨by ((try clear hok); (try clear hst); omega), by ((try clear hok); (try clear hst); omega), by simp only [InR_u64]; ((try clear hok); (try clear hst); omega)⟩, ?_⟩
      refine vs_loop (σ := Nat) (fun j => j ≤ 2 ^ m ∧ inn f i (2 ^ m) 0 = inn f i (2 ^ m - j) j) (fun j => [(0, i64 m), (1, fv), (6, i64 i), (9, i64 ((m : Int) + 1)), (10, i64 i), (14, u64 ((2 ^ m : Nat) : Int)), (15, u64 j)]) (fun _ => H) (fun j => 2 ^ m - j) 0 ⟨by ((try clear hok); (try clear hst); omega), rfl⟩ ?_ (HSub.refl _) fun j hj => ?_
      · simp only [vsAll, Nat.reduceEqDiff, ↓reduceIte, reduceCtorEq, eq_self, Int.natCast_zero]
      · obtain ⟨hj, hw⟩ := hj
        simp only [vsAll, binA, binLitA, intA, opA, dstOk, Nat.reduceLT, Nat.reduceEqDiff, ↓reduceIte, reduceCtorEq, eq_self]
        refine condD (fun hd2 => ?_) (fun hd2 => ?_)
        · rw [show 2 ^ m - j = (2 ^ m - (j + 1)) + 1 by ((try clear hok); (try clear hst); omega), inn] at hw
          simp only [vsAll, okAll, stAll, opsA, opA, dstOk, nilSliceOp, Nat.reduceLT, Nat.reduceEqDiff, ↓reduceIte, reduceCtorEq, eq_self]
          refine callK_pure (onesCount_tri j _ (by ((try clear hok); (try clear hst); omega))) ?_
          simp only [vsAll, binA, binLitA, intA, opA, guardV, dstOk, Nat.reduceLT, Nat.reduceEqDiff, ↓reduceIte, reduceCtorEq, implies_true, eq_self, hok, hst]
          refine gcall _ (fun g => ⟨by simp only [vsAll, opA, Nat.reduceEqDiff, ↓reduceIte, eq_self, g], by simp only [vsAll, okAll, opsA, opA, ↓reduceIte, eq_self, g], hf j (by ((try clear hok); (try clear hst); omega))⟩) ?_
          simp only [vsAll, pickA, opA, dstOk, Nat.reduceLT, Nat.reduceEqDiff, ↓reduceIte, implies_true, eq_self]
          rw [dec_cast]
          refine condV (fun hb => ?_) (fun hb => ?_)
          · rw [hb, if_pos rfl] at hw
            have hr : fewV f m = some j := by rw [hv, outF, hw]
            simp only [vsAll, opA, dstOk, nilSliceOp, resA, retA.eq_2, Nat.reduceLT, Nat.reduceEqDiff, ↓reduceIte, eq_self, Try.results84, hr, Option.getD_some]
          · rw [hb, if_neg (by decide)] at hw
            simp only [vsAll, binA, binLitA, intA, opA, dstOk, Nat.reduceLT, Nat.reduceEqDiff, ↓reduceIte, reduceCtorEq, eq_self]
            refine ⟨by simp only [InR_u64]; ((try clear hok); (try clear hst); omega), loop_next (j + 1) ⟨by ((try clear hok); (try clear hst); omega), hw⟩ (by ((try clear hok); (try clear hst); omega)) ?_ (HSub.refl _)⟩
            simp only [vsAll, Nat.reduceEqDiff, ↓reduceIte, reduceCtorEq, eq_self, Int.natCast_add, Int.natCast_one]
        · have ej : j = 2 ^ m := by ((try clear hok); (try clear hst); omega)
          subst ej
          rw [Nat.sub_self, inn] at hw
          rw [outF, hw, show m - i = m + 1 - (i + 1) by ((try clear hok); (try clear hst); omega)] at hv
          simp only [] at hv
          simp only [vsAll, binA, binLitA, intA, opA, dstOk, Nat.reduceLT, Nat.reduceEqDiff, ↓reduceIte, reduceCtorEq, eq_self]
          refine ⟨by simp only [InR_i64]; ((try clear hok); (try clear hst); omega), loop_next (i + 1) ⟨by ((try clear hok); (try clear hst); omega), hv⟩ (by ((try clear hok); (try clear hst); omega)) ?_ (HSub.refl _)⟩
          simp only [vsAll, Nat.reduceEqDiff, ↓reduceIte, reduceCtorEq, eq_self, Int.natCast_add, Int.natCast_one]
    · have ei : i = m + 1 := by ((try clear hok); (try clear hst); omega)
      subst ei
      rw [Nat.sub_self, outF] at hv
      simp only [vsAll, opA, dstOk, nilSliceOp, resA, retA.eq_2, Nat.reduceLT, Nat.reduceEqDiff, ↓reduceIte, eq_self, Try.results84, hv, Option.getD_none, Int.natCast_zero]
theorem bit1 (Q i : Nat) : (Q >>> i &&& 1) = if Q.testBit i = true then 1 else 0 := by
  rw [Nat.and_one_is_mod, Nat.testBit_eq_decide_div_mod_eq, Nat.shiftRight_eq_div_pow]
  by_cases h : Q / 2 ^ i % 2 = 1
  · rw [h]; simp
  · rw [if_neg (by simpa using h)]; omega
theorem ret_freezeB {P : Program} {fn : Func} {R : Res → Hp → Prop} {s : Fr} {H : Hp} {t id st n i j : Nat} {f : Nat → List AV} (hr : fn.results.toList = [.tmp t]) (hs : s t = .ref id 0 st i j)
    (ho : H id = some (.box st n f)) (h : R (.ret (.rptr n st f i j)) (H.del id)) : FnPost P fn R .ret s [] H := by
  refine Ent.freezeB (s' := put s (some t) (.rptr n st f i j)) ho (fun u => ?_) ?_
  · simp only [put]
    split
    · rename_i e; subst e; exact .inr ⟨i, j, hs, rfl⟩
    · exact .inl rfl
  · rw [hr]
    refine ⟨rfl, ?_⟩
    simp only [resA, put, if_pos]
    exact ⟨trivial, h⟩
/-- The fires so far. -/
def wthG (p : Pt) (S i : Nat) : List Int := (List.range p.fs.length).map fun j => if j < i then (if S.testBit j = true then p.fs.getD j 0 else ((2 ^ p.H - 1 : Nat) : Int)) else p.fs.getD j 0
theorem wthG_at {p : Pt} {S i j : Nat} (hj : j < p.fs.length) : (wthG p S i).getD j 0 = if j < i then (if S.testBit j = true then p.fs.getD j 0 else ((2 ^ p.H - 1 : Nat) : Int)) else p.fs.getD j 0 := by
  simp [wthG, List.getD_eq_getElem?_getD, hj]
theorem with_tri (p : Pt) (Q S : Nat) (H : Hp) (k : Ok p) (hQ : Q < 2 ^ 60) (hS : S < 2 ^ 60) : PTri Try.prog (fnA 86) [pP p, u64 Q, u64 S] H (pP (wthP p Q S)) := by
  have nP := k.nP
  have nF := k.nF
  refine tri_vs (m := fun _ => false) Try.func86 (by kernel_rfl) rfl (by simp only [List.length_append, List.length_cons, List.length_nil, Try.ntmps86]; decide) ?_
  simp only [vsAll, loadA, loadRow, partA, partOk, fieldAddrA, nilCheckA, cellA, okAll, stAll, opsA, opA, allocA, newCells, okCells, storeObj, dstOk, nilSliceOp, argFr, Nat.reduceAdd, Nat.reduceLT, Nat.reduceEqDiff, ↓reduceIte, reduceCtorEq, eq_self, wtAll, Try.ntmps86]
  intro i7 hh_i7; (try simp only [Hp.set_none, ite_none] at hh_i7)
  refine callK (clone_tri p.fs _ (by ((try clear hh_i7); omega))) ?_
  rintro r H' ⟨ic, hic, rfl, rfl⟩
  simp only [Hp.set_none] at hic
  skip
  simp only [vsAll, loadA, loadRow, partA, partOk, fieldAddrA, lenA, nilCheckA, cellA, cellsA, opA, newCells, okCells, storeObj, dstOk, argFr, Nat.reduceAdd, Nat.reduceLT, Nat.reduceLeDiff, Nat.reduceEqDiff, ↓reduceIte, reduceCtorEq, eq_self, wtAll, hic]
  refine vs_entL (Ent.nilBox 3 (psF []) (fun id _ => [i64 p.hr, i64 p.fro, i64 p.per, .sl ic 1 p.fs.length, .sl id 3 0, u64 (p.F false : Nat), u64 (p.F true : Nat)]) (j := i7) (st' := 7) (n' := 1) (g := fun _ => [i64 p.hr, i64 p.fro, i64 p.per, .sl ic 1 p.fs.length, .lit (.slice none 0 0), u64 (p.F false : Nat), u64 (p.F true : Nat)]) (by simp only [vsAll, ↓reduceIte, eq_self]; try rfl) (fun _ _ _ => rfl) (fun id q d hq hd => ?_) fun is his => ?_)
  · match d, hd with
    | 0, _ => exact .rfl
    | 1, _ => exact .rfl
    | 2, _ => exact .rfl
    | 3, _ => exact .rfl
    | 4, _ => exact .hit
    | 5, _ => exact .rfl
    | 6, _ => exact .rfl
  simp only [Hp.set_none] at his
  skip
  refine vs_loop (σ := Nat) (fun i => i ≤ p.ps.length) (fun i => [(0, pP p), (1, u64 Q), (2, u64 S), (7, .ref i7 0 7 0 0), (28, psAV p.ps), (29, i64 p.ps.length), (30, i64 i)])
    (fun i => ((H.set ic (.row 1 p.fs.length (intF p.fs))).set is (.row 3 (onL p Q i).length (psF (onL p Q i)))).set i7 (.box 7 1 fun _ => [i64 p.hr, i64 p.fro, i64 p.per, .sl ic 1 p.fs.length, .sl is 3 (onL p Q i).length, u64 (p.F false : Nat), u64 (p.F true : Nat)])) (fun i => p.ps.length - i) 0 (Nat.zero_le _) ?_ ?_ fun i hi => ?_
  · simp only [vsAll, argFr, Nat.reduceEqDiff, ↓reduceIte, reduceCtorEq, eq_self, Int.natCast_zero]
  · refine HSub.set (HSub.set (HSub_drop2 (by simp only [vsAll, ↓reduceIte, eq_self, hh_i7, hic]) (HSub_drop2 (by simp only [vsAll, ↓reduceIte, eq_self, hh_i7, hic]) (HSub.set (HSub_drop2 (by simp only [eq_self, hh_i7]) (HSub_drop2 (by simp only [eq_self, hh_i7]) HSub_rfl)) (.refl _)))) (.refl _)) (.refl _)
  · have hl := onL_len p Q i
    have e : onL p Q (i + 1) = if Q.testBit i = true then onL p Q i ++ [p.ps.getD i po0] else onL p Q i := rfl
    simp only [vsAll, binA, binLitA, intA, opA, dstOk, Nat.reduceLT, Nat.reduceEqDiff, ↓reduceIte, reduceCtorEq, eq_self]
    refine condD (fun hd => ?_) (fun hd => ?_)
    · have hil : i < p.ps.length := by ((try clear hh_i7); (try clear hic); (try clear his); omega)
      simp only [vsAll, binA, binLitA, intA, loadA, loadRow, partA, partOk, indexAddrA, cellA, opA, allocA, newCells, okCells, storeObj, dstOk, nilSliceOp, Nat.reduceAdd, Nat.reduceLT, Nat.reduceEqDiff, Int.reduceLE, Int.reduceToNat, ↓reduceIte, reduceCtorEq, eq_self, wtAll, psF_at, shr_int, bits64, InR_u64]
      refine ⟨⟨by ((try clear hh_i7); (try clear hic); (try clear his); omega), by ((try clear hh_i7); (try clear hic); (try clear his); omega)⟩, hil, ?_⟩
      intro i9 hh_i9; (try simp only [ite_none] at hh_i9)
      have hsr := shr_le Q i
      have h0 : (0 : Int) ≤ ((Q >>> i : Nat) : Int) := Int.natCast_nonneg _
      have hb := bit1 Q i
      refine ⟨⟨by ((try clear hh_i7); (try clear hic); (try clear his); (try clear hh_i9); omega), by ((try clear hh_i7); (try clear hic); (try clear his); (try clear hh_i9); omega)⟩, ⟨by ((try clear hh_i7); (try clear hic); (try clear his); (try clear hh_i9); omega), by ((try clear hh_i7); (try clear hic); (try clear his); (try clear hh_i9); omega), by ((try clear hh_i7); (try clear hic); (try clear his); (try clear hh_i9); omega)⟩, condV (fun hc => ?_) (fun hc => ?_)⟩
      · have hc : Q.testBit i = true := by
          rw [decide_eq_true_eq] at hc
          by_cases h : Q.testBit i = true
          · exact h
          · rw [if_neg h] at hb; ((try clear hh_i7); (try clear hic); (try clear his); (try clear hh_i9); omega)
        rw [if_pos hc] at e
        simp only [vsAll, binA, binLitA, intA, loadA, loadRow, partA, partOk, fieldAddrA, cellA, cellsA, okParts, buildSliceA, partIdx, elemsA, lensA, partsA, partsOk, opA, newCells, okCells, storeObj, appendA, dstOk, Nat.reduceAdd, Nat.reduceMul, Nat.reduceLT, Nat.reduceLeDiff, Nat.reduceEqDiff, ↓reduceIte, reduceCtorEq, eq_self, wtAll, his, hh_i9]
        refine ⟨fun q hq => by (have : q = 0 := by ((try clear hh_i7); (try clear hic); (try clear his); (try clear hh_i9); omega)); subst this; exact ⟨rfl, rfl, rfl, trivial⟩, by ((try clear hh_i7); (try clear hic); (try clear his); (try clear hh_i9); omega), by ((try clear hh_i7); (try clear hic); (try clear his); (try clear hh_i9); omega), by simp only [InR_i64]; ((try clear hh_i7); (try clear hic); (try clear his); (try clear hh_i9); omega), loop_next (i + 1) (by ((try clear hh_i7); (try clear hic); (try clear his); (try clear hh_i9); omega)) (by ((try clear hh_i7); (try clear hic); (try clear his); (try clear hh_i9); omega)) ?_ ?_⟩
        · simp only [vsAll, Nat.reduceEqDiff, ↓reduceIte, reduceCtorEq, eq_self, Int.natCast_add, Int.natCast_one]
        · rw [app_ps _ (p.ps.getD i po0) _ rfl, e]
          simp only [List.length_append, List.length_cons, List.length_nil, Nat.zero_add]
          (repeat (first | exact HSub_rfl | refine HSub_put_eq (by simp only [vsAll, ↓reduceIte, eq_self, hic, his, hh_i9]) ?_ | refine HSub_drop2 (by simp only [eq_self, hh_i7, hic, his, hh_i9]) ?_ | refine HSub_keep_eq (by simp only [vsAll, binA, binLitA, intA, aggA, aggV, boolA, nilA2, isConst, unA, loadA, loadRow, partA, partOk, fieldAddrA, indexAddrA, indexA, fieldA, extractA, lenA, nilCheckA, boxA, boxZ, cellA, cellsA, fillA, okParts, buildSliceA, buildMutA, makeSliceA, partIdx, elemsA, lensA, ifaceA, convA, mmA, pickA, okAll, stAll, opsA, partsA, partsOk, opA, allocA, boxMutA, newCells, okCells, storeObj, appendA, guardV, taA, nM, mapUpA, lookA, sliceA, sliceS, boundsA, opO, okO, copyA, dstOk, nilA, quietOk, nilSliceOp, deferV, panA, resA, argFr, retA.eq_1, retA.eq_2, Nat.reduceAdd, Nat.reduceSub, Nat.reduceMul, Nat.reduceLT, Nat.reduceLeDiff, Nat.reduceEqDiff, Nat.reduceBEq, Int.reduceAdd, Int.reduceSub, Int.reduceMul, Int.reduceNeg, Int.reduceLE, Int.reduceLT, Int.reduceEq, Int.reduceNe, Int.reduceToNat, ↓reduceIte, reduceCtorEq, implies_true, forall_const, eq_self, ne_eq, arrL, wtAll, Try.ntmps86, Try.results86, hh_i7, hic, his, hh_i9]) ?_))
      · have hc : ¬ Q.testBit i = true := fun h => by
          rw [decide_eq_false_iff_not] at hc
          rw [if_pos h] at hb; ((try clear hh_i7); (try clear hic); (try clear his); (try clear hh_i9); omega)
        rw [if_neg hc] at e
        simp only [vsAll, binA, binLitA, intA, opA, dstOk, Nat.reduceLT, Nat.reduceEqDiff, ↓reduceIte, reduceCtorEq, eq_self]
        refine ⟨by simp only [InR_i64]; ((try clear hh_i7); (try clear hic); (try clear his); (try clear hh_i9); omega), loop_next (i + 1) (by ((try clear hh_i7); (try clear hic); (try clear his); (try clear hh_i9); omega)) (by ((try clear hh_i7); (try clear hic); (try clear his); (try clear hh_i9); omega)) ?_ ?_⟩
        · simp only [vsAll, Nat.reduceEqDiff, ↓reduceIte, reduceCtorEq, eq_self, Int.natCast_add, Int.natCast_one]
        · rw [e]
          (repeat (first | exact HSub_rfl | refine HSub_put_eq (by simp only [vsAll, ↓reduceIte, eq_self, hic, his, hh_i9]) ?_ | refine HSub_drop2 (by simp only [eq_self, hh_i7, hic, his, hh_i9]) ?_ | refine HSub_keep_eq (by simp only [vsAll, binA, binLitA, intA, aggA, aggV, boolA, nilA2, isConst, unA, loadA, loadRow, partA, partOk, fieldAddrA, indexAddrA, indexA, fieldA, extractA, lenA, nilCheckA, boxA, boxZ, cellA, cellsA, fillA, okParts, buildSliceA, buildMutA, makeSliceA, partIdx, elemsA, lensA, ifaceA, convA, mmA, pickA, okAll, stAll, opsA, partsA, partsOk, opA, allocA, boxMutA, newCells, okCells, storeObj, appendA, guardV, taA, nM, mapUpA, lookA, sliceA, sliceS, boundsA, opO, okO, copyA, dstOk, nilA, quietOk, nilSliceOp, deferV, panA, resA, argFr, retA.eq_1, retA.eq_2, Nat.reduceAdd, Nat.reduceSub, Nat.reduceMul, Nat.reduceLT, Nat.reduceLeDiff, Nat.reduceEqDiff, Nat.reduceBEq, Int.reduceAdd, Int.reduceSub, Int.reduceMul, Int.reduceNeg, Int.reduceLE, Int.reduceLT, Int.reduceEq, Int.reduceNe, Int.reduceToNat, ↓reduceIte, reduceCtorEq, implies_true, forall_const, eq_self, ne_eq, arrL, wtAll, Try.ntmps86, Try.results86, hh_i7, hic, his, hh_i9]) ?_))
    · have ei : i = p.ps.length := by ((try clear hh_i7); (try clear hic); (try clear his); omega)
      subst ei
      simp only [vsAll, loadA, loadRow, partA, partOk, fieldAddrA, lenA, opA, dstOk, Nat.reduceLT, Nat.reduceEqDiff, ↓reduceIte, reduceCtorEq, eq_self, wtAll]
      generalize hL : onL p Q p.ps.length = L
      refine vs_loop (σ := Nat) (fun i => i ≤ p.fs.length) (fun i => [(0, pP p), (2, u64 S), (7, .ref i7 0 7 0 0), (52, i64 p.fs.length), (53, i64 i)])
        (fun i => ((H.set ic (.row 1 p.fs.length (intF (wthG p S i)))).set is (.row 3 L.length (psF L))).set i7 (.box 7 1 fun _ => [i64 p.hr, i64 p.fro, i64 p.per, .sl ic 1 p.fs.length, .sl is 3 L.length, u64 (p.F false : Nat), u64 (p.F true : Nat)])) (fun i => p.fs.length - i) 0 (Nat.zero_le _) ?_ ?_ fun i hi => ?_
      · simp only [vsAll, Nat.reduceEqDiff, ↓reduceIte, reduceCtorEq, eq_self, Int.natCast_zero]
      · refine HSub.set (HSub.set (HSub.set HSub_rfl (row_ext fun q hq => ?_)) (.refl _)) (.refl _)
        rw [intF_at, intF_at, wthG_at hq, if_neg (Nat.not_lt_zero q)]
      · simp only [vsAll, binA, binLitA, intA, opA, dstOk, Nat.reduceLT, Nat.reduceEqDiff, ↓reduceIte, reduceCtorEq, eq_self]
        refine condD (fun hd => ?_) (fun hd => ?_)
        · have hil : i < p.fs.length := by ((try clear hh_i7); (try clear hic); (try clear his); omega)
          simp only [vsAll, binA, binLitA, intA, opA, dstOk, nilSliceOp, Nat.reduceLT, Nat.reduceEqDiff, Int.reduceLE, Int.reduceToNat, ↓reduceIte, reduceCtorEq, eq_self, shr_int, bits64, InR_u64]
          have hsr := shr_le S i
          have h0 : (0 : Int) ≤ ((S >>> i : Nat) : Int) := Int.natCast_nonneg _
          have hb := bit1 S i
          refine ⟨⟨by ((try clear hh_i7); (try clear hic); (try clear his); omega), by ((try clear hh_i7); (try clear hic); (try clear his); omega)⟩, ⟨by ((try clear hh_i7); (try clear hic); (try clear his); omega), by ((try clear hh_i7); (try clear hic); (try clear his); omega), by ((try clear hh_i7); (try clear hic); (try clear his); omega)⟩, condV (fun hc => ?_) (fun hc => ?_)⟩
          · have hc : ¬ S.testBit i = true := fun h => by
              rw [decide_eq_true_eq] at hc
              rw [if_pos h] at hb; ((try clear hh_i7); (try clear hic); (try clear his); omega)
            have eH := k.H_eq
            have hH : 2 ^ p.H ≤ 2 ^ 12 := Nat.pow_le_pow_right (by decide) eH.2
            have hH0 : 0 < 2 ^ p.H := Nat.two_pow_pos _
            have eh : (1 : Int) * 2 ^ p.hr.toNat = ((2 ^ p.H : Nat) : Int) := by
              rw [Int.one_mul, show p.hr.toNat = p.H by ((try clear hh_i7); (try clear hic); (try clear his); omega)]; simp
            have eh2 : ((2 ^ p.H - 1 : Nat) : Int) = ((2 ^ p.H : Nat) : Int) - 1 := by ((try clear hh_i7); (try clear hic); (try clear his); omega)
            refine vs_draw2 [0, 0, 0, 0, 0, 0, 0, 0, 0, 0, 0, 0, 1] [([0, 1, 2, 3, 4, 5, 6, 7, 8, 9, 10, 11], [], 12)] [] (by decide +kernel) ?_
            simp only [vsAll, binA, binLitA, intA, loadA, loadRow, partA, partOk, fieldAddrA, indexAddrA, nilCheckA, cellA, cellsA, opA, newCells, okCells, storeObj, dstOk, Nat.reduceLT, Nat.reduceEqDiff, ↓reduceIte, reduceCtorEq, eq_self, wtAll, hic, his, eh]
            refine ⟨⟨by ((try clear hh_i7); (try clear hic); (try clear his); omega), by ((try clear hh_i7); (try clear hic); (try clear his); omega), by simp only [InR_i64]; ((try clear hh_i7); (try clear hic); (try clear his); omega)⟩, by simp only [InR_i64]; ((try clear hh_i7); (try clear hic); (try clear his); omega), ⟨by ((try clear hh_i7); (try clear hic); (try clear his); omega), by ((try clear hh_i7); (try clear hic); (try clear his); omega)⟩, hil, by simp only [InR_i64]; ((try clear hh_i7); (try clear hic); (try clear his); omega), loop_next (i + 1) (by ((try clear hh_i7); (try clear hic); (try clear his); omega)) (by ((try clear hh_i7); (try clear hic); (try clear his); omega)) ?_ ?_⟩
            · simp only [vsAll, Nat.reduceEqDiff, ↓reduceIte, reduceCtorEq, eq_self, Int.natCast_add, Int.natCast_one]
            · have eu : ∀ q, q < p.fs.length → updF p.fs.length i (intF (wthG p S i)) [AV.lit (Value.int IntKind.i64 (((2 ^ p.H : Nat) : Int) - 1))] q = intF (wthG p S (i + 1)) q := fun q hq => by
                rw [upd_at _ _ _ _ _ hil hq, intF_at, intF_at, wthG_at hq, wthG_at hq]
                by_cases e : q = i
                · subst e
                  rw [if_pos rfl, if_pos (Nat.lt_succ_self _), if_neg hc, eh2]
                · have : q < i + 1 ↔ q < i := by ((try clear hh_i7); (try clear hic); (try clear his); omega)
                  rw [if_neg e]
                  simp only [this]
              refine HSub_put_eq (by simp only [vsAll, ↓reduceIte, eq_self, hic]) (HSub_put_eq (by simp only [vsAll, ↓reduceIte, eq_self, his]) (HSub.set (HSub_drop2 (by simp only [eq_self, hh_i7]) (HSub_drop2 (by simp only [eq_self, his]) (HSub_drop2 (by simp only [eq_self, hic]) HSub_rfl))) (row_ext eu)))
          · have hc : S.testBit i = true := by
              rw [decide_eq_false_iff_not] at hc
              by_cases h : S.testBit i = true
              · exact h
              · rw [if_neg h] at hb; ((try clear hh_i7); (try clear hic); (try clear his); omega)
            simp only [vsAll, binA, binLitA, intA, opA, dstOk, Nat.reduceLT, Nat.reduceEqDiff, ↓reduceIte, reduceCtorEq, eq_self]
            refine ⟨by simp only [InR_i64]; ((try clear hh_i7); (try clear hic); (try clear his); omega), loop_next (i + 1) (by ((try clear hh_i7); (try clear hic); (try clear his); omega)) (by ((try clear hh_i7); (try clear hic); (try clear his); omega)) ?_ ?_⟩
            · simp only [vsAll, Nat.reduceEqDiff, ↓reduceIte, reduceCtorEq, eq_self, Int.natCast_add, Int.natCast_one]
            · refine HSub.set (HSub.set (HSub.set HSub_rfl (row_ext fun q hq => ?_)) (.refl _)) (.refl _)
              rw [intF_at, intF_at, wthG_at hq, wthG_at hq]
              by_cases e : q = i
              · subst e
                rw [if_neg (Nat.lt_irrefl _), if_pos (Nat.lt_succ_self _), if_pos hc]
              · have : q < i + 1 ↔ q < i := by ((try clear hh_i7); (try clear hic); (try clear his); omega)
                simp only [this]
        · have ei : i = p.fs.length := by ((try clear hh_i7); (try clear hic); (try clear his); omega)
          subst ei
          simp only [vsAll, opA, dstOk, nilSliceOp, Nat.reduceLT, Nat.reduceEqDiff, ↓reduceIte, reduceCtorEq, eq_self]
          have hlf := wthF_len p S
          have eF : pP (wthP p Q S) = .rptr 1 7 (fun _ => [i64 p.hr, i64 p.fro, i64 p.per, .rsl p.fs.length 1 (intF (wthF p S)), .rsl L.length 3 (psF L), u64 (p.F false : Nat), u64 (p.F true : Nat)]) 0 0 := by
            rw [← hL, ← hlf]; rfl
          rw [eF]
          refine Ent.step (Ent.of [(6, .ref i7 0 7 0 0)] (by simp only [vsAll, ↓reduceIte, eq_self]) (H' := ((H.set ic (.row 1 p.fs.length (intF (wthF p S)))).set is (.row 3 L.length (psF L))).set i7 (.box 7 1 fun _ => [i64 p.hr, i64 p.fro, i64 p.per, .sl ic 1 p.fs.length, .sl is 3 L.length, u64 (p.F false : Nat), u64 (p.F true : Nat)])) (HSub.set (HSub.set (HSub.set HSub_rfl (row_ext fun q hq => ?_)) (.refl _)) (.refl _)) ?_)
          · rw [intF_at, intF_at, wthG_at hq, wthF_at hq, if_pos hq]
          refine Ent.step (Ent.freezeBox (id := ic) (st := 1) (n := p.fs.length) (f := intF (wthF p S)) (j := i7) (st' := 7) (n' := 1) (g := fun _ => [i64 p.hr, i64 p.fro, i64 p.per, .sl ic 1 p.fs.length, .sl is 3 L.length, u64 (p.F false : Nat), u64 (p.F true : Nat)]) (g' := fun _ => [i64 p.hr, i64 p.fro, i64 p.per, .rsl p.fs.length 1 (intF (wthF p S)), .sl is 3 L.length, u64 (p.F false : Nat), u64 (p.F true : Nat)]) (by simp only [vsAll, ↓reduceIte, eq_self, hic, his]) (by simp only [vsAll, ↓reduceIte, eq_self]) (fun t => .rfl) (fun _ _ => rfl) (fun q c hq hc => ?_) ?_)
          · match c, hc with
            | 0, _ => exact .rfl
            | 1, _ => exact .rfl
            | 2, _ => exact .rfl
            | 3, _ => exact .hit
            | 4, _ => exact .rfl
            | 5, _ => exact .rfl
            | 6, _ => exact .rfl
          refine Ent.step (Ent.freezeBox (id := is) (st := 3) (n := L.length) (f := psF L) (j := i7) (st' := 7) (n' := 1) (g := fun _ => [i64 p.hr, i64 p.fro, i64 p.per, .rsl p.fs.length 1 (intF (wthF p S)), .sl is 3 L.length, u64 (p.F false : Nat), u64 (p.F true : Nat)]) (g' := fun _ => [i64 p.hr, i64 p.fro, i64 p.per, .rsl p.fs.length 1 (intF (wthF p S)), .rsl L.length 3 (psF L), u64 (p.F false : Nat), u64 (p.F true : Nat)]) ?_ (by simp only [vsAll, ↓reduceIte, eq_self]) (fun t => .rfl) (fun _ _ => rfl) (fun q c hq hc => ?_) ?_)
          · simp only [vsAll, ↓reduceIte, eq_self, his, Hp.del_get]
          · match c, hc with
            | 0, _ => exact .rfl
            | 1, _ => exact .rfl
            | 2, _ => exact .rfl
            | 3, _ => exact .rfl
            | 4, _ => exact .hit
            | 5, _ => exact .rfl
            | 6, _ => exact .rfl
          refine ret_freezeB (by rw [Try.results86]) (rfl) (Hp.set_same _ _ _) ?_
          refine ⟨H, HSub_del (by simp only [eq_self, hh_i7]) (HSub_drop2 (by simp only [eq_self, hh_i7]) (HSub_del (by simp only [eq_self, his]) (HSub_drop2 (by simp only [eq_self, hh_i7]) (HSub_del (by simp only [eq_self, hic]) (HSub_drop2 (by simp only [eq_self, hh_i7]) (HSub_drop2 (by simp only [eq_self, his]) (HSub_drop2 (by simp only [eq_self, hic]) HSub_rfl))))))), rfl, rfl⟩
end Go.Proofs.Ytliomkpmadpibaa
end
section
set_option linter.unusedVariables false
set_option linter.unusedSimpArgs false
namespace Go.Proofs.Ytliomkpmadpibaa
open Go.V
def onX (S : Nat) : Nat → List Nat
  | 0 => []
  | i + 1 => if S.testBit i = true then onX S i ++ [i] else onX S i
theorem onX_lt {S x : Nat} : ∀ {i}, x ∈ onX S i → x < i := by
  intro i
  induction i with
  | zero => intro h; cases h
  | succ i ih =>
    intro h
    simp only [onX] at h
    split at h
    · rcases List.mem_append.1 h with h | h
      · have := ih h; omega
      · have : x = i := by simpa using h
        omega
    · have := ih h; omega
theorem onX_inc {S a b : Nat} : ∀ {i}, a < b → b < (onX S i).length → (onX S i).getD a 0 < (onX S i).getD b 0 := by
  intro i
  induction i with
  | zero => intro h1 h2; cases h2
  | succ i ih =>
    intro h1 h2
    simp only [onX] at h2 ⊢
    split at h2
    · rename_i hs
      rw [if_pos hs]
      rw [List.length_append] at h2
      simp only [List.length_cons, List.length_nil] at h2
      have ha : a < (onX S i).length := by omega
      rw [List.getD_eq_getElem?_getD, List.getD_eq_getElem?_getD, List.getElem?_append_left ha]
      by_cases hb : b < (onX S i).length
      · rw [List.getElem?_append_left hb]
        have := ih h1 hb
        rwa [List.getD_eq_getElem?_getD, List.getD_eq_getElem?_getD] at this
      · have e : b = (onX S i).length := by omega
        subst e
        have hm : (onX S i).getD a 0 ∈ onX S i := mem_getD _ a 0 ha
        have := onX_lt hm
        rw [List.getD_eq_getElem?_getD] at this
        simpa using this
    · rename_i hs
      rw [if_neg hs]
      exact ih h1 h2
theorem onL_map (p : Pt) (S : Nat) : ∀ i, onL p S i = (onX S i).map fun t => p.ps.getD t po0 := by
  intro i
  induction i with
  | zero => rfl
  | succ i ih =>
    simp only [onL, onX]
    split
    · rw [List.map_append, ih]; rfl
    · exact ih
theorem getD_map' {α β : Type} (f : α → β) (l : List α) (i : Nat) (a : α) (b : β) (h : i < l.length) : (l.map f).getD i b = f (l.getD i a) := by
  simp [List.getD_eq_getElem?_getD, h]
theorem only_right {p : Pt} {S : Nat} {l : List (Int × Int)} (h : RightP p l) : RightP (onlyP p S) ((onX S p.ps.length).map fun t => l.getD t (0, 0)) := by
  have hlen : (onlyP p S).ps.length = (onX S p.ps.length).length := by
    show (onL p S p.ps.length).length = _
    rw [onL_map, List.length_map]
  have epot : ∀ j, j < (onX S p.ps.length).length → (onlyP p S).pot j = p.pot ((onX S p.ps.length).getD j 0) := fun j hj => by
    show (onL p S p.ps.length).getD j po0 = p.ps.getD _ po0
    rw [onL_map, getD_map' _ _ _ 0 _ hj]
  have ehot : ∀ b j h', j < (onX S p.ps.length).length → hotV (onlyP p S) b j h' = hotV p b ((onX S p.ps.length).getD j 0) h' := fun b j h' hj => by
    unfold hotV
    rw [epot j hj]; rfl
  have etk : ∀ j h', j < (onX S p.ps.length).length → tkN (onlyP p S) j h' = tkN p ((onX S p.ps.length).getD j 0) h' := fun j h' hj => by
    unfold tkN
    rw [ehot _ _ _ hj]; rfl
  refine ⟨by rw [List.length_map, hlen], fun i hi => ?_, fun i hi => ?_⟩
  · rw [List.length_map] at hi
    rw [getD_map' _ _ _ 0 _ hi]
    exact h.pl _ (by rw [h.len]; exact onX_lt (mem_getD _ i 0 hi))
  · rw [List.length_map] at hi
    have hX := onX_lt (mem_getD _ i 0 hi)
    have hb := h.br _ (by rw [h.len]; exact hX)
    rw [getD_map' _ _ _ 0 _ hi]
    generalize hx : l.getD ((onX S p.ps.length).getD i 0) (0, 0) = x at hb
    have eal : alR (onlyP p S) i x = alR p ((onX S p.ps.length).getD i 0) x := by
      unfold alR
      rw [epot i hi, ehot _ _ _ hi, etk _ _ hi]; rfl
    unfold brR at hb ⊢
    rw [eal]
    by_cases ha : alR p ((onX S p.ps.length).getD i 0) x = 0
    · rw [if_pos ha] at hb ⊢
      split at hb
      · cases hb
      · rename_i hn
        rw [if_neg]
        intro hy
        apply hn
        rw [List.any_eq_true] at hy ⊢
        obtain ⟨j, hj, hs⟩ := hy
        rw [List.mem_range] at hj
        have hjl : j < (onX S p.ps.length).length := by omega
        refine ⟨(onX S p.ps.length).getD j 0, List.mem_range.2 (onX_inc hj hi), ?_⟩
        rw [getD_map' _ _ _ 0 _ hjl] at hs
        unfold shrB at hs ⊢
        rw [etk _ _ hjl, etk _ _ hi] at hs
        exact hs
    · rw [if_neg ha] at hb
      exact absurd hb ha
theorem only_none {p : Pt} {S : Nat} (h : noneP p S = true) : (rpl p).length = 0 := by
  cases hr : rpl p with
  | nil => rfl
  | cons l L =>
    have hl : RightP p l := mem_rpl.1 (by rw [hr]; exact List.mem_cons_self)
    have h2 := mem_rpl.2 (only_right (S := S) hl)
    unfold noneP at h
    rw [decide_eq_true_eq, List.length_eq_zero_iff] at h
    rw [h] at h2
    cases h2
/-- The fewest pots for which there is no plan, found from the smallest set on. -/
theorem cl_few {p : Pt} (k : Ok p) : fewV (noneP p) p.ps.length = if (rpl p).length = 0 then some (bsN (noneP p) (2 ^ p.ps.length - 1) (2 ^ p.ps.length)) else none := by
  have e : noneP p (2 ^ p.ps.length - 1) = decide ((rpl p).length = 0) := by unfold noneP; rw [only_every]
  rw [few_rset (by have := k.nP; omega) (fun i _ h => by rw [e]; exact decide_eq_true (only_none h)), rset, e]
  by_cases h : (rpl p).length = 0
  · simp [h]
  · simp [h]
theorem cl_eq {p : Pt} (k : Ok p) : fewV (noneP p) p.ps.length = if clE p = 0 then some (clV p) else none := by
  rw [cl_few k]
  have e0 : errE p true = 0 := errE_ok k
  by_cases h : (rpl p).length = 0
  · have e : clE p = 0 := by rw [clE, if_pos e0, if_neg (by omega)]
    rw [if_pos h, if_pos e, clV, if_pos e]
  · have e : clE p = 4 := by rw [clE, if_pos e0, if_pos (by omega)]
    rw [if_neg h, if_neg (by rw [e]; decide)]
end Go.Proofs.Ytliomkpmadpibaa
end
section
set_option linter.unusedVariables false
set_option linter.unusedSimpArgs false
set_option maxHeartbeats 4000000
set_option maxRecDepth 100000
namespace Go.Proofs.Ytliomkpmadpibaa
open Go.V
theorem few1_tri (p : Pt) (i4 i5 Q S : Nat) (H : Hp) (k : Ok p) (ko : Ok (wthP p Q S)) (h4 : H i4 = some (.box 1 1 fun _ => [pP p])) (h5 : H i5 = some (.box 1 1 fun _ => [u64 Q])) (hQ : Q < 2 ^ 60) (hS : S < 2 ^ 60) :
    PTri Try.prog (.func (.func 85) [] [.ref i4 0 1 0 0, .ref i5 0 1 0 0]) [u64 S] H (boo (decide (0 < (rpl (wthP p Q S)).length))) := by
  refine tri_v0 (fun _ => false) Try.func85 (by kernel_rfl) rfl (by simp only [List.length_append, List.length_cons, List.length_nil, Try.ntmps85]; decide) ?_
  skip
  simp only [vsAll, loadA, loadRow, partA, partOk, okAll, stAll, opsA, opA, dstOk, nilSliceOp, argFr, Nat.reduceLT, Nat.reduceEqDiff, ↓reduceIte, reduceCtorEq, eq_self, wtAll, Try.ntmps85, h4, h5]
  refine callK_pure (with_tri p Q S _ k hQ hS) ?_
  simp only [vsAll, okAll, stAll, opsA, opA, dstOk, Nat.reduceLT, ↓reduceIte, eq_self]
  refine callK_pure (ways_tri _ _ ko) ?_
  simp only [vsAll, binA, binLitA, intA, opA, dstOk, nilSliceOp, resA, retA.eq_1, Nat.reduceLT, ↓reduceIte, eq_self, Try.results85]
  exact congrArg (fun b => Res.ret (boo b)) (decide_eq_decide.2 (by ((try clear h4); (try clear h5); omega)))
theorem cl1_tri (p : Pt) (i4 i5 Q S : Nat) (H : Hp) (k : Ok p) (ko : Ok (wthP p Q S)) (h4 : H i4 = some (.box 1 1 fun _ => [pP p])) (h5 : H i5 = some (.box 1 1 fun _ => [u64 S])) (hQ : Q < 2 ^ 60) (hS : S < 2 ^ 60) :
    PTri Try.prog (.func (.func 88) [] [.ref i4 0 1 0 0, .ref i5 0 1 0 0]) [u64 Q] H (boo (decide ((rpl (wthP p Q S)).length = 0))) := by
  refine tri_v0 (fun _ => false) Try.func88 (by kernel_rfl) rfl (by simp only [List.length_append, List.length_cons, List.length_nil, Try.ntmps88]; decide) ?_
  skip
  simp only [vsAll, loadA, loadRow, partA, partOk, okAll, stAll, opsA, opA, dstOk, nilSliceOp, argFr, Nat.reduceLT, Nat.reduceEqDiff, ↓reduceIte, reduceCtorEq, eq_self, wtAll, Try.ntmps88, h4, h5]
  refine callK_pure (with_tri p Q S _ k hQ hS) ?_
  simp only [vsAll, okAll, stAll, opsA, opA, dstOk, Nat.reduceLT, ↓reduceIte, eq_self]
  refine callK_pure (ways_tri _ _ ko) ?_
  simp only [vsAll, binA, binLitA, intA, opA, dstOk, nilSliceOp, resA, retA.eq_1, Nat.reduceLT, ↓reduceIte, eq_self, Try.results88]
  exact congrArg (fun b => Res.ret (boo b)) (decide_eq_decide.2 (by ((try clear h4); (try clear h5); omega)))
theorem wfewest_tri (p : Pt) (H : Hp) (kn : Near p) : PTri Try.prog (fnA 29) [p.av] H (.tuple [i64 (fewN p : Nat), i64 (rgtE p true)]) := by
  refine Tri.drop ?_
  refine tri_a (m := fun _ => false) ans46 Try.func29 (by kernel_rfl) rfl (by simp only [List.length_append, List.length_cons, List.length_nil, Try.ntmps29]; decide) ?_
  simp only [vsAll, loadA, loadRow, partA, partOk, boxA, boxZ, okAll, stAll, opsA, opA, allocA, dstOk, nilSliceOp, argFr, Nat.reduceAdd, Nat.reduceLT, Nat.reduceEqDiff, ↓reduceIte, eq_self, wtAll, Try.ntmps29]
  intro i3 hh_i3; (try simp only [Hp.set_none, ite_none] at hh_i3)
  refine open_call (open_tri p (fnA 71) true _ kn trivial rfl (fun k H' => always_tri _ H')) (fun he => ?_) (fun k hv => ?_)
  · have e : rgtE p true = errE p true := if_neg he
    have e2 : fewN p = 0 := if_neg (by rw [e]; exact he)
    simp only [vsAll]
    refine ⟨errE p true, i3, _, rfl, rfl, by simp only [vsAll, ↓reduceIte, eq_self]; try rfl, ?_⟩
    simp only [vsAll, loadA, loadRow, partA, partOk, resA, retA.eq_2, Nat.reduceLT, Nat.reduceEqDiff, ↓reduceIte, eq_self, wtAll, Try.results29]
    refine dropR_pure ?_ (by (repeat (first | exact HSub_rfl | refine HSub_put_eq (by simp only [vsAll, binA, binLitA, intA, aggA, aggV, boolA, nilA2, isConst, unA, loadA, loadRow, partA, partOk, fieldAddrA, indexAddrA, indexA, fieldA, extractA, lenA, nilCheckA, boxA, boxZ, cellA, cellsA, fillA, okParts, buildSliceA, buildMutA, makeSliceA, partIdx, elemsA, lensA, ifaceA, convA, mmA, pickA, okAll, stAll, opsA, partsA, partsOk, opA, allocA, boxMutA, newCells, okCells, storeObj, appendA, guardV, taA, nM, mapUpA, lookA, sliceA, sliceS, boundsA, opO, okO, copyA, dstOk, nilA, quietOk, nilSliceOp, deferV, panA, resA, argFr, retA.eq_1, retA.eq_2, Nat.reduceAdd, Nat.reduceSub, Nat.reduceMul, Nat.reduceLT, Nat.reduceLeDiff, Nat.reduceEqDiff, Nat.reduceBEq, Int.reduceAdd, Int.reduceSub, Int.reduceMul, Int.reduceNeg, Int.reduceLE, Int.reduceLT, Int.reduceEq, Int.reduceNe, Int.reduceToNat, ↓reduceIte, reduceCtorEq, implies_true, forall_const, eq_self, ne_eq, arrL, wtAll, Try.ntmps29, Try.results29, hh_i3]) ?_ | refine HSub_drop2 (by simp only [eq_self, hh_i3]) ?_ | refine HSub_keep_eq (by simp only [vsAll, binA, binLitA, intA, aggA, aggV, boolA, nilA2, isConst, unA, loadA, loadRow, partA, partOk, fieldAddrA, indexAddrA, indexA, fieldA, extractA, lenA, nilCheckA, boxA, boxZ, cellA, cellsA, fillA, okParts, buildSliceA, buildMutA, makeSliceA, partIdx, elemsA, lensA, ifaceA, convA, mmA, pickA, okAll, stAll, opsA, partsA, partsOk, opA, allocA, boxMutA, newCells, okCells, storeObj, appendA, guardV, taA, nM, mapUpA, lookA, sliceA, sliceS, boundsA, opO, okO, copyA, dstOk, nilA, quietOk, nilSliceOp, deferV, panA, resA, argFr, retA.eq_1, retA.eq_2, Nat.reduceAdd, Nat.reduceSub, Nat.reduceMul, Nat.reduceLT, Nat.reduceLeDiff, Nat.reduceEqDiff, Nat.reduceBEq, Int.reduceAdd, Int.reduceSub, Int.reduceMul, Int.reduceNeg, Int.reduceLE, Int.reduceLT, Int.reduceEq, Int.reduceNe, Int.reduceToNat, ↓reduceIte, reduceCtorEq, implies_true, forall_const, eq_self, ne_eq, arrL, wtAll, Try.ntmps29, Try.results29, hh_i3]) ?_)))
    simp only [eq_self, e, e2, Int.natCast_zero]
  · have he := errE_ok k
    have nP := k.nP
    have nF := k.nF
    have h1 : 2 ^ p.ps.length ≤ 2 ^ 4 := Nat.pow_le_pow_right (by decide) nP
    have h2 : 2 ^ p.fs.length ≤ 2 ^ 3 := Nat.pow_le_pow_right (by decide) nF
    simp only [vsAll, loadA, loadRow, partA, partOk, cellA, cellsA, okAll, stAll, opsA, opA, allocA, newCells, okCells, storeObj, dstOk, Nat.reduceLT, Nat.reduceEqDiff, ↓reduceIte, eq_self, wtAll]
    intro i4 hh_i4; (try simp only [ite_none] at hh_i4)
    refine callK_pure (every_tri p _ nF nP) ?_
    simp only [vsAll, loadA, loadRow, partA, partOk, fieldAddrA, extractA, lenA, nilCheckA, cellA, cellsA, okAll, stAll, opsA, opA, allocA, newCells, okCells, storeObj, dstOk, nilSliceOp, Nat.reduceAdd, Nat.reduceLT, Nat.reduceEqDiff, ↓reduceIte, eq_self, wtAll]
    intro i5 hh_i5; (try simp only [ite_none] at hh_i5)
    simp only [vsAll, Nat.reduceLT, ↓reduceIte, eq_self, hh_i5]
    refine callK_pure (fewest_tri (enoB p) p.fs.length _ _ (by ((try clear hh_i3); (try clear hh_i4); (try clear hh_i5); omega)) (by simp only [vsAll]) (by simp only [vsAll, eq_self]) (fun S hS => few1_tri p i4 i5 _ S _ k (wth_ok k S) (by simp only [vsAll, ↓reduceIte, eq_self, hh_i5]) (by simp only [vsAll, ↓reduceIte, eq_self]) (by ((try clear hh_i3); (try clear hh_i4); (try clear hh_i5); omega)) (by ((try clear hh_i3); (try clear hh_i4); (try clear hh_i5); omega)))) ?_
    by_cases h0 : (rpl p).length = 0
    · have er : rgtE p true = 4 := by rw [rgtE, if_pos he, if_pos h0]
      have ef := few_none k h0
      have e2 : fewN p = 0 := if_neg (by rw [er]; decide)
      simp only [vsAll, extractA, okAll, stAll, opsA, opA, dstOk, nilSliceOp, Nat.reduceAdd, Nat.reduceLT, Nat.reduceEqDiff, ↓reduceIte, eq_self, ef, Option.getD_none]
      refine ask_call (fun hc => by cases hc) (fun hc => ?_)
      simp only [vsAll]
      refine ⟨4, i3, _, rfl, rfl, by simp only [vsAll, ↓reduceIte, eq_self, hh_i4, hh_i5]; try rfl, ?_⟩
      simp only [vsAll, loadA, loadRow, partA, partOk, resA, retA.eq_2, Nat.reduceLT, Nat.reduceEqDiff, ↓reduceIte, eq_self, wtAll, Try.results29]
      refine dropR_pure ?_ (by (repeat (first | exact HSub_rfl | refine HSub_put_eq (by simp only [vsAll, binA, binLitA, intA, aggA, aggV, boolA, nilA2, isConst, unA, loadA, loadRow, partA, partOk, fieldAddrA, indexAddrA, indexA, fieldA, extractA, lenA, nilCheckA, boxA, boxZ, cellA, cellsA, fillA, okParts, buildSliceA, buildMutA, makeSliceA, partIdx, elemsA, lensA, ifaceA, convA, mmA, pickA, okAll, stAll, opsA, partsA, partsOk, opA, allocA, boxMutA, newCells, okCells, storeObj, appendA, guardV, taA, nM, mapUpA, lookA, sliceA, sliceS, boundsA, opO, okO, copyA, dstOk, nilA, quietOk, nilSliceOp, deferV, panA, resA, argFr, retA.eq_1, retA.eq_2, Nat.reduceAdd, Nat.reduceSub, Nat.reduceMul, Nat.reduceLT, Nat.reduceLeDiff, Nat.reduceEqDiff, Nat.reduceBEq, Int.reduceAdd, Int.reduceSub, Int.reduceMul, Int.reduceNeg, Int.reduceLE, Int.reduceLT, Int.reduceEq, Int.reduceNe, Int.reduceToNat, ↓reduceIte, reduceCtorEq, implies_true, forall_const, eq_self, ne_eq, arrL, wtAll, Try.ntmps29, Try.results29, hh_i3, hh_i4, hh_i5]) ?_ | refine HSub_drop2 (by simp only [eq_self, hh_i3, hh_i4, hh_i5]) ?_ | refine HSub_keep_eq (by simp only [vsAll, binA, binLitA, intA, aggA, aggV, boolA, nilA2, isConst, unA, loadA, loadRow, partA, partOk, fieldAddrA, indexAddrA, indexA, fieldA, extractA, lenA, nilCheckA, boxA, boxZ, cellA, cellsA, fillA, okParts, buildSliceA, buildMutA, makeSliceA, partIdx, elemsA, lensA, ifaceA, convA, mmA, pickA, okAll, stAll, opsA, partsA, partsOk, opA, allocA, boxMutA, newCells, okCells, storeObj, appendA, guardV, taA, nM, mapUpA, lookA, sliceA, sliceS, boundsA, opO, okO, copyA, dstOk, nilA, quietOk, nilSliceOp, deferV, panA, resA, argFr, retA.eq_1, retA.eq_2, Nat.reduceAdd, Nat.reduceSub, Nat.reduceMul, Nat.reduceLT, Nat.reduceLeDiff, Nat.reduceEqDiff, Nat.reduceBEq, Int.reduceAdd, Int.reduceSub, Int.reduceMul, Int.reduceNeg, Int.reduceLE, Int.reduceLT, Int.reduceEq, Int.reduceNe, Int.reduceToNat, ↓reduceIte, reduceCtorEq, implies_true, forall_const, eq_self, ne_eq, arrL, wtAll, Try.ntmps29, Try.results29, hh_i3, hh_i4, hh_i5]) ?_)))
      simp only [eq_self, er, e2, Int.natCast_zero]
    · have er : rgtE p true = 0 := by rw [rgtE, if_pos he, if_neg h0]
      have ef := few_eq k er
      have hlt := (fewV_some ef).lt
      simp only [vsAll, extractA, okAll, stAll, opsA, opA, dstOk, nilSliceOp, Nat.reduceAdd, Nat.reduceLT, Nat.reduceEqDiff, ↓reduceIte, eq_self, ef, Option.getD_some]
      refine ask_call (fun hc => ?_) (fun hc => by cases hc)
      simp only [vsAll, cellA, cellsA, convA, opA, newCells, okCells, storeObj, dstOk, nilSliceOp, Nat.reduceLT, Nat.reduceEqDiff, ↓reduceIte, eq_self, wtAll, hh_i4, hh_i5]
      refine ⟨by simp only [InR_i64]; ((try clear hh_i3); (try clear hh_i4); (try clear hh_i5); omega), Ent.ret ⟨i3, _, rfl, by simp only [vsAll, ↓reduceIte, eq_self]; try rfl, ?_⟩⟩
      simp only [vsAll, loadA, loadRow, partA, partOk, resA, retA.eq_2, Nat.reduceLT, Nat.reduceEqDiff, ↓reduceIte, eq_self, wtAll, Try.results29]
      refine dropR_pure ?_ (by (repeat (first | exact HSub_rfl | refine HSub_put_eq (by simp only [vsAll, binA, binLitA, intA, aggA, aggV, boolA, nilA2, isConst, unA, loadA, loadRow, partA, partOk, fieldAddrA, indexAddrA, indexA, fieldA, extractA, lenA, nilCheckA, boxA, boxZ, cellA, cellsA, fillA, okParts, buildSliceA, buildMutA, makeSliceA, partIdx, elemsA, lensA, ifaceA, convA, mmA, pickA, okAll, stAll, opsA, partsA, partsOk, opA, allocA, boxMutA, newCells, okCells, storeObj, appendA, guardV, taA, nM, mapUpA, lookA, sliceA, sliceS, boundsA, opO, okO, copyA, dstOk, nilA, quietOk, nilSliceOp, deferV, panA, resA, argFr, retA.eq_1, retA.eq_2, Nat.reduceAdd, Nat.reduceSub, Nat.reduceMul, Nat.reduceLT, Nat.reduceLeDiff, Nat.reduceEqDiff, Nat.reduceBEq, Int.reduceAdd, Int.reduceSub, Int.reduceMul, Int.reduceNeg, Int.reduceLE, Int.reduceLT, Int.reduceEq, Int.reduceNe, Int.reduceToNat, ↓reduceIte, reduceCtorEq, implies_true, forall_const, eq_self, ne_eq, arrL, wtAll, Try.ntmps29, Try.results29, hh_i3, hh_i4, hh_i5]) ?_ | refine HSub_drop2 (by simp only [eq_self, hh_i3, hh_i4, hh_i5]) ?_ | refine HSub_keep_eq (by simp only [vsAll, binA, binLitA, intA, aggA, aggV, boolA, nilA2, isConst, unA, loadA, loadRow, partA, partOk, fieldAddrA, indexAddrA, indexA, fieldA, extractA, lenA, nilCheckA, boxA, boxZ, cellA, cellsA, fillA, okParts, buildSliceA, buildMutA, makeSliceA, partIdx, elemsA, lensA, ifaceA, convA, mmA, pickA, okAll, stAll, opsA, partsA, partsOk, opA, allocA, boxMutA, newCells, okCells, storeObj, appendA, guardV, taA, nM, mapUpA, lookA, sliceA, sliceS, boundsA, opO, okO, copyA, dstOk, nilA, quietOk, nilSliceOp, deferV, panA, resA, argFr, retA.eq_1, retA.eq_2, Nat.reduceAdd, Nat.reduceSub, Nat.reduceMul, Nat.reduceLT, Nat.reduceLeDiff, Nat.reduceEqDiff, Nat.reduceBEq, Int.reduceAdd, Int.reduceSub, Int.reduceMul, Int.reduceNeg, Int.reduceLE, Int.reduceLT, Int.reduceEq, Int.reduceNe, Int.reduceToNat, ↓reduceIte, reduceCtorEq, implies_true, forall_const, eq_self, ne_eq, arrL, wtAll, Try.ntmps29, Try.results29, hh_i3, hh_i4, hh_i5]) ?_)))
      simp only [eq_self, er]
theorem wclash_tri (p : Pt) (H : Hp) (kn : Near p) : PTri Try.prog (fnA 31) [p.av] H (.tuple [i64 (clV p : Nat), i64 (clE p)]) := by
  refine Tri.drop ?_
  refine tri_a (m := fun _ => false) ans46 Try.func31 (by kernel_rfl) rfl (by simp only [List.length_append, List.length_cons, List.length_nil, Try.ntmps31]; decide) ?_
  simp only [vsAll, loadA, loadRow, partA, partOk, boxA, boxZ, okAll, stAll, opsA, opA, allocA, dstOk, nilSliceOp, argFr, Nat.reduceAdd, Nat.reduceLT, Nat.reduceEqDiff, ↓reduceIte, eq_self, wtAll, Try.ntmps31]
  intro i3 hh_i3; (try simp only [Hp.set_none, ite_none] at hh_i3)
  refine open_call (open_tri p (fnA 71) true _ kn trivial rfl (fun k H' => always_tri _ H')) (fun he => ?_) (fun k hv => ?_)
  · have e : clE p = errE p true := if_neg he
    have e2 : clV p = 0 := if_neg (by rw [e]; exact he)
    simp only [vsAll]
    refine ⟨errE p true, i3, _, rfl, rfl, by simp only [vsAll, ↓reduceIte, eq_self]; try rfl, ?_⟩
    simp only [vsAll, loadA, loadRow, partA, partOk, resA, retA.eq_2, Nat.reduceLT, Nat.reduceEqDiff, ↓reduceIte, eq_self, wtAll, Try.results31]
    refine dropR_pure ?_ (by (repeat (first | exact HSub_rfl | refine HSub_put_eq (by simp only [vsAll, binA, binLitA, intA, aggA, aggV, boolA, nilA2, isConst, unA, loadA, loadRow, partA, partOk, fieldAddrA, indexAddrA, indexA, fieldA, extractA, lenA, nilCheckA, boxA, boxZ, cellA, cellsA, fillA, okParts, buildSliceA, buildMutA, makeSliceA, partIdx, elemsA, lensA, ifaceA, convA, mmA, pickA, okAll, stAll, opsA, partsA, partsOk, opA, allocA, boxMutA, newCells, okCells, storeObj, appendA, guardV, taA, nM, mapUpA, lookA, sliceA, sliceS, boundsA, opO, okO, copyA, dstOk, nilA, quietOk, nilSliceOp, deferV, panA, resA, argFr, retA.eq_1, retA.eq_2, Nat.reduceAdd, Nat.reduceSub, Nat.reduceMul, Nat.reduceLT, Nat.reduceLeDiff, Nat.reduceEqDiff, Nat.reduceBEq, Int.reduceAdd, Int.reduceSub, Int.reduceMul, Int.reduceNeg, Int.reduceLE, Int.reduceLT, Int.reduceEq, Int.reduceNe, Int.reduceToNat, ↓reduceIte, reduceCtorEq, implies_true, forall_const, eq_self, ne_eq, arrL, wtAll, Try.ntmps31, Try.results31, hh_i3]) ?_ | refine HSub_drop2 (by simp only [eq_self, hh_i3]) ?_ | refine HSub_keep_eq (by simp only [vsAll, binA, binLitA, intA, aggA, aggV, boolA, nilA2, isConst, unA, loadA, loadRow, partA, partOk, fieldAddrA, indexAddrA, indexA, fieldA, extractA, lenA, nilCheckA, boxA, boxZ, cellA, cellsA, fillA, okParts, buildSliceA, buildMutA, makeSliceA, partIdx, elemsA, lensA, ifaceA, convA, mmA, pickA, okAll, stAll, opsA, partsA, partsOk, opA, allocA, boxMutA, newCells, okCells, storeObj, appendA, guardV, taA, nM, mapUpA, lookA, sliceA, sliceS, boundsA, opO, okO, copyA, dstOk, nilA, quietOk, nilSliceOp, deferV, panA, resA, argFr, retA.eq_1, retA.eq_2, Nat.reduceAdd, Nat.reduceSub, Nat.reduceMul, Nat.reduceLT, Nat.reduceLeDiff, Nat.reduceEqDiff, Nat.reduceBEq, Int.reduceAdd, Int.reduceSub, Int.reduceMul, Int.reduceNeg, Int.reduceLE, Int.reduceLT, Int.reduceEq, Int.reduceNe, Int.reduceToNat, ↓reduceIte, reduceCtorEq, implies_true, forall_const, eq_self, ne_eq, arrL, wtAll, Try.ntmps31, Try.results31, hh_i3]) ?_)))
    simp only [eq_self, e, e2, Int.natCast_zero]
  · have he := errE_ok k
    have nP := k.nP
    have nF := k.nF
    have h1 : 2 ^ p.ps.length ≤ 2 ^ 4 := Nat.pow_le_pow_right (by decide) nP
    have h2 : 2 ^ p.fs.length ≤ 2 ^ 3 := Nat.pow_le_pow_right (by decide) nF
    simp only [vsAll, loadA, loadRow, partA, partOk, cellA, cellsA, okAll, stAll, opsA, opA, allocA, newCells, okCells, storeObj, dstOk, Nat.reduceLT, Nat.reduceEqDiff, ↓reduceIte, eq_self, wtAll]
    intro i4 hh_i4; (try simp only [ite_none] at hh_i4)
    refine callK_pure (every_tri p _ nF nP) ?_
    simp only [vsAll, loadA, loadRow, partA, partOk, fieldAddrA, extractA, lenA, nilCheckA, cellA, cellsA, okAll, stAll, opsA, opA, allocA, newCells, okCells, storeObj, dstOk, nilSliceOp, Nat.reduceAdd, Nat.reduceLT, Nat.reduceEqDiff, ↓reduceIte, eq_self, wtAll]
    intro i6 hh_i6; (try simp only [ite_none] at hh_i6)
    simp only [vsAll, Nat.reduceLT, ↓reduceIte, eq_self, hh_i6]
    have cl1 : ∀ Q : Nat, Q < 2 ^ p.ps.length → ∀ H, H i4 = some (.box 1 1 fun _ => [pP p]) → H i6 = some (.box 1 1 fun _ => [u64 (2 ^ p.fs.length - 1 : Nat)]) → PTri Try.prog (.func (.func 88) [] [.ref i4 0 1 0 0, .ref i6 0 1 0 0]) [u64 Q] H (boo (noneP p Q)) := fun Q hQ H a b => by
      have t := cl1_tri p i4 i6 Q (2 ^ p.fs.length - 1) H k (by rw [wth_every]; exact only_ok k Q) a b (by ((try clear hh_i3); (try clear hh_i4); (try clear hh_i6); omega)) (by ((try clear hh_i3); (try clear hh_i4); (try clear hh_i6); omega))
      rw [wth_every] at t
      exact t
    refine callK_pure (fewest_tri (noneP p) p.ps.length _ _ (by ((try clear hh_i3); (try clear hh_i4); (try clear hh_i6); omega)) (by simp only [vsAll]) (by simp only [vsAll, eq_self]) (fun Q hQ => cl1 Q hQ _ (by simp only [vsAll, ↓reduceIte, eq_self, hh_i6]) (by simp only [vsAll, ↓reduceIte, eq_self]))) ?_
    have ef := cl_eq k
    by_cases h0 : clE p = 0
    · rw [if_pos h0] at ef
      have hlt := (fewV_some ef).lt
      simp only [vsAll, extractA, okAll, stAll, opsA, opA, dstOk, nilSliceOp, Nat.reduceAdd, Nat.reduceLT, Nat.reduceEqDiff, ↓reduceIte, eq_self, ef, Option.getD_some]
      refine ask_call (fun hc => ?_) (fun hc => by cases hc)
      simp only [vsAll, cellA, cellsA, convA, opA, newCells, okCells, storeObj, dstOk, nilSliceOp, Nat.reduceLT, Nat.reduceEqDiff, ↓reduceIte, eq_self, wtAll, hh_i4, hh_i6]
      refine ⟨by simp only [InR_i64]; ((try clear hh_i3); (try clear hh_i4); (try clear hh_i6); omega), Ent.ret ⟨i3, _, rfl, by simp only [vsAll, ↓reduceIte, eq_self]; try rfl, ?_⟩⟩
      simp only [vsAll, loadA, loadRow, partA, partOk, resA, retA.eq_2, Nat.reduceLT, Nat.reduceEqDiff, ↓reduceIte, eq_self, wtAll, Try.results31]
      refine dropR_pure ?_ (by (repeat (first | exact HSub_rfl | refine HSub_put_eq (by simp only [vsAll, binA, binLitA, intA, aggA, aggV, boolA, nilA2, isConst, unA, loadA, loadRow, partA, partOk, fieldAddrA, indexAddrA, indexA, fieldA, extractA, lenA, nilCheckA, boxA, boxZ, cellA, cellsA, fillA, okParts, buildSliceA, buildMutA, makeSliceA, partIdx, elemsA, lensA, ifaceA, convA, mmA, pickA, okAll, stAll, opsA, partsA, partsOk, opA, allocA, boxMutA, newCells, okCells, storeObj, appendA, guardV, taA, nM, mapUpA, lookA, sliceA, sliceS, boundsA, opO, okO, copyA, dstOk, nilA, quietOk, nilSliceOp, deferV, panA, resA, argFr, retA.eq_1, retA.eq_2, Nat.reduceAdd, Nat.reduceSub, Nat.reduceMul, Nat.reduceLT, Nat.reduceLeDiff, Nat.reduceEqDiff, Nat.reduceBEq, Int.reduceAdd, Int.reduceSub, Int.reduceMul, Int.reduceNeg, Int.reduceLE, Int.reduceLT, Int.reduceEq, Int.reduceNe, Int.reduceToNat, ↓reduceIte, reduceCtorEq, implies_true, forall_const, eq_self, ne_eq, arrL, wtAll, Try.ntmps31, Try.results31, hh_i3, hh_i4, hh_i6]) ?_ | refine HSub_drop2 (by simp only [eq_self, hh_i3, hh_i4, hh_i6]) ?_ | refine HSub_keep_eq (by simp only [vsAll, binA, binLitA, intA, aggA, aggV, boolA, nilA2, isConst, unA, loadA, loadRow, partA, partOk, fieldAddrA, indexAddrA, indexA, fieldA, extractA, lenA, nilCheckA, boxA, boxZ, cellA, cellsA, fillA, okParts, buildSliceA, buildMutA, makeSliceA, partIdx, elemsA, lensA, ifaceA, convA, mmA, pickA, okAll, stAll, opsA, partsA, partsOk, opA, allocA, boxMutA, newCells, okCells, storeObj, appendA, guardV, taA, nM, mapUpA, lookA, sliceA, sliceS, boundsA, opO, okO, copyA, dstOk, nilA, quietOk, nilSliceOp, deferV, panA, resA, argFr, retA.eq_1, retA.eq_2, Nat.reduceAdd, Nat.reduceSub, Nat.reduceMul, Nat.reduceLT, Nat.reduceLeDiff, Nat.reduceEqDiff, Nat.reduceBEq, Int.reduceAdd, Int.reduceSub, Int.reduceMul, Int.reduceNeg, Int.reduceLE, Int.reduceLT, Int.reduceEq, Int.reduceNe, Int.reduceToNat, ↓reduceIte, reduceCtorEq, implies_true, forall_const, eq_self, ne_eq, arrL, wtAll, Try.ntmps31, Try.results31, hh_i3, hh_i4, hh_i6]) ?_)))
      simp only [eq_self, h0]
    · rw [if_neg h0] at ef
      have e4 : clE p = 4 := by
        unfold clE at h0 ⊢
        rw [if_pos he] at h0 ⊢
        split
        · rfl
        · rename_i h; rw [if_neg h] at h0; exact absurd rfl h0
      have e2 : clV p = 0 := if_neg h0
      simp only [vsAll, extractA, okAll, stAll, opsA, opA, dstOk, nilSliceOp, Nat.reduceAdd, Nat.reduceLT, Nat.reduceEqDiff, ↓reduceIte, eq_self, ef, Option.getD_none]
      refine ask_call (fun hc => by cases hc) (fun hc => ?_)
      simp only [vsAll]
      refine ⟨4, i3, _, rfl, rfl, by simp only [vsAll, ↓reduceIte, eq_self, hh_i4, hh_i6]; try rfl, ?_⟩
      simp only [vsAll, loadA, loadRow, partA, partOk, resA, retA.eq_2, Nat.reduceLT, Nat.reduceEqDiff, ↓reduceIte, eq_self, wtAll, Try.results31]
      refine dropR_pure ?_ (by (repeat (first | exact HSub_rfl | refine HSub_put_eq (by simp only [vsAll, binA, binLitA, intA, aggA, aggV, boolA, nilA2, isConst, unA, loadA, loadRow, partA, partOk, fieldAddrA, indexAddrA, indexA, fieldA, extractA, lenA, nilCheckA, boxA, boxZ, cellA, cellsA, fillA, okParts, buildSliceA, buildMutA, makeSliceA, partIdx, elemsA, lensA, ifaceA, convA, mmA, pickA, okAll, stAll, opsA, partsA, partsOk, opA, allocA, boxMutA, newCells, okCells, storeObj, appendA, guardV, taA, nM, mapUpA, lookA, sliceA, sliceS, boundsA, opO, okO, copyA, dstOk, nilA, quietOk, nilSliceOp, deferV, panA, resA, argFr, retA.eq_1, retA.eq_2, Nat.reduceAdd, Nat.reduceSub, Nat.reduceMul, Nat.reduceLT, Nat.reduceLeDiff, Nat.reduceEqDiff, Nat.reduceBEq, Int.reduceAdd, Int.reduceSub, Int.reduceMul, Int.reduceNeg, Int.reduceLE, Int.reduceLT, Int.reduceEq, Int.reduceNe, Int.reduceToNat, ↓reduceIte, reduceCtorEq, implies_true, forall_const, eq_self, ne_eq, arrL, wtAll, Try.ntmps31, Try.results31, hh_i3, hh_i4, hh_i6]) ?_ | refine HSub_drop2 (by simp only [eq_self, hh_i3, hh_i4, hh_i6]) ?_ | refine HSub_keep_eq (by simp only [vsAll, binA, binLitA, intA, aggA, aggV, boolA, nilA2, isConst, unA, loadA, loadRow, partA, partOk, fieldAddrA, indexAddrA, indexA, fieldA, extractA, lenA, nilCheckA, boxA, boxZ, cellA, cellsA, fillA, okParts, buildSliceA, buildMutA, makeSliceA, partIdx, elemsA, lensA, ifaceA, convA, mmA, pickA, okAll, stAll, opsA, partsA, partsOk, opA, allocA, boxMutA, newCells, okCells, storeObj, appendA, guardV, taA, nM, mapUpA, lookA, sliceA, sliceS, boundsA, opO, okO, copyA, dstOk, nilA, quietOk, nilSliceOp, deferV, panA, resA, argFr, retA.eq_1, retA.eq_2, Nat.reduceAdd, Nat.reduceSub, Nat.reduceMul, Nat.reduceLT, Nat.reduceLeDiff, Nat.reduceEqDiff, Nat.reduceBEq, Int.reduceAdd, Int.reduceSub, Int.reduceMul, Int.reduceNeg, Int.reduceLE, Int.reduceLT, Int.reduceEq, Int.reduceNe, Int.reduceToNat, ↓reduceIte, reduceCtorEq, implies_true, forall_const, eq_self, ne_eq, arrL, wtAll, Try.ntmps31, Try.results31, hh_i3, hh_i4, hh_i6]) ?_)))
      simp only [eq_self, e4, e2, Int.natCast_zero]
end Go.Proofs.Ytliomkpmadpibaa
end
section
set_option linter.unusedVariables false
set_option linter.unusedSimpArgs false
namespace Go.V
set_option linter.unusedSectionVars false
variable [Inhabited GivT]
/-- What one cell holds. -/
inductive CK where
  | int (k : IntKind)
  | bool
  | sl (ks : List CK)

/-- The cells of a type. -/
def cellsT (P : Program) : Nat → TypeId → Option (List CK)
  | 0, _ => none
  | d + 1, t => match P.underlying t with
    | some .bool => some [.bool]
    | some (.int k) => some [.int k]
    | some (.slice e) => match cellsT P d e with
      | some ks => if P.cellsOf e = ks.length ∧ 0 < ks.length then some [.sl ks] else none
      | none => none
    | some (.array n e) => match cellsT P d e with
      | some ks => if P.cellsOf e = ks.length ∧ P.cellsOf t = n * ks.length then some ((List.replicate n ks).flatten) else none
      | none => none
    | some (.struct fs) => match fs.toList.foldl (fun acc f => match acc with
        | some ks => match cellsT P d f.type with
          | some l => if f.offset = ks.length ∧ P.cellsOf f.type = l.length then some (ks ++ l) else none
          | none => none
        | none => none) (some []) with
      | some ks => if P.cellsOf t = ks.length then some ks else none
      | none => none
    | _ => none

/-- Such an abstract value. -/
inductive CKA : CK → AV → Prop
  | int {k : IntKind} {z : Int} (h : (Lit.int k z).wf = true) : CKA (.int k) (.lit (.int k z))
  | bool {b : Bool} : CKA .bool (.lit (.bool b))
  | sl {ks : List CK} {n : Nat} {f : Nat → List AV} (hn : n ≤ maxLen) (hl : ∀ i, i < n → (f i).length = ks.length) (h : ∀ i j k, i < n → ks[j]? = some k → CKA k ((f i).getD j .any)) : CKA (.sl ks) (.rsl n ks.length f)

def CellIs (W : World) (k : CK) (v : Value) : Prop := ∃ av, CKA k av ∧ VRel (st0 W) av v
def CellsOk (W : World) (ks : List CK) (cs : List Value) : Prop := cs.length = ks.length ∧ ∀ (i : Nat) (k : CK) (v : Value), ks[i]? = some k → cs[i]? = some v → CellIs W k v

theorem CellsOk.append {W : World} {ks ls : List CK} {cs ds : List Value} (h : CellsOk W ks cs) (h' : CellsOk W ls ds) : CellsOk W (ks ++ ls) (cs ++ ds) := by
  refine ⟨by simp [h.1, h'.1], fun i k v hk hv => ?_⟩
  by_cases hi : i < ks.length
  · rw [List.getElem?_append_left hi] at hk
    rw [List.getElem?_append_left (by rw [h.1]; exact hi)] at hv
    exact h.2 i k v hk hv
  · rw [List.getElem?_append_right (by omega)] at hk
    rw [List.getElem?_append_right (by rw [h.1]; omega), h.1] at hv
    exact h'.2 _ k v hk hv

theorem trod_cells {H : Type} {enc : TypeId × Value → H} {P : Program} {W : World} {held : Bool} {sp : Nat → Bool} :
    ∀ (d fuel : Nat) (t : TypeId) (cs : List Value) (x : DataW H × List MemPlace) (ks : List CK), cellsT P d t = some ks → DataW.trod enc P W 0 sp held fuel t cs = some x → CellsOk W ks cs := by
  intro d
  induction d with
  | zero => intro fuel t cs x ks hg; cases hg
  | succ d ih =>
    intro fuel t cs x ks hg h
    cases fuel with
    | zero => cases h
    | succ fuel =>
      unfold cellsT at hg
      unfold DataW.trod at h
      cases hu : P.underlying t with
      | none => rw [hu] at hg; cases hg
      | some td =>
        rw [hu] at hg h
        cases td <;> simp only at hg <;> try (cases hg; done)
        case bool =>
          cases hg
          split at h <;> simp_all
          rename_i b
          exact ⟨rfl, fun i k v hk hv => by cases i <;> simp at hk hv; subst hk hv; exact ⟨_, .bool, .lit _⟩⟩
        case int k =>
          cases hg
          split at h <;> simp_all
          rename_i n hh
          exact ⟨rfl, fun i k v hk hv => by cases i <;> simp at hk hv; subst hk hv; exact ⟨_, .int h.1.2, .lit _⟩⟩
        case array n e =>
          cases hke : cellsT P d e with
          | none => rw [hke] at hg; cases hg
          | some lk =>
            rw [hke] at hg
            simp only at hg
            by_cases hc : P.cellsOf e = lk.length ∧ P.cellsOf t = n * lk.length
            case neg => rw [if_neg hc] at hg; cases hg
            rw [if_pos hc] at hg
            cases hg
            split at h <;> try (simp_all; done)
            case _ n' e' heq =>
              simp only [Option.some.injEq, TypeDesc.array.injEq] at heq
              obtain ⟨rfl, rfl⟩ := heq
              split at h
              case isFalse hl => cases h
              case isTrue hl =>
                rw [Option.map_eq_some_iff] at h
                obtain ⟨ys, hy, rfl⟩ := h
                have key : ∀ (c : List Value), (∀ i, i < n → ∃ y, DataW.trod enc P W 0 sp held fuel e ((c.drop (i * P.cellsOf e)).take (P.cellsOf e)) = some y) → ∀ m, m ≤ n → CellsOk W (List.replicate m lk).flatten (c.take (m * lk.length)) := by
                  intro c hcy m
                  induction m with
                  | zero => intro _; exact ⟨by simp, fun i k v hk => by simp at hk⟩
                  | succ m ihm =>
                    intro hm
                    have h0 := ihm (by omega)
                    obtain ⟨y, h2⟩ := hcy m (by omega)
                    have h3 := ih fuel e _ y lk hke h2
                    rw [hc.1] at h3
                    have := h0.append h3
                    rw [List.replicate_succ', List.flatten_append, Nat.succ_mul, List.take_add]
                    simpa using this
                have := key _ (fun i hi => by
                  obtain ⟨y, _, h2⟩ := (mapM_get _ _ hy).2 i i (by simp [hi])
                  exact ⟨y, h2⟩) n (Nat.le_refl _)
                rw [List.take_of_length_le (by rw [hl, hc.2]; exact Nat.le_refl _)] at this
                exact this
        case slice e =>
          cases hke : cellsT P d e with
          | none => rw [hke] at hg; cases hg
          | some lk =>
            rw [hke] at hg
            simp only at hg
            by_cases hc : P.cellsOf e = lk.length ∧ 0 < lk.length
            case neg => rw [if_neg hc] at hg; cases hg
            rw [if_pos hc] at hg
            cases hg
            obtain ⟨hsz, hpos⟩ := hc
            split at h <;> try (simp_all; done)
            · rename_i heq
              refine ⟨rfl, fun i k v hk hv => ?_⟩
              cases i <;> simp at hk hv
              subst hk hv
              exact ⟨.rsl 0 lk.length fun _ => [], .sl (Nat.zero_le _) (fun i hi => by omega) (fun i j k hi => by omega), .rsl0⟩
            · rename_i e' a len cap heq
              simp only [Option.some.injEq, TypeDesc.slice.injEq] at heq
              subst heq
              simp only at h
              split at h
              case isFalse hl => cases h
              case isTrue hl =>
                rw [Option.bind_eq_some_iff] at h
                obtain ⟨es, he, -⟩ := h
                let g : Nat → List Value := fun i => match W.cells? 0 (a.add (i * P.cellsOf e)) (P.cellsOf e) with
                  | some c => c
                  | none => []
                have hel : ∀ i, i < len → W.cells? 0 (a.add (i * P.cellsOf e)) (P.cellsOf e) = some (g i) ∧ CellsOk W lk (g i) := by
                  intro i hi
                  obtain ⟨y, _, hy⟩ := (mapM_get _ _ he).2 i i (by simp [hi])
                  rw [Option.bind_eq_some_iff] at hy
                  obtain ⟨c, h1, h2⟩ := hy
                  have : g i = c := by simp only [g, h1]
                  rw [this]
                  exact ⟨h1, ih fuel e c y lk hke h2⟩
                -- the abstract cells
                have hch : ∀ i j, ∃ av, i < len → j < lk.length → ∃ k v, lk[j]? = some k ∧ (g i)[j]? = some v ∧ CKA k av ∧ VRel (st0 W) av v := by
                  intro i j
                  by_cases hi : i < len
                  · by_cases hj : j < lk.length
                    · obtain ⟨l1, l2⟩ := (hel i hi).2
                      obtain ⟨av, c1, c2⟩ := l2 j lk[j] (g i)[j] (List.getElem?_eq_getElem hj) (List.getElem?_eq_getElem (by omega))
                      exact ⟨av, fun _ _ => ⟨_, _, List.getElem?_eq_getElem hj, List.getElem?_eq_getElem (by omega), c1, c2⟩⟩
                    · exact ⟨.any, fun _ x => absurd x hj⟩
                  · exact ⟨.any, fun x => absurd x hi⟩
                have hf := fun i => Classical.axiomOfChoice (hch i)
                obtain ⟨F, hF⟩ := Classical.axiomOfChoice hf
                have hget : ∀ i j, j < lk.length → ((List.range lk.length).map (F i)).getD j .any = F i j := fun i j hj => by
                  rw [List.getD_eq_getElem?_getD, List.getElem?_map, List.getElem?_range hj]; rfl
                refine ⟨rfl, fun i k v hk hv => ?_⟩
                cases i <;> simp at hk hv
                subst hk hv
                refine ⟨.rsl len lk.length fun i => (List.range lk.length).map (F i), .sl (Nat.le_trans hl.2.1 hl.2.2) (fun i hi => by simp) (fun i j k hi hk => ?_), ?_⟩
                · have hj := (List.getElem?_eq_some_iff.1 hk).1
                  rw [hget i j hj]
                  obtain ⟨k', v, h1, h2, h3, h4⟩ := hF i j hi hj
                  rw [hk] at h1; cases h1
                  exact h3
                by_cases h0 : len = 0
                · subst h0; exact .rsl0
                have hcell : ∀ i j, i < len → j < lk.length → ∃ u, (g i)[j]? = some u ∧ W.cell? ((a.add (i * P.cellsOf e)).add j) = some u := by
                  intro i j hi hj
                  have h1 := (hel i hi).1
                  unfold World.cells? at h1
                  rw [if_pos (Nat.zero_le _)] at h1
                  exact (mapM_get _ _ h1).2 j j (by simp [hsz, hj])
                obtain ⟨b, off, spot⟩ := a
                obtain ⟨u0, _, hc0⟩ := hcell 0 0 (by omega) hpos
                rw [show ((⟨b, off, spot⟩ : Addr).add (0 * P.cellsOf e)).add 0 = ⟨b, off, spot⟩ from by simp [Addr.add]] at hc0
                unfold World.cell? at hc0
                split at hc0
                case h_2 => cases hc0
                case h_1 c ct fz hb =>
                  have hspot : spot = none := by
                    cases spot with
                    | none => rfl
                    | some s => simp at hc0
                  subst hspot
                  have hadd : ∀ i j, (((⟨b, off, none⟩ : Addr).add (i * P.cellsOf e)).add j) = ⟨b, off + i * P.cellsOf e + j, none⟩ := fun i j => by rw [addr_add, addr_add]
                  have hall : ∀ i j, i < len → j < lk.length → ∃ u, (g i)[j]? = some u ∧ c[off + i * lk.length + j]? = some u := by
                    intro i j hi hj
                    obtain ⟨u, h1, h2⟩ := hcell i j hi hj
                    rw [hadd] at h2
                    unfold World.cell? at h2
                    simp only at hb
                    rw [show W.heap[(⟨b, off + i * P.cellsOf e + j, none⟩ : Addr).block]? = some (.cells c ct fz) from hb] at h2
                    simp only [Option.isSome_none, Bool.false_eq_true, if_false, hsz] at h2
                    exact ⟨u, h1, h2⟩
                  refine .rsl (c := c) (e := ct) (fz := fz) ?_ hb ?_ (fun i hi => by simp) (fun i j hi hj => ?_) hl.2.1
                  · exact (Array.getElem?_eq_some_iff.1 hb).1
                  · obtain ⟨u, _, h2⟩ := hall (len - 1) (lk.length - 1) (by omega) (by omega)
                    have := (Array.getElem?_eq_some_iff.1 h2).1
                    have e1 : len * lk.length = (len - 1) * lk.length + lk.length := by
                      obtain ⟨q, rfl⟩ : ∃ q, len = q + 1 := ⟨len - 1, by omega⟩
                      rw [Nat.add_sub_cancel, Nat.succ_mul]
                    omega
                  · obtain ⟨u, h1, h2⟩ := hall i j hi hj
                    obtain ⟨k', v, q1, q2, q3, q4⟩ := hF i j hi hj
                    rw [h1] at q2; cases q2
                    rw [hget i j hj, Array.getD_eq_getD_getElem?, h2]
                    exact q4
        case struct fs =>
          split at h <;> try (simp_all; done)
          case _ fs' heq =>
            simp only [Option.some.injEq, TypeDesc.struct.injEq] at heq
            subst heq
            split at h
            case isFalse hl => cases h
            case isTrue hl =>
              rw [Option.map_eq_some_iff] at h
              obtain ⟨ys, hy, rfl⟩ := h
              have key : ∀ (c : List Value) (l : List Field) (acc ks : List CK), (∀ f ∈ l, ∃ y, DataW.trod enc P W 0 sp held fuel f.type ((c.drop f.offset).take (P.cellsOf f.type)) = some y) → CellsOk W acc (c.take acc.length) →
                  l.foldl (fun acc f => match acc with
                    | some ks => match cellsT P d f.type with
                      | some l => if f.offset = ks.length ∧ P.cellsOf f.type = l.length then some (ks ++ l) else none
                      | none => none
                    | none => none) (some acc) = some ks → CellsOk W ks (c.take ks.length) := by
                intro c l
                induction l with
                | nil => intro acc ks _ ha he; simp at he; subst he; exact ha
                | cons f l ih2 =>
                  intro acc ks hf ha he
                  simp only [List.foldl_cons] at he
                  have hnone : ∀ l : List Field, l.foldl (fun acc f => match acc with
                    | some ks => match cellsT P d f.type with
                      | some l => if f.offset = ks.length ∧ P.cellsOf f.type = l.length then some (ks ++ l) else none
                      | none => none
                    | none => none) none = (none : Option (List CK)) := by
                    intro l; induction l with
                    | nil => rfl
                    | cons a l ih => simpa using ih
                  cases hl2 : cellsT P d f.type with
                  | none => rw [hl2] at he; simp only at he; rw [hnone] at he; cases he
                  | some lk =>
                    rw [hl2] at he
                    simp only at he
                    by_cases hc : f.offset = acc.length ∧ P.cellsOf f.type = lk.length
                    · rw [if_pos hc] at he
                      obtain ⟨y, hy⟩ := hf f (by simp)
                      have := ih fuel f.type _ y lk hl2 hy
                      rw [hc.1, hc.2] at this
                      have hap := ha.append this
                      refine ih2 (acc ++ lk) ks (fun g hg => hf g (by simp [hg])) ?_ he
                      rw [List.length_append, List.take_add]
                      exact hap
                    · rw [if_neg hc, hnone] at he; cases he
              split at hg
              case h_2 => cases hg
              case h_1 ks' he =>
                split at hg
                case isFalse => cases hg
                case isTrue hc =>
                  cases hg
                  have := key _ fs.toList [] ks (fun f hf => by
                    obtain ⟨i, hi⟩ := List.getElem?_of_mem hf
                    obtain ⟨y, _, h2⟩ := (mapM_get _ _ hy).2 i f hi
                    exact ⟨y, h2⟩) ⟨by simp, fun i k v hk => by simp at hk⟩ he
                  rw [List.take_of_length_le (by rw [hl, hc]; exact Nat.le_refl _)] at this
                  exact this

end Go.V
end
section
set_option linter.unusedVariables false
set_option linter.unusedSimpArgs false
namespace Go.V
set_option linter.unusedSectionVars false
variable [Inhabited GivT]
open Go.ChangeShapes
theorem AV.Le.rslD {n st : Nat} {f g : Nat → List AV} (h : ∀ i, i < n → (g i).length = st ∧ ∀ j, j < st → AV.Le ((f i).getD j .any) ((g i).getD j .any)) : AV.Le (.rsl n st f) (.rsl n st g) := by
  intro S v hv
  cases hv with
  | rsl0 => exact .rsl0
  | rsl hi hb hsz hf hh hcap => exact .rsl hi hb hsz (fun i hi => (h i hi).1) (fun i j hi hj => (h i hi).2 j hj _ _ (hh i j hi hj)) hcap
theorem AV.Le.aggD {cs ds : List AV} (hl : ds.length = cs.length) (h : ∀ j, j < cs.length → AV.Le (cs.getD j .any) (ds.getD j .any)) : AV.Le (.agg cs) (.agg ds) := by
  intro S v hv
  cases hv with
  | agg hn hh => exact .agg (hn.trans hl.symm) fun k hk => h k (by omega) _ _ (hh k (by omega))

/-- Cells that are told. -/
def Told (ks : List CK) (cs : List AV) : Prop := cs.length = ks.length ∧ ∀ j k, ks[j]? = some k → CKA k (cs.getD j .any)

/-- A struct that is handed in. -/
theorem trod_agg {H : Type} {enc : TypeId × Value → H} {P : Program} {W : World} {held : Bool} {sp : Nat → Bool} {t dd : Nat} {v : Value} {d : DataW H} {ps : List MemPlace} {ks : List CK}
    (hk : cellsT P dd t = some ks) (hn : 2 ≤ ks.length) (h : DataW.Trod enc P W 0 sp held t v d ps) : ∃ cs : List AV, Told ks cs ∧ VRel (st0 W) (.agg cs) v := by
  obtain ⟨fuel, h⟩ := h
  obtain ⟨hl, hz⟩ := trod_cells dd fuel t _ _ ks hk h
  cases v with
  | agg vs =>
    simp only [Value.cells] at hl hz
    have hl2 : vs.size = ks.length := by simpa using hl
    have hch : ∀ j : Nat, ∃ av : AV, ∀ (k : CK) (u : Value), ks[j]? = some k → vs[j]? = some u → CKA k av ∧ VRel (st0 W) av u := fun j => by
      cases hkj : ks[j]? with
      | none => exact ⟨.any, fun k u h => by cases h⟩
      | some k =>
        cases hvj : vs[j]? with
        | none => exact ⟨.any, fun k u _ h => by cases h⟩
        | some u =>
          obtain ⟨av, h1, h2⟩ := hz j k u hkj (by simpa using hvj)
          exact ⟨av, fun k' u' e1 e2 => by cases e1; cases e2; exact ⟨h1, h2⟩⟩
    obtain ⟨F, hF⟩ := Classical.axiomOfChoice hch
    have hget : ∀ j, j < ks.length → ((List.range ks.length).map F).getD j .any = F j := fun j hj => by
      rw [List.getD_eq_getElem?_getD, List.getElem?_map, List.getElem?_range hj]; rfl
    refine ⟨(List.range ks.length).map F, ⟨by simp, fun j k hk => ?_⟩, .agg (by simpa using hl2) fun j hj => ?_⟩
    · have hj := (List.getElem?_eq_some_iff.1 hk).1
      rw [hget j hj]
      exact (hF j k vs[j] hk (by simp [show j < vs.size by omega])).1
    · have hj : j < ks.length := by simpa using hj
      rw [hget j hj, Array.getD_eq_getD_getElem?, Array.getElem?_eq_getElem (by omega)]
      exact (hF j ks[j] vs[j] (List.getElem?_eq_getElem hj) (by simp [show j < vs.size by omega])).2
  | _ => simp [Value.cells] at hl; omega
/-- A slice of what can be told. -/
theorem told_slice {α : Type} {ks : List CK} (en : α → List AV) (d0 : α) (hd : ∀ cs, Told ks cs → ∃ x : α, (en x).length = ks.length ∧ ∀ j, j < ks.length → AV.Le (cs.getD j .any) ((en x).getD j .any)) {av : AV} (h : CKA (.sl ks) av) :
    ∃ l : List α, l.length ≤ maxLen ∧ AV.Le av (.rsl l.length ks.length fun i => en (l.getD i d0)) := by
  cases h with
  | @sl _ n f hn hl hh =>
    have hch : ∀ i, ∃ x : α, i < n → (en x).length = ks.length ∧ ∀ j, j < ks.length → AV.Le ((f i).getD j .any) ((en x).getD j .any) := fun i => by
      by_cases hi : i < n
      · obtain ⟨x, h1⟩ := hd (f i) ⟨hl i hi, fun j k hk => hh i j k hi hk⟩
        exact ⟨x, fun _ => h1⟩
      · exact ⟨d0, fun x => absurd x hi⟩
    obtain ⟨F, hF⟩ := Classical.axiomOfChoice hch
    refine ⟨(List.range n).map F, by simpa using hn, ?_⟩
    rw [List.length_map, List.length_range]
    refine AV.Le.rslD fun i hi => ?_
    have e : ((List.range n).map F).getD i d0 = F i := by
      rw [List.getD_eq_getElem?_getD, List.getElem?_map, List.getElem?_range hi]; rfl
    rw [e]
    exact hF i hi
theorem told_int {cs : List AV} {k : IntKind} (j : Nat) {ks : List CK} (h : Told ks cs) (hk : ks[j]? = some (.int k)) : ∃ z : Int, cs.getD j .any = .lit (.int k z) ∧ (Lit.int k z).wf = true := by
  have := h.2 j _ hk
  generalize cs.getD j .any = x at *
  cases this with
  | int hw => exact ⟨_, rfl, hw⟩
end Go.V
end
section
set_option linter.unusedVariables false
set_option linter.unusedSimpArgs false
set_option maxHeartbeats 4000000
set_option maxRecDepth 100000
namespace Go.Proofs.Ytliomkpmadpibaa
open Go.V
/-- Too large to be looked at. -/
def farB (p : Pt) (n : Nat) : Bool := decide ((40 : Int) < max (max (p.fs.length : Int) (p.ps.length : Int)) (n : Int))
theorem far_near {p : Pt} {n : Nat} (h : farB p n = false) : Near p ∧ n ≤ 40 := by
  have := of_decide_eq_false h
  exact ⟨⟨by omega, by omega⟩, by omega⟩
theorem far0_tri (p : Pt) (H : Hp) : PTri Try.prog (fnA 13) [p.av, nilA] H (boo (farB p 0)) := by
  refine tri_v0 (fun _ => false) Try.func13 (by kernel_rfl) rfl (by simp only [List.length_append, List.length_cons, List.length_nil, Try.ntmps13]; decide) ?_
  simp only [vsAll, binA, binLitA, intA, loadA, loadRow, partA, partOk, fieldAddrA, lenA, boxA, boxZ, mmA, okAll, stAll, opsA, opA, dstOk, nilA, nilSliceOp, resA, argFr, retA.eq_1, Nat.reduceAdd, Nat.reduceLT, Nat.reduceEqDiff, ↓reduceIte, eq_self, wtAll, Try.ntmps13, Try.results13]
  rfl
def fineB (p : Pt) : Bool := !farB p 0 && decide (Ok p)
theorem fine_ok {p : Pt} (h : fineB p = true) : Ok p ∧ Near p := by
  unfold fineB at h
  rw [Bool.and_eq_true, Bool.not_eq_true', decide_eq_true_eq] at h
  exact ⟨h.2, (far_near h.1).1⟩
theorem fine_tri (p : Pt) (H : Hp) : PTri Try.prog (fnA 33) [p.av] H (boo (fineB p)) := by
  refine tri_v0 (fun _ => false) Try.func33 (by kernel_rfl) rfl (by simp only [List.length_append, List.length_cons, List.length_nil, Try.ntmps33]; decide) ?_
  simp only [vsAll, loadA, loadRow, partA, partOk, boxA, boxZ, okAll, stAll, opsA, opA, dstOk, nilSliceOp, argFr, Nat.reduceAdd, Nat.reduceLT, Nat.reduceEqDiff, ↓reduceIte, eq_self, wtAll, Try.ntmps33]
  refine callK_pure (far0_tri p _) ?_
  simp only [vsAll, unA, loadA, loadRow, partA, partOk, opA, guardV, dstOk, Nat.reduceLT, Nat.reduceEqDiff, ↓reduceIte, implies_true, eq_self, wtAll]
  refine gcall (boo (decide (Ok p))) (fun hg => ⟨by simp only [vsAll, opA], by simp only [vsAll, okAll, opsA, opA, ↓reduceIte, eq_self, hg], rpitch_tri p _ (far_near (by simpa using hg)).1⟩) ?_
  simp only [vsAll, pickA, opA, dstOk, nilSliceOp, resA, retA.eq_1, Nat.reduceLT, Nat.reduceEqDiff, ↓reduceIte, implies_true, eq_self, Try.results33]
  exact congrArg (fun b => Res.ret (boo b)) (by unfold fineB; cases farB p 0 <;> rfl)
def hevB (p : Pt) (most : Int) : Bool := if farB p 0 = true then true else if Ok p then decide (most < ((max 1 (p.fs.length * p.H)) ^ p.ps.length : Nat)) else false
theorem ret_le {P : Program} {fv : AV} {args : List AV} {H : Hp} {v v' : AV} (h : PTri P fv args H v) (hle : AV.Le v v') : PTri P fv args H v' := by
  intro S vf vs hH hvf ha
  obtain ⟨nx, h1, h2⟩ := h S vf vs hH hvf ha
  have ho : ∀ e w, Out S (fun r H' => r = .ret v ∧ H' = H) e w → Out S (fun r H' => r = .ret v' ∧ H' = H) e w := by
    rintro e w ⟨S', r, H', hw, hl, hH', hrr, rfl, rfl⟩
    refine ⟨S', .ret v', H', hw, hl, hH', ?_, rfl, rfl⟩
    cases e with
    | returned cv => exact hle S' cv hrr
    | panicked ch => exact hrr.elim
    | outgrown => exact hrr.elim
  refine ⟨nx, h1, ?_⟩
  cases nx <;> simp only [NextOk] at h2 ⊢
  · exact Calls.mono h2 ho
  · exact h2.mono ho
abbrev smR : AV := .rsl 8 2 fun i => [[i64 5, i64 6], [i64 4, i64 5], [i64 6, i64 6], [i64 3, i64 4], [i64 5, i64 5], [i64 5, i64 6], [i64 2, i64 3], [i64 6, i64 6]].getD i []
def smP (by_ : Int) : Pt := ⟨8, 1, 16, [4, 0], [⟨4, 0, 8⟩, ⟨6, 0, by_⟩]⟩
theorem sample_tri (n : Int) (H : Hp) : PTri Try.prog (fnA 44) [i64 n] H (smP n).av := by
  refine ret_le (v := .agg [i64 8, i64 1, i64 16, .rsl 2 1 (fun i => [[i64 4], [i64 0]].getD i []), .rsl 2 3 (fun i => [[i64 4, i64 0, i64 8], [i64 6, i64 0, i64 n]].getD i [])]) ?_ ?_
  · refine Tri.drop ?_
    refine tri_v0 (fun _ => false) Try.func44 (by kernel_rfl) rfl (by simp only [List.length_append, List.length_cons, List.length_nil, Try.ntmps44]; decide) ?_
    simp only [vsAll, loadA, loadRow, partA, partOk, cellA, cellsA, fillA, okParts, buildSliceA, partIdx, elemsA, lensA, partsA, partsOk, opA, allocA, newCells, okCells, storeObj, dstOk, resA, argFr, retA.eq_1, Nat.reduceAdd, Nat.reduceMul, Nat.reduceLT, Nat.reduceLeDiff, Nat.reduceEqDiff, ↓reduceIte, reduceCtorEq, eq_self, wtAll, Try.ntmps44, Try.results44]
    intro i2 hh_i2; (try simp only [Hp.set_none, ite_none] at hh_i2)
    exact dropR_pure rfl (by (repeat (first | exact HSub_rfl | refine HSub_put_eq (by simp only [vsAll, binA, binLitA, intA, aggA, aggV, boolA, nilA2, isConst, unA, loadA, loadRow, partA, partOk, fieldAddrA, indexAddrA, indexA, fieldA, extractA, lenA, nilCheckA, boxA, boxZ, cellA, cellsA, fillA, okParts, buildSliceA, buildMutA, makeSliceA, partIdx, elemsA, lensA, ifaceA, convA, mmA, pickA, okAll, stAll, opsA, partsA, partsOk, opA, allocA, boxMutA, newCells, okCells, storeObj, appendA, guardV, taA, nM, mapUpA, lookA, sliceA, sliceS, boundsA, opO, okO, copyA, dstOk, nilA, quietOk, nilSliceOp, deferV, panA, resA, argFr, retA.eq_1, retA.eq_2, Nat.reduceAdd, Nat.reduceSub, Nat.reduceMul, Nat.reduceLT, Nat.reduceLeDiff, Nat.reduceEqDiff, Nat.reduceBEq, Int.reduceAdd, Int.reduceSub, Int.reduceMul, Int.reduceNeg, Int.reduceLE, Int.reduceLT, Int.reduceEq, Int.reduceNe, Int.reduceToNat, ↓reduceIte, reduceCtorEq, implies_true, forall_const, eq_self, ne_eq, arrL, wtAll, Try.ntmps44, Try.results44, hh_i2]) ?_ | refine HSub_drop2 (by simp only [eq_self, hh_i2]) ?_ | refine HSub_keep_eq (by simp only [vsAll, binA, binLitA, intA, aggA, aggV, boolA, nilA2, isConst, unA, loadA, loadRow, partA, partOk, fieldAddrA, indexAddrA, indexA, fieldA, extractA, lenA, nilCheckA, boxA, boxZ, cellA, cellsA, fillA, okParts, buildSliceA, buildMutA, makeSliceA, partIdx, elemsA, lensA, ifaceA, convA, mmA, pickA, okAll, stAll, opsA, partsA, partsOk, opA, allocA, boxMutA, newCells, okCells, storeObj, appendA, guardV, taA, nM, mapUpA, lookA, sliceA, sliceS, boundsA, opO, okO, copyA, dstOk, nilA, quietOk, nilSliceOp, deferV, panA, resA, argFr, retA.eq_1, retA.eq_2, Nat.reduceAdd, Nat.reduceSub, Nat.reduceMul, Nat.reduceLT, Nat.reduceLeDiff, Nat.reduceEqDiff, Nat.reduceBEq, Int.reduceAdd, Int.reduceSub, Int.reduceMul, Int.reduceNeg, Int.reduceLE, Int.reduceLT, Int.reduceEq, Int.reduceNe, Int.reduceToNat, ↓reduceIte, reduceCtorEq, implies_true, forall_const, eq_self, ne_eq, arrL, wtAll, Try.ntmps44, Try.results44, hh_i2]) ?_)))
  · refine AV.Le.aggD rfl fun j hj => ?_
    match j, hj with
    | 0, _ => exact AV.Le.refl _
    | 1, _ => exact AV.Le.refl _
    | 2, _ => exact AV.Le.refl _
    | 3, _ =>
      refine AV.Le.rsl fun i hi => ?_
      match i, hi with
      | 0, _ => rfl
      | 1, _ => rfl
    | 4, _ =>
      refine AV.Le.rsl fun i hi => ?_
      match i, hi with
      | 0, _ => rfl
      | 1, _ => rfl
theorem span_tri (a b : Int) (H : Hp) : PTri Try.prog (fnA 45) [i64 a, i64 b] H (.agg [i64 a, i64 b]) := by
  refine Tri.drop ?_
  refine tri_v0 (fun _ => false) Try.func45 (by kernel_rfl) rfl (by simp only [List.length_append, List.length_cons, List.length_nil, Try.ntmps45]; decide) ?_
  simp only [vsAll, loadA, loadRow, partA, partOk, cellA, cellsA, fillA, okParts, partsA, partsOk, opA, allocA, newCells, okCells, storeObj, dstOk, resA, argFr, retA.eq_1, Nat.reduceAdd, Nat.reduceLT, Nat.reduceLeDiff, Nat.reduceEqDiff, ↓reduceIte, reduceCtorEq, eq_self, wtAll, Try.ntmps45, Try.results45]
  intro i4 hh_i4; (try simp only [Hp.set_none, ite_none] at hh_i4)
  refine dropR_pure ?_ (by (repeat (first | exact HSub_rfl | refine HSub_put_eq (by simp only [vsAll, binA, binLitA, intA, aggA, aggV, boolA, nilA2, isConst, unA, loadA, loadRow, partA, partOk, fieldAddrA, indexAddrA, indexA, fieldA, extractA, lenA, nilCheckA, boxA, boxZ, cellA, cellsA, fillA, okParts, buildSliceA, buildMutA, makeSliceA, partIdx, elemsA, lensA, ifaceA, convA, mmA, pickA, okAll, stAll, opsA, partsA, partsOk, opA, allocA, boxMutA, newCells, okCells, storeObj, appendA, guardV, taA, nM, mapUpA, lookA, sliceA, sliceS, boundsA, opO, okO, copyA, dstOk, nilA, quietOk, nilSliceOp, deferV, panA, resA, argFr, retA.eq_1, retA.eq_2, Nat.reduceAdd, Nat.reduceSub, Nat.reduceMul, Nat.reduceLT, Nat.reduceLeDiff, Nat.reduceEqDiff, Nat.reduceBEq, Int.reduceAdd, Int.reduceSub, Int.reduceMul, Int.reduceNeg, Int.reduceLE, Int.reduceLT, Int.reduceEq, Int.reduceNe, Int.reduceToNat, ↓reduceIte, reduceCtorEq, implies_true, forall_const, eq_self, ne_eq, arrL, wtAll, Try.ntmps45, Try.results45, hh_i4]) ?_ | refine HSub_drop2 (by simp only [eq_self, hh_i4]) ?_ | refine HSub_keep_eq (by simp only [vsAll, binA, binLitA, intA, aggA, aggV, boolA, nilA2, isConst, unA, loadA, loadRow, partA, partOk, fieldAddrA, indexAddrA, indexA, fieldA, extractA, lenA, nilCheckA, boxA, boxZ, cellA, cellsA, fillA, okParts, buildSliceA, buildMutA, makeSliceA, partIdx, elemsA, lensA, ifaceA, convA, mmA, pickA, okAll, stAll, opsA, partsA, partsOk, opA, allocA, boxMutA, newCells, okCells, storeObj, appendA, guardV, taA, nM, mapUpA, lookA, sliceA, sliceS, boundsA, opO, okO, copyA, dstOk, nilA, quietOk, nilSliceOp, deferV, panA, resA, argFr, retA.eq_1, retA.eq_2, Nat.reduceAdd, Nat.reduceSub, Nat.reduceMul, Nat.reduceLT, Nat.reduceLeDiff, Nat.reduceEqDiff, Nat.reduceBEq, Int.reduceAdd, Int.reduceSub, Int.reduceMul, Int.reduceNeg, Int.reduceLE, Int.reduceLT, Int.reduceEq, Int.reduceNe, Int.reduceToNat, ↓reduceIte, reduceCtorEq, implies_true, forall_const, eq_self, ne_eq, arrL, wtAll, Try.ntmps45, Try.results45, hh_i4]) ?_)))
  rfl
theorem sm_ok : Ok (smP 8) ∧ Ok (smP 3) := by decide +kernel
theorem sm1 : hotS (smP 8) 0 3 = (5, 6) := by decide +kernel
theorem sm2 : hotE (smP 8) 0 3 = 0 := by decide +kernel
theorem sm3 : ((stV (smP 8) 1 0 : Nat) : Int) = 56 := by decide +kernel
theorem sm4 : stE (smP 8) 1 0 = 0 := by decide +kernel
theorem sm5 : ((checkW (smP 8) [(1, 0), (1, 2)] : Nat) : Int) = 1 := by decide +kernel
theorem sm6 : checkR (smP 8) [(1, 0), (1, 2)] = 4 := by decide +kernel
theorem sm7 : checkE (smP 8) [(1, 0), (1, 2)] = 0 := by decide +kernel
theorem sm8 : ((cntV (smP 8) : Nat) : Int) = 60 := by decide +kernel
theorem sm9 : cntE (smP 8) = 0 := by decide +kernel
theorem sm10 : bestV (smP 8) = 6 := by decide +kernel
theorem sm11 : bestP (smP 8) = [(0, 3), (1, 0)] := by decide +kernel
theorem sm12 : rgtE (smP 8) true = 0 := by decide +kernel
theorem sm13 : latV (smP 8) 1 = 5 := by decide +kernel
theorem sm14 : latE (smP 8) 1 = 0 := by decide +kernel
theorem sm15 : ((fewN (smP 8) : Nat) : Int) = 2 := by decide +kernel
theorem sm16 : ((clV (smP 3) : Nat) : Int) = 2 := by decide +kernel
theorem sm17 : clE (smP 3) = 0 := by decide +kernel
theorem sm18 : bestA (smP 8) = plsAV [(0, 3), (1, 0)] := by rw [bestA, if_pos sm12, sm11]
theorem eq_sp : eqT Try.prog 30 2 := eqT_of (by kernel_rfl) (by kernel_rfl) (by kernel_rfl) (by kernel_rfl) (by kernel_rfl)
theorem two_le (a b c d : Int) : AV.Le (.rsl 2 2 (fun i => [[i64 a, i64 b], [i64 c, i64 d]].getD i [])) (plsAV [(a, b), (c, d)]) := AV.Le.rsl fun i hi => by
  match i, hi with
  | 0, _ => rfl
  | 1, _ => rfl
theorem awake_tri (H : Hp) : PTri Try.prog (fnA 14) [] H (boo true) := by
  have k8 := sm_ok.1
  have k3 := sm_ok.2
  have n8 : Near (smP 8) := ⟨by decide, by decide⟩
  have n3 : Near (smP 3) := ⟨by decide, by decide⟩
  refine Tri.drop ?_
  refine tri_v0 (fun _ => false) Try.func14 (by kernel_rfl) rfl (by simp only [List.length_append, List.length_nil, Try.ntmps14]; decide) ?_
  simp only [vsAll, okAll, stAll, opsA, opA, dstOk, nilSliceOp, Nat.reduceLT, eq_self, Try.ntmps14]
  refine callK_pure (sample_tri 8 _) ?_
  simp only [vsAll, loadA, loadRow, partA, partOk, cellA, okAll, stAll, opsA, opA, allocA, newCells, okCells, storeObj, dstOk, Nat.reduceAdd, Nat.reduceLT, Nat.reduceEqDiff, ↓reduceIte, eq_self, wtAll]
  intro i1 hh_i1; (try simp only [Hp.set_none, ite_none] at hh_i1)
  refine callK_pure (whot_tri (smP 8) 0 3 _ n8) ?_
  simp only [vsAll, loadA, loadRow, partA, partOk, extractA, cellA, okAll, stAll, opsA, opA, allocA, newCells, okCells, storeObj, dstOk, nilSliceOp, Nat.reduceAdd, Nat.reduceLT, Nat.reduceEqDiff, ↓reduceIte, eq_self, wtAll, sm1, sm2]
  intro i2 hh_i2; (try simp only [ite_none] at hh_i2)
  simp only [vsAll, Nat.reduceLT, ↓reduceIte, eq_self, hh_i2]
  refine callK_pure (wstarts_tri (smP 8) 1 0 _ n8) ?_
  simp only [vsAll, loadA, loadRow, partA, partOk, extractA, cellA, cellsA, fillA, okParts, buildSliceA, partIdx, elemsA, lensA, okAll, stAll, opsA, partsA, partsOk, opA, dstOk, nilSliceOp, Nat.reduceAdd, Nat.reduceMul, Nat.reduceLT, Nat.reduceLeDiff, Nat.reduceEqDiff, ↓reduceIte, eq_self, wtAll, hh_i2, sm3, sm4]
  refine callK_pure (Tri.args (args' := [(smP 8).av, plsAV [(1, 0), (1, 2)]]) (wcheck_tri (smP 8) [(1, 0), (1, 2)] _ n8 (by decide)) rfl fun j hj => ?_) ?_
  · match j, hj with
    | 0, _ => exact AV.Le.refl _
    | 1, _ => exact two_le 1 0 1 2
  simp only [vsAll, loadA, loadRow, partA, partOk, extractA, okAll, stAll, opsA, opA, dstOk, nilSliceOp, Nat.reduceAdd, Nat.reduceLT, Nat.reduceEqDiff, ↓reduceIte, eq_self, wtAll, hh_i2, sm5, sm6, sm7]
  refine callK_pure (wcount_tri (smP 8) _ n8) ?_
  simp only [vsAll, loadA, loadRow, partA, partOk, extractA, okAll, stAll, opsA, opA, dstOk, nilSliceOp, Nat.reduceAdd, Nat.reduceLT, Nat.reduceEqDiff, ↓reduceIte, eq_self, wtAll, hh_i2, sm8, sm9]
  refine callK_pure (wbest_tri (smP 8) _ n8) ?_
  simp only [vsAll, loadA, loadRow, partA, partOk, extractA, okAll, stAll, opsA, opA, dstOk, nilSliceOp, Nat.reduceAdd, Nat.reduceLT, Nat.reduceEqDiff, ↓reduceIte, eq_self, wtAll, hh_i2, sm10, sm12, sm18]
  refine callK_pure (wlatest_tri (smP 8) 1 _ n8) ?_
  simp only [vsAll, loadA, loadRow, partA, partOk, extractA, okAll, stAll, opsA, opA, dstOk, nilSliceOp, Nat.reduceAdd, Nat.reduceLT, Nat.reduceEqDiff, ↓reduceIte, eq_self, wtAll, hh_i2, sm13, sm14]
  refine callK_pure (wfewest_tri (smP 8) _ n8) ?_
  simp only [vsAll, extractA, okAll, stAll, opsA, opA, dstOk, nilSliceOp, Nat.reduceAdd, Nat.reduceLT, Nat.reduceEqDiff, ↓reduceIte, eq_self, sm15, sm12]
  refine callK_pure (sample_tri 3 _) ?_
  simp only [vsAll, okAll, stAll, opsA, opA, dstOk, Nat.reduceLT, ↓reduceIte, eq_self]
  refine callK_pure (wclash_tri (smP 3) _ n3) ?_
  simp only [vsAll, extractA, opA, dstOk, nilSliceOp, Nat.reduceAdd, Nat.reduceLT, Nat.reduceEqDiff, ↓reduceIte, eq_self, sm16, sm17]
  refine vs_draw2 [0, 0, 0, 0, 0, 0, 0, 0, 0, 0, 0, 0, 0, 0, 0, 0, 0, 0, 0, 0, 0, 0, 0, 0, 0, 0, 0, 0, 0, 0, 0, 0, 0, 0, 0] [] [0, 1, 2, 3, 4, 5, 6, 7, 8, 9, 10, 11, 12, 13, 14, 15, 16, 17, 18, 19, 20, 21, 22, 23, 24, 25, 26, 27, 28, 29, 30, 31, 32, 33, 34] (by decide +kernel) ?_
  simp only [vsAll, loadA, loadRow, partA, partOk, opA, dstOk, Nat.reduceLT, Nat.reduceEqDiff, ↓reduceIte, eq_self, wtAll]
  refine qcall _ ⟨trivial, by simp only [vsAll, okAll, opsA, opA], span_tri 5 6 _⟩ ?_
  simp only [vsAll, binA, binLitA, intA, aggA, cellA, cellsA, fillA, okParts, buildSliceA, partIdx, elemsA, lensA, pickA, partsA, partsOk, opA, guardV, dstOk, Nat.reduceAdd, Nat.reduceMul, Nat.reduceLT, Nat.reduceLeDiff, Nat.reduceEqDiff, ↓reduceIte, implies_true, eq_self, wtAll]
  refine ⟨eq_sp, gcall (boo true) (fun hg => ⟨by simp only [vsAll, opA], by simp only [vsAll, okAll, opsA, opA, Nat.reduceEqDiff, ↓reduceIte, eq_self], Tri.args (args' := [plsAV [(0, 3), (1, 0)], plsAV [(0, 3), (1, 0)]]) (rsame_tri [(0, 3), (1, 0)] [(0, 3), (1, 0)] _ (by decide) (by decide)) rfl fun j hj => ?_⟩) ?_⟩
  · match j, hj with
    | 0, _ => exact AV.Le.refl _
    | 1, _ => exact two_le 0 3 1 0
  simp only [vsAll, binA, binLitA, intA, pickA, opA, guardV, dstOk, nilSliceOp, resA, retA.eq_1, Nat.reduceLT, Nat.reduceEqDiff, ↓reduceIte, implies_true, eq_self, Try.results14]
  exact dropR_pure rfl (by (repeat (first | exact HSub_rfl | refine HSub_put_eq (by simp only [vsAll, binA, binLitA, intA, aggA, aggV, boolA, nilA2, isConst, unA, loadA, loadRow, partA, partOk, fieldAddrA, indexAddrA, indexA, fieldA, extractA, lenA, nilCheckA, boxA, boxZ, cellA, cellsA, fillA, okParts, buildSliceA, buildMutA, makeSliceA, partIdx, elemsA, lensA, ifaceA, convA, mmA, pickA, okAll, stAll, opsA, partsA, partsOk, opA, allocA, boxMutA, newCells, okCells, storeObj, appendA, guardV, taA, nM, mapUpA, lookA, sliceA, sliceS, boundsA, opO, okO, copyA, dstOk, nilA, quietOk, nilSliceOp, deferV, panA, resA, argFr, retA.eq_1, retA.eq_2, Nat.reduceAdd, Nat.reduceSub, Nat.reduceMul, Nat.reduceLT, Nat.reduceLeDiff, Nat.reduceEqDiff, Nat.reduceBEq, Int.reduceAdd, Int.reduceSub, Int.reduceMul, Int.reduceNeg, Int.reduceLE, Int.reduceLT, Int.reduceEq, Int.reduceNe, Int.reduceToNat, ↓reduceIte, reduceCtorEq, implies_true, forall_const, eq_self, ne_eq, arrL, wtAll, Try.ntmps14, Try.results14, hh_i1, hh_i2]) ?_ | refine HSub_drop2 (by simp only [eq_self, hh_i1, hh_i2]) ?_ | refine HSub_keep_eq (by simp only [vsAll, binA, binLitA, intA, aggA, aggV, boolA, nilA2, isConst, unA, loadA, loadRow, partA, partOk, fieldAddrA, indexAddrA, indexA, fieldA, extractA, lenA, nilCheckA, boxA, boxZ, cellA, cellsA, fillA, okParts, buildSliceA, buildMutA, makeSliceA, partIdx, elemsA, lensA, ifaceA, convA, mmA, pickA, okAll, stAll, opsA, partsA, partsOk, opA, allocA, boxMutA, newCells, okCells, storeObj, appendA, guardV, taA, nM, mapUpA, lookA, sliceA, sliceS, boundsA, opO, okO, copyA, dstOk, nilA, quietOk, nilSliceOp, deferV, panA, resA, argFr, retA.eq_1, retA.eq_2, Nat.reduceAdd, Nat.reduceSub, Nat.reduceMul, Nat.reduceLT, Nat.reduceLeDiff, Nat.reduceEqDiff, Nat.reduceBEq, Int.reduceAdd, Int.reduceSub, Int.reduceMul, Int.reduceNeg, Int.reduceLE, Int.reduceLT, Int.reduceEq, Int.reduceNe, Int.reduceToNat, ↓reduceIte, reduceCtorEq, implies_true, forall_const, eq_self, ne_eq, arrL, wtAll, Try.ntmps14, Try.results14, hh_i1, hh_i2]) ?_)))
end Go.Proofs.Ytliomkpmadpibaa
end
section
set_option linter.unusedVariables false
namespace Go.Proofs.Ytliomkpmadpibaa
open Go.V
def byF (b : Nat → Int) : Nat → List AV := fun i => [.lit (.int .u8 (b i))]
theorem byF_at (b : Nat → Int) (i : Nat) : byF b i = [.lit (.int .u8 (b i))] := rfl
end Go.Proofs.Ytliomkpmadpibaa
end
section
set_option linter.unusedVariables false
set_option linter.unusedSimpArgs false
set_option maxHeartbeats 4000000
set_option maxRecDepth 100000
namespace Go.Proofs.Ytliomkpmadpibaa
open Go.V
theorem bit_eq (C i : Nat) : decide ((((((C : Int) / 2 ^ i).toNat &&& 1 : Nat) : Int)) = 1) = C.testBit i := by
  have e : (C : Int) / 2 ^ i = ((C / 2 ^ i : Nat) : Int) := by simp
  rw [e, Int.toNat_natCast, Nat.and_one_is_mod, Nat.testBit_eq_decide_div_mod_eq]
  exact decide_eq_decide.2 (by omega)
theorem bit_eq0 (C i : Nat) : decide ((((((C : Int) / 2 ^ i).toNat &&& 1 : Nat) : Int)) = 0) = !C.testBit i := by
  have h := bit_eq C i
  have e : (((C : Int) / 2 ^ i).toNat &&& 1 : Nat) < 2 := by rw [Nat.and_one_is_mod]; omega
  rw [← h, ← decide_not]
  exact decide_eq_decide.2 (by omega)
def woP (p : Pt) (S : Nat) : Pt := { p with fs := wthF p S }
end Go.Proofs.Ytliomkpmadpibaa
end
section
set_option linter.unusedVariables false
set_option linter.unusedSimpArgs false
namespace Go.Proofs.Ytliomkpmadpibaa
open Go.V
def plLt (x y : Int × Int) : Prop := x.1 < y.1 ∨ (x.1 = y.1 ∧ x.2 < y.2)
/-- The first place where two lists differ decides. -/
def lsLt (l m : List (Int × Int)) : Prop := ∃ i, (∀ j, j < i → l.getD j (0, 0) = m.getD j (0, 0)) ∧ plLt (l.getD i (0, 0)) (m.getD i (0, 0))
end Go.Proofs.Ytliomkpmadpibaa
end
section
set_option linter.unusedVariables false
set_option linter.unusedSimpArgs false
set_option maxHeartbeats 4000000
set_option maxRecDepth 100000
namespace Go.Proofs.Ytliomkpmadpibaa
open Go.V
theorem app_pl (l : List (Int × Int)) (x : Int × Int) (g : Nat → List AV) (hg : g 0 = plC x) : appF l.length 1 (plF l) g = plF (l ++ [x]) := app_lF plC (0, 0) l x g hg
structure PlanM (p : Pt) (l : List (Int × Int)) : Prop where
  pl : ∀ x ∈ l, x ∈ places p
  len : l.length ≤ p.ps.length
def madeR (p : Pt) (H : Hp) : Res → Hp → Prop := fun r H' => H' = H ∧ ∃ l, PlanM p l ∧ r = .ret (plsAV l)
theorem made_tri (p : Pt) (N : Nat) (b : Nat → Int) (H : Hp) (k : Ok p) (hN : N < 2 ^ 63) (hb : ∀ i, i < N → 0 ≤ b i ∧ b i ≤ 255) : Tri Try.prog (fnA 34) [p.av, .rsl N 1 (byF b)] H (madeR p H) := by
  have nF := k.nF
  have nP := k.nP
  have eH := k.H_eq
  refine tri_vs (m := mset [5]) Try.func34 (by kernel_rfl) rfl (by simp only [List.length_append, List.length_cons, List.length_nil, Try.ntmps34]; decide) ?_
  simp only [vsAll, binA, binLitA, intA, loadA, loadRow, partA, partOk, fieldAddrA, lenA, boxA, boxZ, pickA, opA, guardV, dstOk, nilSliceOp, argFr, Nat.reduceAdd, Nat.reduceLT, Nat.reduceEqDiff, Nat.reduceBEq, ↓reduceIte, implies_true, eq_self, wtAll, Try.ntmps34]
  refine condV (fun hc => ?_) (fun hc => ?_)
  · simp only [vsAll, opA, dstOk, nilSliceOp, Nat.reduceLT, Nat.reduceBEq, eq_self]
    refine Ent.step (Ent.of [(4, plsAV [])] (by simp only [vsAll, ↓reduceIte, eq_self]; exact AV.Le.nil _ _) HSub_rfl ?_)
    refine Ent.ret ?_
    simp only [vsAll, resA, retA.eq_1, ↓reduceIte, eq_self, Try.results34]
    exact ⟨H, HSub_rfl, rfl, [], ⟨fun x hx => by (cases hx), by simp⟩, rfl⟩
  · simp only [vsAll, dstOk, Nat.reduceLT, Nat.reduceBEq, eq_self]
    simp only [Go.V.nilA, elT26]
    intro il hh_il; (try simp only [Hp.set_none, ite_none] at hh_il)
    simp only [vsAll, loadA, loadRow, partA, partOk, fieldAddrA, lenA, opA, dstOk, Nat.reduceLT, Nat.reduceEqDiff, ↓reduceIte, eq_self, wtAll]
    have hF : 0 < p.fs.length ∧ 0 < p.H := by
      simp only [Bool.or_eq_false_iff, decide_eq_false_iff_not] at hc
      ((try clear hh_il); omega)
    refine vs_loop (σ := Nat × List (Int × Int)) (fun y => y.1 ≤ p.ps.length ∧ y.2.length = y.1 ∧ ∀ x ∈ y.2, x ∈ places p) (fun y => [(1, .rsl N 1 (byF b)), (2, pptr p), (5, .sl il 2 y.1), (19, i64 p.ps.length), (20, i64 y.1)])
      (fun y => H.set il (.row 2 y.1 (plF y.2))) (fun y => p.ps.length - y.1) (0, []) ⟨Nat.zero_le _, rfl, fun x hx => by cases hx⟩ ?_ ?_ fun y hy => ?_
    · simp only [vsAll, argFr, Nat.reduceEqDiff, ↓reduceIte, eq_self, Int.natCast_zero]
    · exact HSub.set HSub_rfl (row_ext fun q hq => absurd hq (Nat.not_lt_zero q))
    · obtain ⟨i, l⟩ := y
      obtain ⟨hi, hll, hl⟩ := hy
      simp only [] at hi hll hl
      simp only [vsAll, binA, binLitA, intA, opA, dstOk, Nat.reduceLT, Nat.reduceEqDiff, ↓reduceIte, eq_self]
      refine condD (fun hd => ?_) (fun hd => ?_)
      · have his : i < p.ps.length := by ((try clear hh_il); omega)
        simp only [vsAll, binA, binLitA, intA, lenA, opA, dstOk, nilSliceOp, Nat.reduceLT, Nat.reduceEqDiff, Nat.reduceBEq, ↓reduceIte, eq_self, wtAll]
        refine condV (fun hc2 => ?_) (fun hc2 => ?_)
        · have hN0 : 0 < N := by
            have := of_decide_eq_true hc2
            ((try clear hh_il); omega)
          simp only [vsAll, binA, binLitA, intA, loadA, loadRow, partA, partOk, indexAddrA, lenA, convA, opA, dstOk, nilSliceOp, Nat.reduceLT, Nat.reduceEqDiff, Nat.reduceBEq, ↓reduceIte, eq_self, ne_eq, wtAll, byF_at]
          have hm0 : 0 ≤ (i : Int).tmod N := Int.tmod_nonneg _ (by ((try clear hh_il); omega))
          have hm1 : (i : Int).tmod N < N := Int.tmod_lt_of_pos _ (by ((try clear hh_il); omega))
          generalize (i : Int).tmod N = r at hm0 hm1 ⊢
          have hbr := hb r.toNat (by ((try clear hh_il); omega))
          generalize b r.toNat = br at hbr ⊢
          refine ⟨by ((try clear hh_il); omega), ⟨hm0, hm1⟩, by ((try clear hh_il); omega), by simp only [InR_i64]; ((try clear hh_il); omega), ?_⟩
          refine vs_draw2 [0, 0, 0, 0, 0, 0, 0, 0, 0, 0, 0, 0, 0, 0, 1, 3] [([0, 1, 2, 3, 4, 5, 6, 7, 8, 9, 10, 11, 12, 13], [], 14), ([], [], 15)] [] (by decide +kernel) ?_
          simp only [vsAll, binA, binLitA, intA, loadA, loadRow, partA, partOk, fieldAddrA, lenA, cellA, cellsA, fillA, okParts, buildSliceA, partIdx, elemsA, lensA, partsA, partsOk, opA, appendA, dstOk, nilSliceOp, Nat.reduceAdd, Nat.reduceMul, Nat.reduceLT, Nat.reduceLeDiff, Nat.reduceEqDiff, Nat.reduceBEq, Int.reduceEq, ↓reduceIte, eq_self, ne_eq, wtAll]
          have hq0 : 0 ≤ ((br).tdiv 16).tmod p.fs.length := Int.tmod_nonneg _ (Int.tdiv_nonneg (by ((try clear hh_il); omega)) (by decide))
          have hq1 : ((br).tdiv 16).tmod p.fs.length < p.fs.length := Int.tmod_lt_of_pos _ (by ((try clear hh_il); omega))
          have hr0 : 0 ≤ ((br).tmod 16).tmod p.hr := Int.tmod_nonneg _ (Int.tmod_nonneg _ (by ((try clear hh_il); omega)))
          have hr1 : ((br).tmod 16).tmod p.hr < p.hr := Int.tmod_lt_of_pos _ (by ((try clear hh_il); omega))
          have hd0 : 0 ≤ (br).tdiv 16 ∧ (br).tdiv 16 ≤ 255 := ⟨Int.tdiv_nonneg (by ((try clear hh_il); omega)) (by decide), by rw [Int.tdiv_eq_ediv_of_nonneg (by ((try clear hh_il); omega))]; ((try clear hh_il); omega)⟩
          generalize ((br).tdiv 16).tmod p.fs.length = x1 at hq0 hq1 ⊢
          generalize ((br).tmod 16).tmod p.hr = x2 at hr0 hr1 ⊢
          generalize (br).tdiv 16 = dd at hd0 ⊢
          refine ⟨by simp only [InR_i64]; ((try clear hh_il); omega), by ((try clear hh_il); omega), by ((try clear hh_il); omega), fun q hq => by (have : q = 0 := by ((try clear hh_il); omega)); subst this; exact ⟨rfl, rfl, trivial⟩, by ((try clear hh_il); omega), by ((try clear hh_il); omega), by simp only [InR_i64]; ((try clear hh_il); omega), loop_next (i + 1, l ++ [(x1, x2)]) ⟨by simp only []; ((try clear hh_il); omega), by simp [hll], fun x hx => ?_⟩ (by simp only []; ((try clear hh_il); omega)) ?_ ?_⟩
          · rcases List.mem_append.1 hx with h | h
            · exact hl x h
            · rw [List.mem_singleton] at h
              subst h
              exact mem_places.2 ⟨⟨hq0, hq1⟩, hr0, by simp only []; ((try clear hh_il); omega)⟩
          · simp only [vsAll, Nat.reduceEqDiff, ↓reduceIte, eq_self, Int.natCast_add, Int.natCast_one]
          · have e := app_pl l (x1, x2) (fun i => [[i64 x1, i64 x2]].getD i []) rfl
            rw [hll] at e
            rw [e]
            (repeat (first | exact HSub_rfl | refine HSub_put_eq (by simp only [vsAll, ↓reduceIte, eq_self]) ?_ | refine HSub_drop2 (by simp only [eq_self, hh_il]) ?_ | refine HSub_keep_eq (by simp only [vsAll, binA, binLitA, intA, aggA, aggV, boolA, nilA2, isConst, unA, loadA, loadRow, partA, partOk, fieldAddrA, indexAddrA, indexA, fieldA, extractA, lenA, nilCheckA, boxA, boxZ, cellA, cellsA, fillA, okParts, buildSliceA, buildMutA, makeSliceA, partIdx, elemsA, lensA, ifaceA, convA, mmA, pickA, okAll, stAll, opsA, partsA, partsOk, opA, allocA, boxMutA, newCells, okCells, storeObj, appendA, guardV, taA, nM, mapUpA, lookA, sliceA, sliceS, boundsA, opO, okO, copyA, dstOk, nilA, quietOk, nilSliceOp, deferV, panA, resA, argFr, retA.eq_1, retA.eq_2, Nat.reduceAdd, Nat.reduceSub, Nat.reduceMul, Nat.reduceLT, Nat.reduceLeDiff, Nat.reduceEqDiff, Nat.reduceBEq, Int.reduceAdd, Int.reduceSub, Int.reduceMul, Int.reduceNeg, Int.reduceLE, Int.reduceLT, Int.reduceEq, Int.reduceNe, Int.reduceToNat, ↓reduceIte, reduceCtorEq, implies_true, forall_const, eq_self, ne_eq, arrL, wtAll, Try.ntmps34, Try.results34, hh_il]) ?_))
        · simp only [vsAll]
          refine vs_draw2 [0, 0, 0, 0, 0, 0, 0, 0, 0, 0, 0, 0, 0, 0, 1, 3] [([0, 1, 2, 3, 4, 5, 6, 7, 8, 9, 10, 11, 12, 13], [], 14), ([], [], 15)] [] (by decide +kernel) ?_
          simp only [vsAll, binA, binLitA, intA, loadA, loadRow, partA, partOk, fieldAddrA, lenA, cellA, cellsA, fillA, okParts, buildSliceA, partIdx, elemsA, lensA, partsA, partsOk, opA, appendA, dstOk, nilSliceOp, Nat.reduceAdd, Nat.reduceMul, Nat.reduceLT, Nat.reduceLeDiff, Nat.reduceEqDiff, Nat.reduceBEq, Int.reduceEq, ↓reduceIte, eq_self, ne_eq, wtAll]
          have hq0 : 0 ≤ ((i : Int).tdiv 16).tmod p.fs.length := Int.tmod_nonneg _ (Int.tdiv_nonneg (by ((try clear hh_il); omega)) (by decide))
          have hq1 : ((i : Int).tdiv 16).tmod p.fs.length < p.fs.length := Int.tmod_lt_of_pos _ (by ((try clear hh_il); omega))
          have hr0 : 0 ≤ ((i : Int).tmod 16).tmod p.hr := Int.tmod_nonneg _ (Int.tmod_nonneg _ (by ((try clear hh_il); omega)))
          have hr1 : ((i : Int).tmod 16).tmod p.hr < p.hr := Int.tmod_lt_of_pos _ (by ((try clear hh_il); omega))
          have hd0 : 0 ≤ (i : Int).tdiv 16 ∧ (i : Int).tdiv 16 ≤ 255 := ⟨Int.tdiv_nonneg (by ((try clear hh_il); omega)) (by decide), by rw [Int.tdiv_eq_ediv_of_nonneg (by ((try clear hh_il); omega))]; ((try clear hh_il); omega)⟩
          generalize ((i : Int).tdiv 16).tmod p.fs.length = x1 at hq0 hq1 ⊢
          generalize ((i : Int).tmod 16).tmod p.hr = x2 at hr0 hr1 ⊢
          generalize (i : Int).tdiv 16 = dd at hd0 ⊢
          refine ⟨by simp only [InR_i64]; ((try clear hh_il); omega), by ((try clear hh_il); omega), by ((try clear hh_il); omega), fun q hq => by (have : q = 0 := by ((try clear hh_il); omega)); subst this; exact ⟨rfl, rfl, trivial⟩, by ((try clear hh_il); omega), by ((try clear hh_il); omega), by simp only [InR_i64]; ((try clear hh_il); omega), loop_next (i + 1, l ++ [(x1, x2)]) ⟨by simp only []; ((try clear hh_il); omega), by simp [hll], fun x hx => ?_⟩ (by simp only []; ((try clear hh_il); omega)) ?_ ?_⟩
          · rcases List.mem_append.1 hx with h | h
            · exact hl x h
            · rw [List.mem_singleton] at h
              subst h
              exact mem_places.2 ⟨⟨hq0, hq1⟩, hr0, by simp only []; ((try clear hh_il); omega)⟩
          · simp only [vsAll, Nat.reduceEqDiff, ↓reduceIte, eq_self, Int.natCast_add, Int.natCast_one]
          · have e := app_pl l (x1, x2) (fun i => [[i64 x1, i64 x2]].getD i []) rfl
            rw [hll] at e
            rw [e]
            (repeat (first | exact HSub_rfl | refine HSub_put_eq (by simp only [vsAll, ↓reduceIte, eq_self]) ?_ | refine HSub_drop2 (by simp only [eq_self, hh_il]) ?_ | refine HSub_keep_eq (by simp only [vsAll, binA, binLitA, intA, aggA, aggV, boolA, nilA2, isConst, unA, loadA, loadRow, partA, partOk, fieldAddrA, indexAddrA, indexA, fieldA, extractA, lenA, nilCheckA, boxA, boxZ, cellA, cellsA, fillA, okParts, buildSliceA, buildMutA, makeSliceA, partIdx, elemsA, lensA, ifaceA, convA, mmA, pickA, okAll, stAll, opsA, partsA, partsOk, opA, allocA, boxMutA, newCells, okCells, storeObj, appendA, guardV, taA, nM, mapUpA, lookA, sliceA, sliceS, boundsA, opO, okO, copyA, dstOk, nilA, quietOk, nilSliceOp, deferV, panA, resA, argFr, retA.eq_1, retA.eq_2, Nat.reduceAdd, Nat.reduceSub, Nat.reduceMul, Nat.reduceLT, Nat.reduceLeDiff, Nat.reduceEqDiff, Nat.reduceBEq, Int.reduceAdd, Int.reduceSub, Int.reduceMul, Int.reduceNeg, Int.reduceLE, Int.reduceLT, Int.reduceEq, Int.reduceNe, Int.reduceToNat, ↓reduceIte, reduceCtorEq, implies_true, forall_const, eq_self, ne_eq, arrL, wtAll, Try.ntmps34, Try.results34, hh_il]) ?_))
      · have ei : i = p.ps.length := by ((try clear hh_il); omega)
        subst ei
        simp only [vsAll, opA, dstOk, nilSliceOp, Nat.reduceLT, Nat.reduceEqDiff, Nat.reduceBEq, ↓reduceIte, eq_self]
        rw [← hll]
        refine ret_freeze (by rw [Try.results34]) rfl (Hp.set_same _ _ _) ?_
        rw [set_del hh_il]
        exact ⟨H, HSub_rfl, rfl, l, ⟨hl, by ((try clear hh_il); omega)⟩, rfl⟩
end Go.Proofs.Ytliomkpmadpibaa
end
section
set_option linter.unusedVariables false
set_option linter.unusedSimpArgs false
set_option maxHeartbeats 4000000
set_option maxRecDepth 100000
namespace Go.Proofs.Ytliomkpmadpibaa
open Go.V
theorem planB_of {p : Pt} (k : Ok p) {l : List (Int × Int)} (h1 : l.length = p.ps.length) (h2 : ∀ i, i < l.length → l.getD i (0, 0) ∈ places p) : planB p l = true := by
  rw [planB, Bool.and_eq_true, List.all_eq_true, decide_eq_true_eq]
  refine ⟨fun x hx => ?_, h1⟩
  obtain ⟨i, hi, rfl⟩ := getD_mem (0, 0) hx
  exact (placeB_iff k).2 (h2 i hi)
def rtB (p : Pt) (l : List (Int × Int)) : Bool := decide (checkE p l = 4)
end Go.Proofs.Ytliomkpmadpibaa
end
section
set_option linter.unusedVariables false
set_option linter.unusedSimpArgs false
set_option maxHeartbeats 4000000
set_option maxRecDepth 100000
namespace Go.Proofs.Ytliomkpmadpibaa
open Go.V
/-- The hour at which a pot is hot if there is frost in a set of hours; 99: never. -/
def aft9 (p : Pt) (F i h : Nat) : Int := if endN F (p.pot i).ht p.H h ≤ p.H then (endN F (p.pot i).ht p.H h : Nat) else 99
theorem after_tri (p : Pt) (i h F : Nat) (H : Hp) (k : Ok p) (hi : i < p.ps.length) (hh : h ≤ p.H) (hF : F < 2 ^ 60) : PTri Try.prog (fnA 35) [p.av, i64 i, i64 h, i64 F] H (i64 (aft9 p F i h)) := by
  obtain ⟨fo, pe, e1, e2, h1, h2, _, eH, h12⟩ := k.nums
  have nP := k.nP
  have hp := k.pot hi
  have epot : (p.ps.getD i po0).ht = (p.pot i).ht := rfl
  refine tri_v0 (fun _ => false) Try.func35 (by kernel_rfl) rfl (by simp only [List.length_append, List.length_cons, List.length_nil, Try.ntmps35]; decide) ?_
  simp only [vsAll, loadA, loadRow, partA, partOk, fieldAddrA, indexAddrA, boxA, boxZ, opA, dstOk, nilSliceOp, argFr, Nat.reduceAdd, Nat.reduceLT, Nat.reduceEqDiff, ↓reduceIte, eq_self, wtAll, Try.ntmps35, psF_at, epot]
  refine ⟨⟨by omega, by omega⟩, hi, ?_⟩
  refine vs_loop (σ := Nat) (fun n => h + n ≤ p.H ∧ (hsum F h n : Int) < (p.pot i).ht ∧ ∀ n', 0 < n' → n' ≤ n → ¬ (p.pot i).ht ≤ (hsum F h n' : Nat)) (fun n => [(3, i64 F), (4, pptr p), (9, i64 ((p.pot i).ht - (hsum F h n : Nat))), (10, i64 ((h + n : Nat) : Int))]) (fun _ => H) (fun n => p.H - (h + n)) 0 ⟨by omega, by simp only [hsum]; omega, fun n' a b => absurd a (by omega)⟩ ?_ (HSub.refl _) fun n hn => ?_
  · simp only [vsAll, argFr, Nat.reduceEqDiff, ↓reduceIte, eq_self, Int.natCast_zero, hsum, Int.sub_zero]
  · obtain ⟨hn, hlt0, hall⟩ := hn
    simp only [vsAll, binA, binLitA, intA, loadA, loadRow, partA, partOk, fieldAddrA, opA, dstOk, Nat.reduceLT, Nat.reduceEqDiff, ↓reduceIte, eq_self, wtAll, eH]
    refine condD (fun hd => ?_) (fun hd => ?_)
    · have hlt : h + n < p.H := by omega
      have hs := hsum_le F h n
      have es : hsum F h (n + 1) = hsum F h n + if F.testBit (h + n) = true then 1 else 2 := rfl
      have hd0 : 0 ≤ (F : Int) / 2 ^ (h + n) ∧ (F : Int) / 2 ^ (h + n) ≤ F := ⟨Int.ediv_nonneg (by omega) (Int.le_of_lt (Int.pow_pos (by decide))), Int.ediv_le_self _ (by omega)⟩
      have fin : (p.pot i).ht ≤ (hsum F h (n + 1) : Nat) → aft9 p F i h = ((h + n : Nat) : Int) + 1 := fun hle => by
        have : endN F (p.pot i).ht p.H h = h + n + 1 := endN_found (by omega) (by omega) (by rw [show h + n + 1 - h = n + 1 by omega]; exact hle) fun e' a1 a2 => by
          have := hall (e' - h) (by omega) (by omega)
          exact this
        unfold aft9
        rw [this, if_pos (by omega)]
        omega
      have nxt : ¬ (p.pot i).ht ≤ (hsum F h (n + 1) : Nat) → ∀ n', 0 < n' → n' ≤ n + 1 → ¬ (p.pot i).ht ≤ (hsum F h n' : Nat) := fun hle n' a1 a2 => by
        by_cases e : n' = n + 1
        · rw [e]; exact hle
        · exact hall n' a1 (by omega)
      simp only [vsAll, binA, binLitA, intA, opA, dstOk, nilSliceOp, Nat.reduceLT, Nat.reduceEqDiff, Int.reduceLE, Int.reduceToNat, ↓reduceIte, eq_self]
      rw [bit_eq0]
      refine ⟨by simp only [InR_i64]; omega, ⟨by omega, by omega, rfl⟩, ⟨hd0.1, by simp only [InR_i64]; omega, by simp only [InR_i64]; omega⟩, condV (fun hc => ?_) (fun hc => ?_)⟩
      · rw [Bool.not_eq_true'] at hc
        rw [hc, if_neg (by decide)] at es
        simp only [vsAll, binA, binLitA, intA, opA, dstOk, nilSliceOp, Nat.reduceLT, Nat.reduceEqDiff, ↓reduceIte, eq_self]
        refine ⟨by simp only [InR_i64]; omega, condV (fun hc2 => ?_) (fun hc2 => ?_)⟩
        · have hc2 := of_decide_eq_true hc2
          simp only [vsAll, binA, binLitA, intA, opA, dstOk, nilSliceOp, resA, retA.eq_1, Nat.reduceLT, Nat.reduceEqDiff, ↓reduceIte, eq_self, Try.results35, fin (by omega)]
          simp only [InR_i64]; omega
        · have hc2 := of_decide_eq_false hc2
          simp only [vsAll, binA, binLitA, intA, opA, dstOk, nilSliceOp, Nat.reduceLT, Nat.reduceEqDiff, ↓reduceIte, eq_self]
          refine ⟨by simp only [InR_i64]; omega, loop_next (n + 1) ⟨by omega, by omega, nxt (by omega)⟩ (by omega) ?_ HSub_rfl⟩
          have e3 : (p.pot i).ht - (hsum F h n : Nat) - 1 - 1 = (p.pot i).ht - (hsum F h (n + 1) : Nat) := by omega
          simp only [vsAll, Nat.reduceEqDiff, ↓reduceIte, eq_self, Int.natCast_add, Int.natCast_one, Int.add_assoc, e3]
      · rw [Bool.not_eq_false'] at hc
        rw [if_pos hc] at es
        simp only [vsAll, binA, binLitA, intA, opA, dstOk, Nat.reduceLT, Nat.reduceEqDiff, ↓reduceIte, eq_self]
        refine condV (fun hc2 => ?_) (fun hc2 => ?_)
        · have hc2 := of_decide_eq_true hc2
          simp only [vsAll, binA, binLitA, intA, opA, dstOk, nilSliceOp, resA, retA.eq_1, Nat.reduceLT, Nat.reduceEqDiff, ↓reduceIte, eq_self, Try.results35, fin (by omega)]
          simp only [InR_i64]; omega
        · have hc2 := of_decide_eq_false hc2
          simp only [vsAll, binA, binLitA, intA, opA, dstOk, nilSliceOp, Nat.reduceLT, Nat.reduceEqDiff, ↓reduceIte, eq_self]
          refine ⟨by simp only [InR_i64]; omega, loop_next (n + 1) ⟨by omega, by omega, nxt (by omega)⟩ (by omega) ?_ HSub_rfl⟩
          have e3 : (p.pot i).ht - (hsum F h n : Nat) - 1 = (p.pot i).ht - (hsum F h (n + 1) : Nat) := by omega
          simp only [vsAll, Nat.reduceEqDiff, ↓reduceIte, eq_self, Int.natCast_add, Int.natCast_one, Int.add_assoc, e3]
    · have en : h + n = p.H := by omega
      have ea : aft9 p F i h = 99 := by
        have : endN F (p.pot i).ht p.H h = p.H + 1 := endN_none fun e' a1 a2 => hall (e' - h) (by omega) (by omega)
        unfold aft9
        rw [this, if_neg (by omega)]
      simp only [vsAll, opA, dstOk, nilSliceOp, resA, retA.eq_1, Nat.reduceLT, ↓reduceIte, eq_self, Try.results35, ea]
end Go.Proofs.Ytliomkpmadpibaa
end
section
set_option linter.unusedVariables false
set_option linter.unusedSimpArgs false
set_option maxHeartbeats 4000000
set_option maxRecDepth 100000
namespace Go.Proofs.Ytliomkpmadpibaa
open Go.V
theorem mapZ49 : mapZ Try.prog 49 = some (.bool false) := by kernel_rfl
theorem und49 : Program.underlying Try.prog 49 = some (.map 51 4) := by kernel_rfl
theorem key51 : Maps.Keyed Try.prog 51 := Maps.Keyed.of_law (deep_law_laid (by kernel_rfl) (m := 10) (by decide) (by decide +kernel) (by kernel_rfl) (by kernel_rfl))
abbrev plV (x : Int × Int) : Value := .agg #[.int .i64 x.1, .int .i64 x.2]
theorem plK (x : Int × Int) (ha : -1000 ≤ x.1 ∧ x.1 ≤ 1000) (hb : -1000 ≤ x.2 ∧ x.2 ≤ 1000) : ∃ l, keyOf Try.prog 51 (plV x) = some l := by
  have := keyOf_intsJ (P := Try.prog) (k := 51) (d := 5) (n := 2) (by kernel_rfl) (by decide +kernel) (by kernel_rfl) (by kernel_rfl) (l := [x.1, x.2]) rfl (by kernel_rfl) (by
    intro q hx
    have : q = x.1 ∨ q = x.2 := by simpa using hx
    exact wf_i64 (by simp only [InR_i64]; rcases this with h | h <;> subst h <;> omega))
  exact this
theorem plV_inj {x y : Int × Int} (h : plV x = plV y) : x = y := by
  simp only [plV, Value.agg.injEq, Array.mk.injEq, List.cons.injEq, Value.int.injEq, true_and, and_true] at h
  exact Prod.ext h.1 h.2
open Classical in
noncomputable def takF (L : List (Int × Int)) : Value → Option Value := fun k => if ∃ x ∈ L, k = plV x then some (.bool true) else none
theorem takF_nil : takF [] = fun _ => none := by
  funext k
  simp [takF]
theorem takF_get (L : List (Int × Int)) (x : Int × Int) : (takF L (plV x)).getD (.bool false) = .bool (decide (x ∈ L)) := by
  unfold takF
  by_cases h : x ∈ L
  · rw [if_pos ⟨x, h, rfl⟩, decide_eq_true h]; rfl
  · rw [if_neg, decide_eq_false h]
    · rfl
    · rintro ⟨y, hy, e⟩
      rw [plV_inj e] at h
      exact h hy
theorem takF_add (L : List (Int × Int)) (x : Int × Int) : updV (takF L) (plV x) (.bool true) = takF (x :: L) := by
  funext k
  by_cases e : k = plV x
  · subst e
    rw [updV_same]
    unfold takF
    rw [if_pos ⟨x, List.mem_cons_self, rfl⟩]
  · rw [updV_ne _ _ e]
    unfold takF
    have : (∃ y ∈ x :: L, k = plV y) ↔ ∃ y ∈ L, k = plV y := by
      constructor
      · rintro ⟨y, hy, h⟩
        rcases List.mem_cons.1 hy with rfl | hy
        · exact absurd h e
        · exact ⟨y, hy, h⟩
      · rintro ⟨y, hy, h⟩; exact ⟨y, List.mem_cons_of_mem _ hy, h⟩
    by_cases hq : ∃ y ∈ L, k = plV y
    · rw [if_pos hq, if_pos (this.2 hq)]
    · rw [if_neg hq, if_neg (fun h => hq (this.1 h))]
theorem takF_key {L : List (Int × Int)} (hL : ∀ x ∈ L, (0 ≤ x.1 ∧ x.1 ≤ 100) ∧ 0 ≤ x.2 ∧ x.2 ≤ 100) (k v : Value) (h : takF L k = some v) : ∃ l, keyOf Try.prog 51 k = some l := by
  unfold takF at h
  split at h
  · rename_i hx
    obtain ⟨x, hx, rfl⟩ := hx
    have := hL x hx
    exact plK x (by omega) (by omega)
  · cases h

theorem hotE_of {p : Pt} (k : Ok p) {i : Nat} {h : Int} (hi : i < p.ps.length) (hh : 0 ≤ h ∧ h < p.hr) : hotE p i h = if hotV p true i h.toNat ≤ p.H then 0 else 11 := by
  have e : errE p (isPot p i && isHour p h) = 0 := by
    rw [(isPot_iff p _).2 ⟨by omega, by omega⟩, (isHour_iff k _).2 hh]; exact errE_ok k
  unfold hotE
  rw [if_pos e, Int.toNat_natCast]
/-- The frost that there truly is. -/
def truF (p : Pt) (q : Nat) : Nat := p.fro.toNat ||| (p.per.toNat &&& q)
theorem truF_bits (p : Pt) (q : Nat) : (∀ t, (p.F false).testBit t = true → (truF p q).testBit t = true) ∧ ∀ t, (truF p q).testBit t = true → (p.F true).testBit t = true := by
  unfold truF Pt.F
  simp only [Bool.false_eq_true, if_false, if_true]
  constructor
  · intro t h; rw [Nat.testBit_or, h]; rfl
  · intro t h
    rw [Nat.testBit_or, Nat.testBit_and] at h
    rw [Nat.testBit_or]
    cases h1 : p.fro.toNat.testBit t
    · rw [h1] at h; simp at h; simp [h]
    · simp
/-- When it is hot, in this truth. -/
theorem tru_hot (p : Pt) (q i : Nat) {h : Nat} (hh : h ≤ p.H) : hotV p false i h ≤ endN (truF p q) (p.pot i).ht p.H h ∧ endN (truF p q) (p.pot i).ht p.H h ≤ hotV p true i h :=
  ⟨endN_mono (truF_bits p q).1 (Int.le_refl _) hh, endN_mono (truF_bits p q).2 (Int.le_refl _) hh⟩
/-- The rule that a pot breaks, as the law counts. -/
def takA (L : List (Int × Int)) (f t n : Nat) : Bool := decide (∃ z ∈ L, z.1 = (f : Int) ∧ (t : Int) ≤ z.2 ∧ z.2 < ((t + n : Nat) : Int))
theorem takA_zero (L : List (Int × Int)) (f t : Nat) : takA L f t 0 = false := by
  unfold takA
  rw [decide_eq_false_iff_not]
  rintro ⟨z, _, _, h1, h2⟩
  omega
theorem takA_succ (L : List (Int × Int)) (f t n : Nat) : takA L f t (n + 1) = (takA L f t n || decide (((f : Int), ((t + n : Nat) : Int)) ∈ L)) := by
  unfold takA
  rw [Bool.eq_iff_iff, Bool.or_eq_true, decide_eq_true_eq, decide_eq_true_eq, decide_eq_true_eq]
  constructor
  · rintro ⟨z, h1, h2, h3, h4⟩
    by_cases e : z.2 = ((t + n : Nat) : Int)
    · right
      rw [← h2, ← e]; exact h1
    · exact .inl ⟨z, h1, h2, h3, by omega⟩
  · rintro (⟨z, h1, h2, h3, h4⟩ | h)
    · exact ⟨z, h1, h2, h3, by omega⟩
    · exact ⟨_, h, rfl, by omega, by simp only []; omega⟩
def hulA (F t n : Nat) : Bool := (List.range n).any fun s => F.testBit (t + s)
theorem hulA_zero (F t : Nat) : hulA F t 0 = false := rfl
theorem hulA_succ (F t n : Nat) : hulA F t (n + 1) = (hulA F t n || F.testBit (t + n)) := by
  unfold hulA
  rw [List.range_succ, List.any_append, List.any_cons, List.any_nil, Bool.or_false]
def wantR (p : Pt) (L : List (Int × Int)) (i f t : Nat) : Int :=
  if hulA (fireN p f) t (min p.H (hotV p true i t) - t) = true then 3 else if takA L f t (min p.H (hotV p true i t) - t) = true then 4 else 0
theorem tru_br {p : Pt} {l L : List (Int × Int)} {i f t : Nat} (hx : l.getD i (0, 0) = ((f : Int), (t : Int))) (hi : i ≤ l.length)
    (hL : ∀ z, z ∈ L ↔ ∃ j, j < i ∧ (l.getD j (0, 0)).1 = z.1 ∧ 0 ≤ z.2 ∧ (tkN p j (l.getD j (0, 0)).2.toNat).testBit z.2.toNat = true)
    (hl_pl : ∀ j, j < l.length → l.getD j (0, 0) ∈ places p) (hf : f < p.fs.length) (ht : t < p.H) :
    brR p i ((f : Int), (t : Int)) l = if (t : Int) < (p.pot i).fr then 1 else if (p.pot i).bb < ((hotV p true i t : Nat) : Int) then 2 else wantR p L i f t := by
  have hgt := endN_gt (p.F true) (p.pot i).ht (show t ≤ p.H by omega)
  have hgt : t < hotV p true i t ∧ hotV p true i t ≤ p.H + 1 := hgt
  have hb : ∀ s, (tkN p i t).testBit s = true ↔ t ≤ s ∧ s < min p.H (hotV p true i t) := fun s => by
    rw [tk_bit (show t ≤ p.H by omega), Bool.and_eq_true, decide_eq_true_eq, decide_eq_true_eq]
  have e1 : hulA (fireN p f) t (min p.H (hotV p true i t) - t) = meet (tkN p i t) (fireN p f) := by
    rw [Bool.eq_iff_iff, meet_iff]
    unfold hulA
    rw [List.any_eq_true]
    constructor
    · rintro ⟨s, h1, h2⟩
      rw [List.mem_range] at h1
      exact ⟨t + s, (hb _).2 ⟨by omega, by omega⟩, h2⟩
    · rintro ⟨s, h1, h2⟩
      have := (hb s).1 h1
      exact ⟨s - t, List.mem_range.2 (by omega), by rw [show t + (s - t) = s by omega]; exact h2⟩
  have e2 : takA L f t (min p.H (hotV p true i t) - t) = (List.range i).any fun j => shrB p j (l.getD j (0, 0)) i ((f : Int), (t : Int)) := by
    rw [Bool.eq_iff_iff, List.any_eq_true]
    unfold takA
    rw [decide_eq_true_eq]
    constructor
    · rintro ⟨z, h1, h2, h3, h4⟩
      obtain ⟨j, a1, a2, a3, a4⟩ := (hL z).1 h1
      refine ⟨j, List.mem_range.2 a1, ?_⟩
      unfold shrB
      rw [Bool.and_eq_true, decide_eq_true_eq, meet_iff]
      exact ⟨by rw [a2, h2], z.2.toNat, a4, (hb _).2 ⟨by omega, by omega⟩⟩
    · rintro ⟨j, h1, h2⟩
      rw [List.mem_range] at h1
      unfold shrB at h2
      rw [Bool.and_eq_true, decide_eq_true_eq, meet_iff] at h2
      obtain ⟨h2, s, h3, h4⟩ := h2
      have := (hb s).1 h4
      refine ⟨((f : Int), (s : Int)), (hL _).2 ⟨j, h1, h2, by simp only []; omega, by simpa using h3⟩, rfl, by simp only []; omega, by simp only []; omega⟩
  unfold brR wantR alR
  rw [e1, e2, Int.toNat_natCast, Int.toNat_natCast]
  by_cases c1 : (t : Int) < (p.pot i).fr
  · simp [c1]
  · by_cases c2 : (p.pot i).bb < ((hotV p true i t : Nat) : Int)
    · simp [c1, c2]
    · cases c3 : meet (tkN p i t) (fireN p f) with
      | true => simp [c1, c2]
      | false => simp only [if_neg c1, if_neg c2, Bool.false_eq_true, if_false, if_true]
theorem true_law (p : Pt) (N : Nat) (b : Nat → Int) (w : Int) (H : Hp) (hb : N < 2 ^ 63 ∧ ∀ i, i < N → 0 ≤ b i ∧ b i ≤ 255) (hw : 0 ≤ w ∧ w ≤ 65535) : PTri Try.prog (fnA 6) [p.av, .rsl N 1 (byF b), .lit (.int .u16 w)] H (boo true) := by
  refine Tri.drop ?_
  refine tri_v0 (fun _ => false) Try.func6 (by kernel_rfl) rfl (by simp only [List.length_append, List.length_cons, List.length_nil, Try.ntmps6]; decide) ?_
  simp only [vsAll, loadA, loadRow, partA, partOk, boxA, boxZ, okAll, stAll, opsA, opA, dstOk, nilSliceOp, argFr, Nat.reduceAdd, Nat.reduceLT, Nat.reduceEqDiff, ↓reduceIte, eq_self, wtAll, Try.ntmps6]
  refine callK_pure (fine_tri p _) ?_
  simp only [vsAll, unA, opA, dstOk, Nat.reduceLT, ↓reduceIte, eq_self]
  refine condV (fun hc => ?_) (fun hc => ?_)
  · simp only [vsAll, okAll, stAll, opsA, opA, dstOk, Nat.reduceLT]
    refine callK_pure (awake_tri _) ?_
    simp only [vsAll, opA, dstOk, nilSliceOp, resA, retA.eq_1, Nat.reduceLT, ↓reduceIte, eq_self, Try.results6]
    exact dropR_pure rfl HSub_rfl
  · obtain ⟨k, kn⟩ := fine_ok (by simpa using hc)
    have nF := k.nF
    have nP := k.nP
    obtain ⟨fo, pe, e1, e2, h1, h2, _, eH, h12⟩ := k.nums
    simp only [vsAll, loadA, loadRow, partA, partOk, okAll, stAll, opsA, opA, dstOk, argFr, Nat.reduceLT, Nat.reduceEqDiff, ↓reduceIte, eq_self, wtAll]
    refine callK (made_tri p N b _ k hb.1 hb.2) ?_
    rintro r H' ⟨rfl, l, hl, rfl⟩
    have hll := hl.len
    simp only [vsAll, binA, binLitA, intA, loadA, loadRow, partA, partOk, fieldAddrA, lenA, opA, dstOk, nilSliceOp, Nat.reduceLT, Nat.reduceEqDiff, ↓reduceIte, eq_self, wtAll]
    refine condV (fun hc2 => ?_) (fun hc2 => ?_)
    · simp only [vsAll, okAll, stAll, opsA, opA, dstOk, Nat.reduceLT]
      refine callK_pure (awake_tri _) ?_
      simp only [vsAll, opA, dstOk, nilSliceOp, resA, retA.eq_1, Nat.reduceLT, ↓reduceIte, eq_self, Try.results6]
      exact dropR_pure rfl HSub_rfl
    · have hlen : l.length = p.ps.length := by
        simp at hc2; omega
      obtain ⟨q, rfl⟩ : ∃ q : Nat, w = (q : Int) := ⟨w.toNat, by omega⟩
      have hpl : planB p l = true := planB_of k hlen fun i hi => hl.pl _ (mem_getD _ i _ hi)
      have hck := ck_facts k hpl
      simp only [vsAll, binA, binLitA, intA, loadA, loadRow, partA, partOk, fieldAddrA, convA, okAll, stAll, opsA, opA, dstOk, nilSliceOp, argFr, Nat.reduceLT, Nat.reduceEqDiff, ↓reduceIte, eq_self, wtAll]
      have hpq := @Nat.and_le_left p.per.toNat q
      have hF := F_lt k true
      have hH2 := pow12 h12
      have eF : p.fro.toNat ||| p.per.toNat = p.F true := rfl
      have eG : p.fro.toNat ||| (p.per.toNat &&& q) = truF p q := rfl
      have hG : truF p q < 2 ^ 12 := Nat.or_lt_two_pow (by omega) (by omega)
      rw [eF, eG]
      refine ⟨⟨by omega, by omega, by simp only [InR_i64]; omega, by simp only [InR_i64]; omega⟩, by simp only [InR_i64]; omega, ⟨by omega, by omega, by simp only [InR_i64]; omega, by simp only [InR_i64]; omega⟩, ⟨by omega, by omega, by simp only [InR_i64]; omega, by simp only [InR_i64]; omega⟩, ?_⟩
      refine callK_pure (wcheck_tri p l _ kn (by omega)) ?_
      generalize checkW p l = W at hck
      generalize checkR p l = R at hck
      generalize checkE p l = E at hck
      simp only [vsAll, binA, binLitA, intA, extractA, pickA, opA, guardV, dstOk, nilSliceOp, Nat.reduceAdd, Nat.reduceLT, Nat.reduceEqDiff, ↓reduceIte, implies_true, eq_self]
      refine ⟨fun g => ⟨g, fun g2 => by rw [g, g2]; rfl⟩, fun g => ⟨g, fun g2 => by rw [g, g2]; rfl⟩, condV (fun hz => ?_) (fun hz => ?_)⟩
      · exfalso
        rcases hck with ⟨rfl, rfl, rfl, _⟩ | ⟨rfl, _⟩
        · simp at hz
        · simp at hz
      · simp only [vsAll, lenA, opA, nM, dstOk, nilSliceOp, Nat.reduceLT, Nat.reduceEqDiff, ↓reduceIte, eq_self, wtAll]
        intro im hh_im; (try simp only [Hp.set_none, ite_none] at hh_im)
        refine vs_loop (σ := Nat × List (Int × Int) × Array MapEntry × Nat) (fun y => y.1 ≤ l.length ∧ MapIs (takF y.2.1) y.2.2.1 ∧ (∀ z ∈ y.2.1, z ∈ places p) ∧ (∀ z, z ∈ y.2.1 ↔ ∃ j, j < y.1 ∧ (l.getD j (0, 0)).1 = z.1 ∧ 0 ≤ z.2 ∧ (tkN p j (l.getD j (0, 0)).2.toNat).testBit z.2.toNat = true) ∧ (∀ j, j < y.1 → brR p j (l.getD j (0, 0)) l = 0) ∧ (E = 0 → y.1 ≤ W))
          (fun y => [(3, pptr p), (8, i64 (p.F true : Nat)), (9, i64 (truF p q : Nat)), (10, i64 W), (11, i64 R), (12, i64 E), (13, .map im), (74, plsAV l), (75, i64 l.length), (76, i64 y.1)])
          (fun y => H'.set im (.raw (.map y.2.2.1 y.2.2.2))) (fun y => l.length - y.1) (0, [], #[], 0) ⟨Nat.zero_le _, by rw [takF_nil]; exact MapIs.empty, fun z hz => (by cases hz), fun z => ⟨fun h => (by cases h), fun ⟨j, h, _⟩ => absurd h (Nat.not_lt_zero j)⟩, fun j h => absurd h (Nat.not_lt_zero j), fun _ => Nat.zero_le _⟩ ?_ ?_ fun ⟨i, L, es, ck⟩ hy => ?_
        · simp only [vsAll, Nat.reduceEqDiff, ↓reduceIte, eq_self, Int.natCast_zero]
        · (repeat (first | exact HSub_rfl | refine HSub_put_eq (by simp only [vsAll, binA, binLitA, intA, aggA, aggV, boolA, nilA2, isConst, unA, loadA, loadRow, partA, partOk, fieldAddrA, indexAddrA, indexA, fieldA, extractA, lenA, nilCheckA, boxA, boxZ, cellA, cellsA, fillA, okParts, buildSliceA, buildMutA, makeSliceA, partIdx, elemsA, lensA, ifaceA, convA, mmA, pickA, okAll, stAll, opsA, partsA, partsOk, opA, allocA, boxMutA, newCells, okCells, storeObj, appendA, guardV, taA, nM, mapUpA, lookA, sliceA, sliceS, boundsA, opO, okO, copyA, dstOk, nilA, quietOk, nilSliceOp, deferV, panA, resA, argFr, retA.eq_1, retA.eq_2, Nat.reduceAdd, Nat.reduceSub, Nat.reduceMul, Nat.reduceLT, Nat.reduceLeDiff, Nat.reduceEqDiff, Nat.reduceBEq, Int.reduceAdd, Int.reduceSub, Int.reduceMul, Int.reduceNeg, Int.reduceLE, Int.reduceLT, Int.reduceEq, Int.reduceNe, Int.reduceToNat, ↓reduceIte, reduceCtorEq, implies_true, forall_const, eq_self, ne_eq, arrL, wtAll, Try.ntmps6, Try.results6, hh_im]) ?_ | refine HSub_drop2 (by simp only [vsAll, binA, binLitA, intA, aggA, aggV, boolA, nilA2, isConst, unA, loadA, loadRow, partA, partOk, fieldAddrA, indexAddrA, indexA, fieldA, extractA, lenA, nilCheckA, boxA, boxZ, cellA, cellsA, fillA, okParts, buildSliceA, buildMutA, makeSliceA, partIdx, elemsA, lensA, ifaceA, convA, mmA, pickA, okAll, stAll, opsA, partsA, partsOk, opA, allocA, boxMutA, newCells, okCells, storeObj, appendA, guardV, taA, nM, mapUpA, lookA, sliceA, sliceS, boundsA, opO, okO, copyA, dstOk, nilA, quietOk, nilSliceOp, deferV, panA, resA, argFr, retA.eq_1, retA.eq_2, Nat.reduceAdd, Nat.reduceSub, Nat.reduceMul, Nat.reduceLT, Nat.reduceLeDiff, Nat.reduceEqDiff, Nat.reduceBEq, Int.reduceAdd, Int.reduceSub, Int.reduceMul, Int.reduceNeg, Int.reduceLE, Int.reduceLT, Int.reduceEq, Int.reduceNe, Int.reduceToNat, ↓reduceIte, reduceCtorEq, implies_true, forall_const, eq_self, ne_eq, arrL, wtAll, Try.ntmps6, Try.results6, hh_im]) ?_ | refine HSub_keep_eq (by simp only [vsAll, binA, binLitA, intA, aggA, aggV, boolA, nilA2, isConst, unA, loadA, loadRow, partA, partOk, fieldAddrA, indexAddrA, indexA, fieldA, extractA, lenA, nilCheckA, boxA, boxZ, cellA, cellsA, fillA, okParts, buildSliceA, buildMutA, makeSliceA, partIdx, elemsA, lensA, ifaceA, convA, mmA, pickA, okAll, stAll, opsA, partsA, partsOk, opA, allocA, boxMutA, newCells, okCells, storeObj, appendA, guardV, taA, nM, mapUpA, lookA, sliceA, sliceS, boundsA, opO, okO, copyA, dstOk, nilA, quietOk, nilSliceOp, deferV, panA, resA, argFr, retA.eq_1, retA.eq_2, Nat.reduceAdd, Nat.reduceSub, Nat.reduceMul, Nat.reduceLT, Nat.reduceLeDiff, Nat.reduceEqDiff, Nat.reduceBEq, Int.reduceAdd, Int.reduceSub, Int.reduceMul, Int.reduceNeg, Int.reduceLE, Int.reduceLT, Int.reduceEq, Int.reduceNe, Int.reduceToNat, ↓reduceIte, reduceCtorEq, implies_true, forall_const, eq_self, ne_eq, arrL, wtAll, Try.ntmps6, Try.results6, hh_im]) ?_))
        · obtain ⟨hi, hes, hLp, hL, hb0, hEW⟩ := hy
          simp only [] at hi hes hLp hL hb0 hEW
          simp only [vsAll, binA, binLitA, intA, opA, dstOk, Nat.reduceLT, Nat.reduceEqDiff, ↓reduceIte, eq_self]
          refine condD (fun hd => ?_) (fun hd => ?_)
          · have hil : i < l.length := by ((try clear hh_im); omega)
            have hxm := hl.pl _ (mem_getD l i (0, 0) hil)
            generalize hx : l.getD i (0, 0) = x at hxm
            obtain ⟨f, t, rfl, hf, ht⟩ := place_nat hxm
            skip
            simp only [vsAll, loadA, loadRow, partA, partOk, indexAddrA, cellA, opA, allocA, newCells, okCells, storeObj, dstOk, nilSliceOp, Nat.reduceAdd, Nat.reduceLT, Nat.reduceEqDiff, ↓reduceIte, eq_self, wtAll, hx, plF_at]
            refine ⟨⟨by ((try clear hh_im); (try clear hx); omega), by ((try clear hh_im); (try clear hx); omega)⟩, hil, ?_⟩
            intro i15 hh_i15; (try simp only [ite_none] at hh_i15)
            have i15m := hh_i15.2
            refine vs_draw2 [0, 0, 0, 0, 0, 0, 0, 0, 0, 0, 0, 0, 0, 0] [] [0, 1, 2, 3, 4, 5, 6, 7, 8, 9, 10, 11, 12, 13] (by decide +kernel) ?_
            simp only [vsAll, loadA, loadRow, partA, partOk, fieldAddrA, opA, dstOk, Nat.reduceLT, Nat.reduceEqDiff, ↓reduceIte, eq_self, wtAll]
            refine qcall _ ⟨trivial, by simp only [vsAll, okAll, opsA, opA, Nat.reduceEqDiff, ↓reduceIte, eq_self], after_tri p i t (truF p q) _ k (by ((try clear hh_im); (try clear hx); (try clear hh_i15); omega)) (by ((try clear hh_im); (try clear hx); (try clear hh_i15); omega)) (by ((try clear hh_im); (try clear hx); (try clear hh_i15); omega))⟩ ?_
            simp only [vsAll, loadA, loadRow, partA, partOk, fieldAddrA, opA, dstOk, Nat.reduceLT, Nat.reduceEqDiff, ↓reduceIte, eq_self, wtAll]
            refine qcall _ ⟨trivial, by simp only [vsAll, okAll, opsA, opA, Nat.reduceEqDiff, ↓reduceIte, eq_self], after_tri p i t (p.F true) _ k (by ((try clear hh_im); (try clear hx); (try clear hh_i15); omega)) (by ((try clear hh_im); (try clear hx); (try clear hh_i15); omega)) (by ((try clear hh_im); (try clear hx); (try clear hh_i15); omega))⟩ ?_
            simp only [vsAll, loadA, loadRow, partA, partOk, fieldAddrA, okAll, stAll, opsA, opA, dstOk, Nat.reduceLT, Nat.reduceEqDiff, ↓reduceIte, eq_self, wtAll]
            refine callK_pure (whot_tri p i t _ kn) ?_
            rw [hotE_of k (by ((try clear hh_im); (try clear hx); (try clear hh_i15); omega)) (by ((try clear hh_im); (try clear hx); (try clear hh_i15); omega))]
            simp only [vsAll, extractA, cellA, opA, allocA, newCells, okCells, storeObj, dstOk, nilSliceOp, Nat.reduceAdd, Nat.reduceLT, Nat.reduceEqDiff, ↓reduceIte, eq_self, wtAll]
            intro i18 hh_i18; (try simp only [ite_none] at hh_i18)
            have i18m := hh_i18.2.2
            have i18n := hh_i18.2.1
            have hgt := endN_gt (p.F true) (p.pot i).ht (show t ≤ p.H by ((try clear hh_im); (try clear hx); (try clear hh_i15); (try clear hh_i18); omega))
            have htr := tru_hot p q i (show t ≤ p.H by ((try clear hh_im); (try clear hx); (try clear hh_i15); (try clear hh_i18); omega))
            have hpo := k.pot (i := i) (by ((try clear hh_im); (try clear hx); (try clear hh_i15); (try clear hh_i18); omega))
            have haf : ∀ H, PTri Try.prog (fnA 35) [p.av, i64 i, i64 t, i64 p.fro] H (i64 (aft9 p (p.F false) i t)) := fun H => by
              have h3 := after_tri p i t p.fro.toNat H k (by ((try clear hh_im); (try clear hx); (try clear hh_i15); (try clear hh_i18); omega)) (by ((try clear hh_im); (try clear hx); (try clear hh_i15); (try clear hh_i18); omega)) (by ((try clear hh_im); (try clear hx); (try clear hh_i15); (try clear hh_i18); omega))
              rw [show ((p.fro.toNat : Nat) : Int) = p.fro by ((try clear hh_im); (try clear hx); (try clear hh_i15); (try clear hh_i18); omega)] at h3
              exact h3
            have hfc : ((if hotV p true i t ≤ p.H then (0 : Int) else 11) = 0 ∧ aft9 p (p.F true) i t < 99 ∧ (hotS p i t).1 ≤ aft9 p (truF p q) i t ∧ aft9 p (truF p q) i t ≤ (hotS p i t).2 ∧ (hotS p i t).2 = aft9 p (p.F true) i t ∧ (hotS p i t).1 = aft9 p (p.F false) i t) ∨
                ((if hotV p true i t ≤ p.H then (0 : Int) else 11) = 11 ∧ aft9 p (p.F true) i t = 99 ∧ (hotS p i t).1 = 0 ∧ (hotS p i t).2 = 0) := by
              have he := hotE_of k (i := i) (h := t) (by ((try clear hh_im); (try clear hx); (try clear hh_i15); (try clear hh_i18); omega)) (by ((try clear hh_im); (try clear hx); (try clear hh_i15); (try clear hh_i18); omega))
              rw [Int.toNat_natCast] at he
              unfold hotS
              rw [he]
              unfold aft9
              unfold hotV at *
              simp only [Int.toNat_natCast]
              by_cases hot : endN (p.F true) (p.pot i).ht p.H t ≤ p.H
              · left
                simp only [if_pos hot, if_true]
                rw [if_pos (show endN (truF p q) (p.pot i).ht p.H t ≤ p.H by ((try clear hh_im); (try clear hx); (try clear hh_i15); (try clear hh_i18); omega)), if_pos (show endN (p.F false) (p.pot i).ht p.H t ≤ p.H by ((try clear hh_im); (try clear hx); (try clear hh_i15); (try clear hh_i18); omega))]
                simp only [true_and, and_true]
                ((try clear hh_im); (try clear hx); (try clear hh_i15); (try clear hh_i18); omega)
              · right
                simp only [if_neg hot]
                simp
            have hen : min (aft9 p (p.F true) i t) p.hr = ((min p.H (hotV p true i t) : Nat) : Int) := by
              unfold aft9 hotV
              split <;> ((try clear hh_im); (try clear hx); (try clear hh_i15); (try clear hh_i18); omega)
            have hby : decide ((p.pot i).bb < aft9 p (p.F true) i t) = decide ((p.pot i).bb < ((hotV p true i t : Nat) : Int)) := by
              refine decide_eq_decide.2 ?_
              unfold aft9 hotV
              split <;> ((try clear hh_im); (try clear hx); (try clear hh_i15); (try clear hh_i18); omega)
            have hlow : ((hotV p true i t : Nat) : Int) ≤ (p.pot i).bb → aft9 p (truF p q) i t ≤ (p.pot i).bb := by
              unfold aft9
              unfold hotV at *
              split <;> ((try clear hh_im); (try clear hx); (try clear hh_i15); (try clear hh_i18); omega)
            have hen2 : ∀ s, (tkN p i t).testBit s = true ↔ t ≤ s ∧ s < min p.H (hotV p true i t) := fun s => by
              rw [tk_bit (show t ≤ p.H by ((try clear hh_im); (try clear hx); (try clear hh_i15); (try clear hh_i18); omega)), Bool.and_eq_true, decide_eq_true_eq, decide_eq_true_eq]
            have hengt : t < min p.H (hotV p true i t) := by
              unfold hotV; ((try clear hh_im); (try clear hx); (try clear hh_i15); (try clear hh_i18); omega)
            have hbr := tru_br hx hi hL (hl_pl := fun j hj => hl.pl _ (mem_getD l j (0, 0) hj)) hf ht
            have hck2 := hck
            rw [hlen] at hil
            generalize aft9 p (p.F true) i t = high at *
            generalize aft9 p (truF p q) i t = low at *
            generalize aft9 p (p.F false) i t = lo3 at *
            generalize hS1 : (hotS p i t).1 = s1 at *
            generalize hS2 : (hotS p i t).2 = s2 at *
            generalize (if hotV p true i t ≤ p.H then (0 : Int) else 11) = e' at *
            refine vs_draw2 [0, 0, 0, 0, 0, 0, 0, 0, 0, 0, 0, 0, 0, 0, 0, 0, 0, 0, 0, 0, 0, 0, 0, 0, 0, 0, 0, 0, 0, 0, 0, 0, 0, 0, 0, 0, 0, 0, 0, 0, 0, 0, 0, 0, 0, 0, 0, 0, 0, 0, 0, 0] [] [0, 1, 2, 3, 4, 5, 6, 7, 8, 9, 10, 11, 12, 13, 14, 15, 16, 17, 18, 19, 20, 21, 22, 23, 24, 25, 26, 27, 28, 29, 30, 31, 32, 33, 34, 35, 36, 37, 38, 39, 40, 41, 42, 43, 44, 45, 46, 47, 48, 49, 50, 51] (by decide +kernel) ?_
            simp only [vsAll, binA, binLitA, intA, aggA, boolA, loadA, loadRow, partA, partOk, fieldAddrA, fillA, okParts, pickA, partsA, partsOk, opA, guardV, dstOk, Nat.reduceAdd, Nat.reduceLT, Nat.reduceEqDiff, ↓reduceIte, implies_true, eq_self, wtAll, hh_i18]
            refine ⟨fun g => ⟨g, g, eq_sp⟩, ?_⟩
            iterate 4 refine ⟨fun g => ⟨g, fun g2 => by rw [g, g2]; rfl⟩, ?_⟩
            refine qgcall (i64 lo3) (fun g => ⟨trivial, by simp only [vsAll, okAll, opsA, opA, Nat.reduceEqDiff, ↓reduceIte, eq_self, g], haf _⟩) ?_
            simp only [vsAll, binA, binLitA, intA, pickA, opA, guardV, dstOk, Nat.reduceLT, Nat.reduceEqDiff, ↓reduceIte, implies_true, eq_self]
            repeat refine ⟨fun g => ⟨g, fun g2 => by rw [g, g2]; rfl⟩, ?_⟩
            refine condV (fun hz2 => ?_) (fun hz2 => ?_)
            · exfalso
              rcases hfc with ⟨rfl, c1, c2, c3, c4, c5⟩ | ⟨rfl, rfl, rfl, rfl⟩
              · rw [decide_eq_true c1, decide_eq_false (by ((try clear hh_im); (try clear hx); (try clear hh_i15); (try clear hh_i18); omega) : ¬ low < s1), decide_eq_false (by ((try clear hh_im); (try clear hx); (try clear hh_i15); (try clear hh_i18); omega) : ¬ s2 < low), decide_eq_true c4, decide_eq_true c5] at hz2
                simp at hz2
              · simp at hz2
            · clear hfc hz2 haf
              have ew : wantR p L i f t = if hulA (fireN p f) t (min p.H (hotV p true i t) - t) = true then 3 else if takA L f t (min p.H (hotV p true i t) - t) = true then 4 else 0 := rfl
              have hshort : ∀ v : Int, brR p i ((f : Int), (t : Int)) l = v → ¬ v = 0 → E = 0 ∧ W = i ∧ R = v := fun v hv hn => by
                rcases hck with ⟨_, _, _, hall⟩ | ⟨h0, h1, h2, h3, h4⟩
                · have := hall i (by ((try clear hh_im); (try clear hx); (try clear hh_i15); (try clear hh_i18); omega))
                  rw [hx, hv] at this
                  exact absurd this hn
                · have h5 := hEW h0
                  have : ¬ i < W := fun h => by
                    have := h4 i h
                    rw [hx, hv] at this
                    exact hn this
                  have e : W = i := by ((try clear hh_im); (try clear hx); (try clear hh_i15); (try clear hh_i18); omega)
                  refine ⟨h0, e, ?_⟩
                  rw [h2, e, hx, hv]
              have hlong : brR p i ((f : Int), (t : Int)) l = 0 → ¬ (E = 0 ∧ i = W) := fun hv ⟨h0, h1⟩ => by
                rcases hck with ⟨h, _⟩ | ⟨_, _, h2, h3, _⟩
                · rw [h0] at h; cases h
                · rw [← h1, hx, hv] at h2
                  exact h3 h2
              generalize hgen : min p.H (hotV p true i t) = en at *
              have henH : en ≤ p.H := by ((try clear hh_im); (try clear hx); (try clear hh_i15); (try clear hh_i18); omega)
              have hfi := k.fire (f := f) hf
              have hLb : ∀ L' : List (Int × Int), (∀ z ∈ L', z ∈ places p) → ∀ kk v, takF L' kk = some v → ∃ l, keyOf Try.prog 51 kk = some l := fun L' h kk v hkv => takF_key (fun z hz => by
                have := mem_places.1 (h z hz)
                ((try clear hh_im); (try clear hx); (try clear hh_i15); (try clear hh_i18); omega)) kk v hkv
              simp only [vsAll, loadA, loadRow, partA, partOk, fieldAddrA, mmA, okAll, stAll, opsA, opA, dstOk, nilSliceOp, Nat.reduceLT, Nat.reduceEqDiff, ↓reduceIte, eq_self, wtAll, hh_i18, hen]
              refine vs_loop (σ := Nat) (fun n => t + n ≤ en) (fun n => [(3, pptr p), (8, i64 (p.F true : Nat)), (9, i64 (truF p q : Nat)), (10, i64 W), (11, i64 R), (12, i64 E), (13, .map im), (14, i64 i), (15, .ref i15 0 2 0 0), (16, i64 low), (17, i64 high), (21, i64 en), (74, plsAV l), (75, i64 l.length), (76, i64 i), (20, i64 (if takA L f t n = true then 4 else 0)), (22, i64 ((t + n : Nat) : Int))]) (fun n => (H'.set im (.raw (.map es ck))).set i15 (.box 2 1 fun _ => [i64 f, i64 t])) (fun n => en - (t + n)) 0 (by ((try clear hh_im); (try clear hx); (try clear hh_i15); (try clear hh_i18); omega)) ?_ ?_ fun n hn => ?_
              · simp only [vsAll, Nat.reduceEqDiff, ↓reduceIte, eq_self, takA_zero]
              · (repeat (first | exact HSub_rfl | refine HSub_put_eq (by simp only [vsAll, ↓reduceIte, eq_self, hh_i15, hh_i18]) ?_ | refine HSub_drop2 (by simp only [eq_self, hh_im, hh_i15, hh_i18]) ?_ | refine HSub_keep_eq (by simp only [vsAll, binA, binLitA, intA, aggA, aggV, boolA, nilA2, isConst, unA, loadA, loadRow, partA, partOk, fieldAddrA, indexAddrA, indexA, fieldA, extractA, lenA, nilCheckA, boxA, boxZ, cellA, cellsA, fillA, okParts, buildSliceA, buildMutA, makeSliceA, partIdx, elemsA, lensA, ifaceA, convA, mmA, pickA, okAll, stAll, opsA, partsA, partsOk, opA, allocA, boxMutA, newCells, okCells, storeObj, appendA, guardV, taA, nM, mapUpA, lookA, sliceA, sliceS, boundsA, opO, okO, copyA, dstOk, nilA, quietOk, nilSliceOp, deferV, panA, resA, argFr, retA.eq_1, retA.eq_2, Nat.reduceAdd, Nat.reduceSub, Nat.reduceMul, Nat.reduceLT, Nat.reduceLeDiff, Nat.reduceEqDiff, Nat.reduceBEq, Int.reduceAdd, Int.reduceSub, Int.reduceMul, Int.reduceNeg, Int.reduceLE, Int.reduceLT, Int.reduceEq, Int.reduceNe, Int.reduceToNat, ↓reduceIte, reduceCtorEq, implies_true, forall_const, eq_self, ne_eq, arrL, wtAll, Try.ntmps6, Try.results6, hh_im, hx, hh_i15, hh_i18]) ?_))
              · simp only [vsAll, binA, binLitA, intA, opA, dstOk, Nat.reduceLT, Nat.reduceEqDiff, ↓reduceIte, eq_self]
                refine condD (fun hd1 => ?_) (fun hd1 => ?_)
                · have hkd : ∃ l, keyOf Try.prog 51 (plV ((f : Int), ((t + n : Nat) : Int))) = some l := plK _ (by simp only []; ((try clear hh_im); (try clear hx); (try clear hh_i15); (try clear hh_i18); omega)) (by simp only []; ((try clear hh_im); (try clear hx); (try clear hh_i15); (try clear hh_i18); omega))
                  obtain ⟨o, f1, f2, f3, f4, f5⟩ := hes.find und49 key51 hkd (hLb L hLp)
                  simp only [vsAll, binA, binLitA, intA, loadA, loadRow, partA, partOk, fieldAddrA, cellA, cellsA, fillA, okParts, pickA, partsA, partsOk, opA, guardV, lookA, dstOk, Nat.reduceAdd, Nat.reduceLT, Nat.reduceLeDiff, Nat.reduceEqDiff, ↓reduceIte, implies_true, eq_self, wtAll, hh_i15, mapZ49]
                  refine ⟨o, f1 _, ?_⟩
                  rw [f3, takF_get]
                  simp only [vsAll]
                  refine condV (fun hz1 => ?_) (fun hz1 => ?_)
                  · have e4 : (if takA L f t (n + 1) = true then (4 : Int) else 0) = 4 := by
                      rw [Bool.and_eq_true] at hz1
                      rw [takA_succ, hz1.2, Bool.or_true, if_pos rfl]
                    simp only [vsAll, binA, binLitA, intA, opA, dstOk, nilSliceOp, Nat.reduceLT, Nat.reduceEqDiff, ↓reduceIte, eq_self]
                    refine ⟨by simp only [InR_i64]; ((try clear hh_im); (try clear hx); (try clear hh_i15); (try clear hh_i18); omega), loop_next (n + 1) (by ((try clear hh_im); (try clear hx); (try clear hh_i15); (try clear hh_i18); omega)) (by ((try clear hh_im); (try clear hx); (try clear hh_i15); (try clear hh_i18); omega)) ?_ ?_⟩
                    · simp only [vsAll, Nat.reduceEqDiff, ↓reduceIte, eq_self, Int.natCast_add, Int.natCast_one, Int.add_assoc, e4]
                    · (repeat (first | exact HSub_rfl | refine HSub_put_eq (by simp only [vsAll, binA, binLitA, intA, aggA, aggV, boolA, nilA2, isConst, unA, loadA, loadRow, partA, partOk, fieldAddrA, indexAddrA, indexA, fieldA, extractA, lenA, nilCheckA, boxA, boxZ, cellA, cellsA, fillA, okParts, buildSliceA, buildMutA, makeSliceA, partIdx, elemsA, lensA, ifaceA, convA, mmA, pickA, okAll, stAll, opsA, partsA, partsOk, opA, allocA, boxMutA, newCells, okCells, storeObj, appendA, guardV, taA, nM, mapUpA, lookA, sliceA, sliceS, boundsA, opO, okO, copyA, dstOk, nilA, quietOk, nilSliceOp, deferV, panA, resA, argFr, retA.eq_1, retA.eq_2, Nat.reduceAdd, Nat.reduceSub, Nat.reduceMul, Nat.reduceLT, Nat.reduceLeDiff, Nat.reduceEqDiff, Nat.reduceBEq, Int.reduceAdd, Int.reduceSub, Int.reduceMul, Int.reduceNeg, Int.reduceLE, Int.reduceLT, Int.reduceEq, Int.reduceNe, Int.reduceToNat, ↓reduceIte, reduceCtorEq, implies_true, forall_const, eq_self, ne_eq, arrL, wtAll, Try.ntmps6, Try.results6, hh_im, hx, hh_i15, hh_i18]) ?_ | refine HSub_drop2 (by simp only [vsAll, binA, binLitA, intA, aggA, aggV, boolA, nilA2, isConst, unA, loadA, loadRow, partA, partOk, fieldAddrA, indexAddrA, indexA, fieldA, extractA, lenA, nilCheckA, boxA, boxZ, cellA, cellsA, fillA, okParts, buildSliceA, buildMutA, makeSliceA, partIdx, elemsA, lensA, ifaceA, convA, mmA, pickA, okAll, stAll, opsA, partsA, partsOk, opA, allocA, boxMutA, newCells, okCells, storeObj, appendA, guardV, taA, nM, mapUpA, lookA, sliceA, sliceS, boundsA, opO, okO, copyA, dstOk, nilA, quietOk, nilSliceOp, deferV, panA, resA, argFr, retA.eq_1, retA.eq_2, Nat.reduceAdd, Nat.reduceSub, Nat.reduceMul, Nat.reduceLT, Nat.reduceLeDiff, Nat.reduceEqDiff, Nat.reduceBEq, Int.reduceAdd, Int.reduceSub, Int.reduceMul, Int.reduceNeg, Int.reduceLE, Int.reduceLT, Int.reduceEq, Int.reduceNe, Int.reduceToNat, ↓reduceIte, reduceCtorEq, implies_true, forall_const, eq_self, ne_eq, arrL, wtAll, Try.ntmps6, Try.results6, hh_im, hx, hh_i15, hh_i18]) ?_ | refine HSub_keep_eq (by simp only [vsAll, binA, binLitA, intA, aggA, aggV, boolA, nilA2, isConst, unA, loadA, loadRow, partA, partOk, fieldAddrA, indexAddrA, indexA, fieldA, extractA, lenA, nilCheckA, boxA, boxZ, cellA, cellsA, fillA, okParts, buildSliceA, buildMutA, makeSliceA, partIdx, elemsA, lensA, ifaceA, convA, mmA, pickA, okAll, stAll, opsA, partsA, partsOk, opA, allocA, boxMutA, newCells, okCells, storeObj, appendA, guardV, taA, nM, mapUpA, lookA, sliceA, sliceS, boundsA, opO, okO, copyA, dstOk, nilA, quietOk, nilSliceOp, deferV, panA, resA, argFr, retA.eq_1, retA.eq_2, Nat.reduceAdd, Nat.reduceSub, Nat.reduceMul, Nat.reduceLT, Nat.reduceLeDiff, Nat.reduceEqDiff, Nat.reduceBEq, Int.reduceAdd, Int.reduceSub, Int.reduceMul, Int.reduceNeg, Int.reduceLE, Int.reduceLT, Int.reduceEq, Int.reduceNe, Int.reduceToNat, ↓reduceIte, reduceCtorEq, implies_true, forall_const, eq_self, ne_eq, arrL, wtAll, Try.ntmps6, Try.results6, hh_im, hx, hh_i15, hh_i18]) ?_))
                  · have e4 : (if takA L f t (n + 1) = true then (4 : Int) else 0) = if takA L f t n = true then 4 else 0 := by
                      rw [takA_succ]
                      cases hta : takA L f t n
                      · rw [hta] at hz1
                        have hz1 : decide (((f : Int), ((t + n : Nat) : Int)) ∈ L) = false := by simpa using hz1
                        rw [hz1]; rfl
                      · rfl
                    simp only [vsAll, binA, binLitA, intA, opA, dstOk, nilSliceOp, Nat.reduceLT, Nat.reduceEqDiff, ↓reduceIte, eq_self]
                    refine ⟨by simp only [InR_i64]; ((try clear hh_im); (try clear hx); (try clear hh_i15); (try clear hh_i18); omega), loop_next (n + 1) (by ((try clear hh_im); (try clear hx); (try clear hh_i15); (try clear hh_i18); omega)) (by ((try clear hh_im); (try clear hx); (try clear hh_i15); (try clear hh_i18); omega)) ?_ ?_⟩
                    · simp only [vsAll, Nat.reduceEqDiff, ↓reduceIte, eq_self, Int.natCast_add, Int.natCast_one, Int.add_assoc, e4]
                    · (repeat (first | exact HSub_rfl | refine HSub_put_eq (by simp only [vsAll, binA, binLitA, intA, aggA, aggV, boolA, nilA2, isConst, unA, loadA, loadRow, partA, partOk, fieldAddrA, indexAddrA, indexA, fieldA, extractA, lenA, nilCheckA, boxA, boxZ, cellA, cellsA, fillA, okParts, buildSliceA, buildMutA, makeSliceA, partIdx, elemsA, lensA, ifaceA, convA, mmA, pickA, okAll, stAll, opsA, partsA, partsOk, opA, allocA, boxMutA, newCells, okCells, storeObj, appendA, guardV, taA, nM, mapUpA, lookA, sliceA, sliceS, boundsA, opO, okO, copyA, dstOk, nilA, quietOk, nilSliceOp, deferV, panA, resA, argFr, retA.eq_1, retA.eq_2, Nat.reduceAdd, Nat.reduceSub, Nat.reduceMul, Nat.reduceLT, Nat.reduceLeDiff, Nat.reduceEqDiff, Nat.reduceBEq, Int.reduceAdd, Int.reduceSub, Int.reduceMul, Int.reduceNeg, Int.reduceLE, Int.reduceLT, Int.reduceEq, Int.reduceNe, Int.reduceToNat, ↓reduceIte, reduceCtorEq, implies_true, forall_const, eq_self, ne_eq, arrL, wtAll, Try.ntmps6, Try.results6, hh_im, hx, hh_i15, hh_i18]) ?_ | refine HSub_drop2 (by simp only [vsAll, binA, binLitA, intA, aggA, aggV, boolA, nilA2, isConst, unA, loadA, loadRow, partA, partOk, fieldAddrA, indexAddrA, indexA, fieldA, extractA, lenA, nilCheckA, boxA, boxZ, cellA, cellsA, fillA, okParts, buildSliceA, buildMutA, makeSliceA, partIdx, elemsA, lensA, ifaceA, convA, mmA, pickA, okAll, stAll, opsA, partsA, partsOk, opA, allocA, boxMutA, newCells, okCells, storeObj, appendA, guardV, taA, nM, mapUpA, lookA, sliceA, sliceS, boundsA, opO, okO, copyA, dstOk, nilA, quietOk, nilSliceOp, deferV, panA, resA, argFr, retA.eq_1, retA.eq_2, Nat.reduceAdd, Nat.reduceSub, Nat.reduceMul, Nat.reduceLT, Nat.reduceLeDiff, Nat.reduceEqDiff, Nat.reduceBEq, Int.reduceAdd, Int.reduceSub, Int.reduceMul, Int.reduceNeg, Int.reduceLE, Int.reduceLT, Int.reduceEq, Int.reduceNe, Int.reduceToNat, ↓reduceIte, reduceCtorEq, implies_true, forall_const, eq_self, ne_eq, arrL, wtAll, Try.ntmps6, Try.results6, hh_im, hx, hh_i15, hh_i18]) ?_ | refine HSub_keep_eq (by simp only [vsAll, binA, binLitA, intA, aggA, aggV, boolA, nilA2, isConst, unA, loadA, loadRow, partA, partOk, fieldAddrA, indexAddrA, indexA, fieldA, extractA, lenA, nilCheckA, boxA, boxZ, cellA, cellsA, fillA, okParts, buildSliceA, buildMutA, makeSliceA, partIdx, elemsA, lensA, ifaceA, convA, mmA, pickA, okAll, stAll, opsA, partsA, partsOk, opA, allocA, boxMutA, newCells, okCells, storeObj, appendA, guardV, taA, nM, mapUpA, lookA, sliceA, sliceS, boundsA, opO, okO, copyA, dstOk, nilA, quietOk, nilSliceOp, deferV, panA, resA, argFr, retA.eq_1, retA.eq_2, Nat.reduceAdd, Nat.reduceSub, Nat.reduceMul, Nat.reduceLT, Nat.reduceLeDiff, Nat.reduceEqDiff, Nat.reduceBEq, Int.reduceAdd, Int.reduceSub, Int.reduceMul, Int.reduceNeg, Int.reduceLE, Int.reduceLT, Int.reduceEq, Int.reduceNe, Int.reduceToNat, ↓reduceIte, reduceCtorEq, implies_true, forall_const, eq_self, ne_eq, arrL, wtAll, Try.ntmps6, Try.results6, hh_im, hx, hh_i15, hh_i18]) ?_))
                · have ed : t + n = en := by ((try clear hh_im); (try clear hx); (try clear hh_i15); (try clear hh_i18); omega)
                  have ed2 : n = en - t := by ((try clear hh_im); (try clear hx); (try clear hh_i15); (try clear hh_i18); omega)
                  subst ed2
                  generalize hwa : takA L f t (en - t) = wa at ew
                  simp only [vsAll, loadA, loadRow, partA, partOk, fieldAddrA, opA, dstOk, nilSliceOp, Nat.reduceLT, Nat.reduceEqDiff, ↓reduceIte, eq_self, wtAll]
                  refine vs_loop (σ := Nat) (fun n => t + n ≤ en) (fun n => [(3, pptr p), (8, i64 (p.F true : Nat)), (9, i64 (truF p q : Nat)), (10, i64 W), (11, i64 R), (12, i64 E), (13, .map im), (14, i64 i), (15, .ref i15 0 2 0 0), (16, i64 low), (17, i64 high), (21, i64 en), (74, plsAV l), (75, i64 l.length), (76, i64 i), (20, i64 (if hulA (fireN p f) t n = true then 3 else if wa = true then 4 else 0)), (23, i64 ((t + n : Nat) : Int))]) (fun n => (H'.set im (.raw (.map es ck))).set i15 (.box 2 1 fun _ => [i64 f, i64 t])) (fun n => en - (t + n)) 0 (by ((try clear hh_im); (try clear hx); (try clear hh_i15); (try clear hh_i18); omega)) ?_ ?_ fun n hn => ?_
                  · simp only [vsAll, Nat.reduceEqDiff, ↓reduceIte, eq_self, hulA_zero]
                  · (repeat (first | exact HSub_rfl | refine HSub_put_eq (by simp only [vsAll, binA, binLitA, intA, aggA, aggV, boolA, nilA2, isConst, unA, loadA, loadRow, partA, partOk, fieldAddrA, indexAddrA, indexA, fieldA, extractA, lenA, nilCheckA, boxA, boxZ, cellA, cellsA, fillA, okParts, buildSliceA, buildMutA, makeSliceA, partIdx, elemsA, lensA, ifaceA, convA, mmA, pickA, okAll, stAll, opsA, partsA, partsOk, opA, allocA, boxMutA, newCells, okCells, storeObj, appendA, guardV, taA, nM, mapUpA, lookA, sliceA, sliceS, boundsA, opO, okO, copyA, dstOk, nilA, quietOk, nilSliceOp, deferV, panA, resA, argFr, retA.eq_1, retA.eq_2, Nat.reduceAdd, Nat.reduceSub, Nat.reduceMul, Nat.reduceLT, Nat.reduceLeDiff, Nat.reduceEqDiff, Nat.reduceBEq, Int.reduceAdd, Int.reduceSub, Int.reduceMul, Int.reduceNeg, Int.reduceLE, Int.reduceLT, Int.reduceEq, Int.reduceNe, Int.reduceToNat, ↓reduceIte, reduceCtorEq, implies_true, forall_const, eq_self, ne_eq, arrL, wtAll, Try.ntmps6, Try.results6, hh_im, hx, hh_i15, hh_i18]) ?_ | refine HSub_drop2 (by simp only [vsAll, binA, binLitA, intA, aggA, aggV, boolA, nilA2, isConst, unA, loadA, loadRow, partA, partOk, fieldAddrA, indexAddrA, indexA, fieldA, extractA, lenA, nilCheckA, boxA, boxZ, cellA, cellsA, fillA, okParts, buildSliceA, buildMutA, makeSliceA, partIdx, elemsA, lensA, ifaceA, convA, mmA, pickA, okAll, stAll, opsA, partsA, partsOk, opA, allocA, boxMutA, newCells, okCells, storeObj, appendA, guardV, taA, nM, mapUpA, lookA, sliceA, sliceS, boundsA, opO, okO, copyA, dstOk, nilA, quietOk, nilSliceOp, deferV, panA, resA, argFr, retA.eq_1, retA.eq_2, Nat.reduceAdd, Nat.reduceSub, Nat.reduceMul, Nat.reduceLT, Nat.reduceLeDiff, Nat.reduceEqDiff, Nat.reduceBEq, Int.reduceAdd, Int.reduceSub, Int.reduceMul, Int.reduceNeg, Int.reduceLE, Int.reduceLT, Int.reduceEq, Int.reduceNe, Int.reduceToNat, ↓reduceIte, reduceCtorEq, implies_true, forall_const, eq_self, ne_eq, arrL, wtAll, Try.ntmps6, Try.results6, hh_im, hx, hh_i15, hh_i18]) ?_ | refine HSub_keep_eq (by simp only [vsAll, binA, binLitA, intA, aggA, aggV, boolA, nilA2, isConst, unA, loadA, loadRow, partA, partOk, fieldAddrA, indexAddrA, indexA, fieldA, extractA, lenA, nilCheckA, boxA, boxZ, cellA, cellsA, fillA, okParts, buildSliceA, buildMutA, makeSliceA, partIdx, elemsA, lensA, ifaceA, convA, mmA, pickA, okAll, stAll, opsA, partsA, partsOk, opA, allocA, boxMutA, newCells, okCells, storeObj, appendA, guardV, taA, nM, mapUpA, lookA, sliceA, sliceS, boundsA, opO, okO, copyA, dstOk, nilA, quietOk, nilSliceOp, deferV, panA, resA, argFr, retA.eq_1, retA.eq_2, Nat.reduceAdd, Nat.reduceSub, Nat.reduceMul, Nat.reduceLT, Nat.reduceLeDiff, Nat.reduceEqDiff, Nat.reduceBEq, Int.reduceAdd, Int.reduceSub, Int.reduceMul, Int.reduceNeg, Int.reduceLE, Int.reduceLT, Int.reduceEq, Int.reduceNe, Int.reduceToNat, ↓reduceIte, reduceCtorEq, implies_true, forall_const, eq_self, ne_eq, arrL, wtAll, Try.ntmps6, Try.results6, hh_im, hx, hh_i15, hh_i18]) ?_))
                  · simp only [vsAll, binA, binLitA, intA, opA, dstOk, Nat.reduceLT, Nat.reduceEqDiff, ↓reduceIte, eq_self]
                    refine condD (fun hd2 => ?_) (fun hd2 => ?_)
                    · have hd0 : 0 ≤ (fireN p f : Int) / 2 ^ (t + n) ∧ (fireN p f : Int) / 2 ^ (t + n) ≤ fireN p f := ⟨Int.ediv_nonneg (by ((try clear hh_im); (try clear hx); (try clear hh_i15); (try clear hh_i18); omega)) (Int.le_of_lt (Int.pow_pos (by decide))), Int.ediv_le_self _ (by ((try clear hh_im); (try clear hx); (try clear hh_i15); (try clear hh_i18); omega))⟩
                      simp only [vsAll, binA, binLitA, intA, loadA, loadRow, partA, partOk, fieldAddrA, indexAddrA, opA, dstOk, Nat.reduceLT, Nat.reduceEqDiff, Int.reduceLE, Int.reduceToNat, ↓reduceIte, eq_self, wtAll, intF_at, hfi.1]
                      rw [bit_eq]
                      refine ⟨⟨by ((try clear hh_im); (try clear hx); (try clear hh_i15); (try clear hh_i18); omega), by ((try clear hh_im); (try clear hx); (try clear hh_i15); (try clear hh_i18); omega)⟩, hf, ⟨by ((try clear hh_im); (try clear hx); (try clear hh_i15); (try clear hh_i18); omega), by ((try clear hh_im); (try clear hx); (try clear hh_i15); (try clear hh_i18); omega), rfl⟩, ⟨hd0.1, by simp only [InR_i64]; ((try clear hh_im); (try clear hx); (try clear hh_i15); (try clear hh_i18); omega), by simp only [InR_i64]; ((try clear hh_im); (try clear hx); (try clear hh_i15); (try clear hh_i18); omega)⟩, condV (fun hz3 => ?_) (fun hz3 => ?_)⟩
                      · have e4 : (if hulA (fireN p f) t (n + 1) = true then (3 : Int) else if wa = true then 4 else 0) = 3 := by
                          rw [hulA_succ, hz3, Bool.or_true, if_pos rfl]
                        simp only [vsAll, binA, binLitA, intA, opA, dstOk, nilSliceOp, Nat.reduceLT, Nat.reduceEqDiff, ↓reduceIte, eq_self]
                        refine ⟨by simp only [InR_i64]; ((try clear hh_im); (try clear hx); (try clear hh_i15); (try clear hh_i18); omega), loop_next (n + 1) (by ((try clear hh_im); (try clear hx); (try clear hh_i15); (try clear hh_i18); omega)) (by ((try clear hh_im); (try clear hx); (try clear hh_i15); (try clear hh_i18); omega)) ?_ ?_⟩
                        · simp only [vsAll, Nat.reduceEqDiff, ↓reduceIte, eq_self, Int.natCast_add, Int.natCast_one, Int.add_assoc, e4]
                        · (repeat (first | exact HSub_rfl | refine HSub_put_eq (by simp only [vsAll, binA, binLitA, intA, aggA, aggV, boolA, nilA2, isConst, unA, loadA, loadRow, partA, partOk, fieldAddrA, indexAddrA, indexA, fieldA, extractA, lenA, nilCheckA, boxA, boxZ, cellA, cellsA, fillA, okParts, buildSliceA, buildMutA, makeSliceA, partIdx, elemsA, lensA, ifaceA, convA, mmA, pickA, okAll, stAll, opsA, partsA, partsOk, opA, allocA, boxMutA, newCells, okCells, storeObj, appendA, guardV, taA, nM, mapUpA, lookA, sliceA, sliceS, boundsA, opO, okO, copyA, dstOk, nilA, quietOk, nilSliceOp, deferV, panA, resA, argFr, retA.eq_1, retA.eq_2, Nat.reduceAdd, Nat.reduceSub, Nat.reduceMul, Nat.reduceLT, Nat.reduceLeDiff, Nat.reduceEqDiff, Nat.reduceBEq, Int.reduceAdd, Int.reduceSub, Int.reduceMul, Int.reduceNeg, Int.reduceLE, Int.reduceLT, Int.reduceEq, Int.reduceNe, Int.reduceToNat, ↓reduceIte, reduceCtorEq, implies_true, forall_const, eq_self, ne_eq, arrL, wtAll, Try.ntmps6, Try.results6, hh_im, hx, hh_i15, hh_i18]) ?_ | refine HSub_drop2 (by simp only [vsAll, binA, binLitA, intA, aggA, aggV, boolA, nilA2, isConst, unA, loadA, loadRow, partA, partOk, fieldAddrA, indexAddrA, indexA, fieldA, extractA, lenA, nilCheckA, boxA, boxZ, cellA, cellsA, fillA, okParts, buildSliceA, buildMutA, makeSliceA, partIdx, elemsA, lensA, ifaceA, convA, mmA, pickA, okAll, stAll, opsA, partsA, partsOk, opA, allocA, boxMutA, newCells, okCells, storeObj, appendA, guardV, taA, nM, mapUpA, lookA, sliceA, sliceS, boundsA, opO, okO, copyA, dstOk, nilA, quietOk, nilSliceOp, deferV, panA, resA, argFr, retA.eq_1, retA.eq_2, Nat.reduceAdd, Nat.reduceSub, Nat.reduceMul, Nat.reduceLT, Nat.reduceLeDiff, Nat.reduceEqDiff, Nat.reduceBEq, Int.reduceAdd, Int.reduceSub, Int.reduceMul, Int.reduceNeg, Int.reduceLE, Int.reduceLT, Int.reduceEq, Int.reduceNe, Int.reduceToNat, ↓reduceIte, reduceCtorEq, implies_true, forall_const, eq_self, ne_eq, arrL, wtAll, Try.ntmps6, Try.results6, hh_im, hx, hh_i15, hh_i18]) ?_ | refine HSub_keep_eq (by simp only [vsAll, binA, binLitA, intA, aggA, aggV, boolA, nilA2, isConst, unA, loadA, loadRow, partA, partOk, fieldAddrA, indexAddrA, indexA, fieldA, extractA, lenA, nilCheckA, boxA, boxZ, cellA, cellsA, fillA, okParts, buildSliceA, buildMutA, makeSliceA, partIdx, elemsA, lensA, ifaceA, convA, mmA, pickA, okAll, stAll, opsA, partsA, partsOk, opA, allocA, boxMutA, newCells, okCells, storeObj, appendA, guardV, taA, nM, mapUpA, lookA, sliceA, sliceS, boundsA, opO, okO, copyA, dstOk, nilA, quietOk, nilSliceOp, deferV, panA, resA, argFr, retA.eq_1, retA.eq_2, Nat.reduceAdd, Nat.reduceSub, Nat.reduceMul, Nat.reduceLT, Nat.reduceLeDiff, Nat.reduceEqDiff, Nat.reduceBEq, Int.reduceAdd, Int.reduceSub, Int.reduceMul, Int.reduceNeg, Int.reduceLE, Int.reduceLT, Int.reduceEq, Int.reduceNe, Int.reduceToNat, ↓reduceIte, reduceCtorEq, implies_true, forall_const, eq_self, ne_eq, arrL, wtAll, Try.ntmps6, Try.results6, hh_im, hx, hh_i15, hh_i18]) ?_))
                      · have e4 : (if hulA (fireN p f) t (n + 1) = true then (3 : Int) else if wa = true then 4 else 0) = if hulA (fireN p f) t n = true then (3 : Int) else if wa = true then 4 else 0 := by
                          rw [hulA_succ, hz3, Bool.or_false]
                        simp only [vsAll, binA, binLitA, intA, opA, dstOk, nilSliceOp, Nat.reduceLT, Nat.reduceEqDiff, ↓reduceIte, eq_self]
                        refine ⟨by simp only [InR_i64]; ((try clear hh_im); (try clear hx); (try clear hh_i15); (try clear hh_i18); omega), loop_next (n + 1) (by ((try clear hh_im); (try clear hx); (try clear hh_i15); (try clear hh_i18); omega)) (by ((try clear hh_im); (try clear hx); (try clear hh_i15); (try clear hh_i18); omega)) ?_ ?_⟩
                        · simp only [vsAll, Nat.reduceEqDiff, ↓reduceIte, eq_self, Int.natCast_add, Int.natCast_one, Int.add_assoc, e4]
                        · (repeat (first | exact HSub_rfl | refine HSub_put_eq (by simp only [vsAll, binA, binLitA, intA, aggA, aggV, boolA, nilA2, isConst, unA, loadA, loadRow, partA, partOk, fieldAddrA, indexAddrA, indexA, fieldA, extractA, lenA, nilCheckA, boxA, boxZ, cellA, cellsA, fillA, okParts, buildSliceA, buildMutA, makeSliceA, partIdx, elemsA, lensA, ifaceA, convA, mmA, pickA, okAll, stAll, opsA, partsA, partsOk, opA, allocA, boxMutA, newCells, okCells, storeObj, appendA, guardV, taA, nM, mapUpA, lookA, sliceA, sliceS, boundsA, opO, okO, copyA, dstOk, nilA, quietOk, nilSliceOp, deferV, panA, resA, argFr, retA.eq_1, retA.eq_2, Nat.reduceAdd, Nat.reduceSub, Nat.reduceMul, Nat.reduceLT, Nat.reduceLeDiff, Nat.reduceEqDiff, Nat.reduceBEq, Int.reduceAdd, Int.reduceSub, Int.reduceMul, Int.reduceNeg, Int.reduceLE, Int.reduceLT, Int.reduceEq, Int.reduceNe, Int.reduceToNat, ↓reduceIte, reduceCtorEq, implies_true, forall_const, eq_self, ne_eq, arrL, wtAll, Try.ntmps6, Try.results6, hh_im, hx, hh_i15, hh_i18]) ?_ | refine HSub_drop2 (by simp only [vsAll, binA, binLitA, intA, aggA, aggV, boolA, nilA2, isConst, unA, loadA, loadRow, partA, partOk, fieldAddrA, indexAddrA, indexA, fieldA, extractA, lenA, nilCheckA, boxA, boxZ, cellA, cellsA, fillA, okParts, buildSliceA, buildMutA, makeSliceA, partIdx, elemsA, lensA, ifaceA, convA, mmA, pickA, okAll, stAll, opsA, partsA, partsOk, opA, allocA, boxMutA, newCells, okCells, storeObj, appendA, guardV, taA, nM, mapUpA, lookA, sliceA, sliceS, boundsA, opO, okO, copyA, dstOk, nilA, quietOk, nilSliceOp, deferV, panA, resA, argFr, retA.eq_1, retA.eq_2, Nat.reduceAdd, Nat.reduceSub, Nat.reduceMul, Nat.reduceLT, Nat.reduceLeDiff, Nat.reduceEqDiff, Nat.reduceBEq, Int.reduceAdd, Int.reduceSub, Int.reduceMul, Int.reduceNeg, Int.reduceLE, Int.reduceLT, Int.reduceEq, Int.reduceNe, Int.reduceToNat, ↓reduceIte, reduceCtorEq, implies_true, forall_const, eq_self, ne_eq, arrL, wtAll, Try.ntmps6, Try.results6, hh_im, hx, hh_i15, hh_i18]) ?_ | refine HSub_keep_eq (by simp only [vsAll, binA, binLitA, intA, aggA, aggV, boolA, nilA2, isConst, unA, loadA, loadRow, partA, partOk, fieldAddrA, indexAddrA, indexA, fieldA, extractA, lenA, nilCheckA, boxA, boxZ, cellA, cellsA, fillA, okParts, buildSliceA, buildMutA, makeSliceA, partIdx, elemsA, lensA, ifaceA, convA, mmA, pickA, okAll, stAll, opsA, partsA, partsOk, opA, allocA, boxMutA, newCells, okCells, storeObj, appendA, guardV, taA, nM, mapUpA, lookA, sliceA, sliceS, boundsA, opO, okO, copyA, dstOk, nilA, quietOk, nilSliceOp, deferV, panA, resA, argFr, retA.eq_1, retA.eq_2, Nat.reduceAdd, Nat.reduceSub, Nat.reduceMul, Nat.reduceLT, Nat.reduceLeDiff, Nat.reduceEqDiff, Nat.reduceBEq, Int.reduceAdd, Int.reduceSub, Int.reduceMul, Int.reduceNeg, Int.reduceLE, Int.reduceLT, Int.reduceEq, Int.reduceNe, Int.reduceToNat, ↓reduceIte, reduceCtorEq, implies_true, forall_const, eq_self, ne_eq, arrL, wtAll, Try.ntmps6, Try.results6, hh_im, hx, hh_i15, hh_i18]) ?_))
                    · have ed : t + n = en := by ((try clear hh_im); (try clear hx); (try clear hh_i15); (try clear hh_i18); omega)
                      have ed2 : n = en - t := by ((try clear hh_im); (try clear hx); (try clear hh_i15); (try clear hh_i18); omega)
                      subst ed2
                      have epot : p.ps.getD i po0 = p.pot i := rfl
                      rw [← ew]
                      generalize wantR p L i f t = wt at hbr
                      simp only [vsAll, binA, binLitA, intA, loadA, loadRow, partA, partOk, fieldAddrA, indexAddrA, opA, dstOk, Nat.reduceLT, Nat.reduceEqDiff, ↓reduceIte, eq_self, wtAll, psF_at, epot, hby]
                      refine ⟨⟨by ((try clear hh_im); (try clear hx); (try clear hh_i15); (try clear hh_i18); omega), by ((try clear hh_im); (try clear hx); (try clear hh_i15); (try clear hh_i18); omega)⟩, by ((try clear hh_im); (try clear hx); (try clear hh_i15); (try clear hh_i18); omega), condV (fun hz4 => ?_) (fun hz4 => ?_)⟩
                      · have hz4' := of_decide_eq_true hz4
                        simp only [vsAll, opA, dstOk, nilSliceOp, Nat.reduceLT, eq_self]
                        refine vs_draw2 [0, 0, 0, 0, 0, 0, 0, 0, 0] [] [0, 1, 2, 3, 4, 5, 6, 7, 8] (by decide +kernel) ?_
                        simp only [vsAll, binA, binLitA, intA, loadA, loadRow, partA, partOk, fieldAddrA, indexAddrA, opA, dstOk, Nat.reduceLT, Nat.reduceEqDiff, ↓reduceIte, eq_self, wtAll, psF_at, epot]
                        refine ⟨⟨by ((try clear hh_im); (try clear hx); (try clear hh_i15); (try clear hh_i18); omega), by ((try clear hh_im); (try clear hx); (try clear hh_i15); (try clear hh_i18); omega)⟩, by ((try clear hh_im); (try clear hx); (try clear hh_i15); (try clear hh_i18); omega), condV (fun hz5 => ?_) (fun hz5 => ?_)⟩
                        · simp only [vsAll, binA, binLitA, intA, pickA, opA, guardV, dstOk, nilSliceOp, Nat.reduceLT, Nat.reduceEqDiff, ↓reduceIte, implies_true, eq_self]
                          have hv : brR p i ((f : Int), (t : Int)) l = 1 := by rw [hbr, if_pos (of_decide_eq_true hz5)]
                          obtain ⟨rfl, rfl, rfl⟩ := hshort 1 hv (by first | decide | assumption)
                          simp only [vsAll, binA, binLitA, intA, opA, guardV, dstOk, Nat.reduceLT, Nat.reduceEqDiff, ↓reduceIte, forall_const, eq_self]
                          refine gcall (boo true) (fun hg => ⟨trivial, by simp only [okAll, opsA], awake_tri _⟩) ?_
                          simp only [vsAll, pickA, opA, dstOk, nilSliceOp, resA, retA.eq_1, Nat.reduceLT, Nat.reduceEqDiff, ↓reduceIte, implies_true, eq_self, Try.results6]
                          exact dropR_pure rfl (by (repeat (first | exact HSub_rfl | refine HSub_put_eq (by simp only [vsAll, binA, binLitA, intA, aggA, aggV, boolA, nilA2, isConst, unA, loadA, loadRow, partA, partOk, fieldAddrA, indexAddrA, indexA, fieldA, extractA, lenA, nilCheckA, boxA, boxZ, cellA, cellsA, fillA, okParts, buildSliceA, buildMutA, makeSliceA, partIdx, elemsA, lensA, ifaceA, convA, mmA, pickA, okAll, stAll, opsA, partsA, partsOk, opA, allocA, boxMutA, newCells, okCells, storeObj, appendA, guardV, taA, nM, mapUpA, lookA, sliceA, sliceS, boundsA, opO, okO, copyA, dstOk, nilA, quietOk, nilSliceOp, deferV, panA, resA, argFr, retA.eq_1, retA.eq_2, Nat.reduceAdd, Nat.reduceSub, Nat.reduceMul, Nat.reduceLT, Nat.reduceLeDiff, Nat.reduceEqDiff, Nat.reduceBEq, Int.reduceAdd, Int.reduceSub, Int.reduceMul, Int.reduceNeg, Int.reduceLE, Int.reduceLT, Int.reduceEq, Int.reduceNe, Int.reduceToNat, ↓reduceIte, reduceCtorEq, implies_true, forall_const, eq_self, ne_eq, arrL, wtAll, Try.ntmps6, Try.results6, hh_im, hx, hh_i15, hh_i18]) ?_ | refine HSub_drop2 (by simp only [eq_self, hh_im, hh_i15]) ?_ | refine HSub_keep_eq (by simp only [vsAll, binA, binLitA, intA, aggA, aggV, boolA, nilA2, isConst, unA, loadA, loadRow, partA, partOk, fieldAddrA, indexAddrA, indexA, fieldA, extractA, lenA, nilCheckA, boxA, boxZ, cellA, cellsA, fillA, okParts, buildSliceA, buildMutA, makeSliceA, partIdx, elemsA, lensA, ifaceA, convA, mmA, pickA, okAll, stAll, opsA, partsA, partsOk, opA, allocA, boxMutA, newCells, okCells, storeObj, appendA, guardV, taA, nM, mapUpA, lookA, sliceA, sliceS, boundsA, opO, okO, copyA, dstOk, nilA, quietOk, nilSliceOp, deferV, panA, resA, argFr, retA.eq_1, retA.eq_2, Nat.reduceAdd, Nat.reduceSub, Nat.reduceMul, Nat.reduceLT, Nat.reduceLeDiff, Nat.reduceEqDiff, Nat.reduceBEq, Int.reduceAdd, Int.reduceSub, Int.reduceMul, Int.reduceNeg, Int.reduceLE, Int.reduceLT, Int.reduceEq, Int.reduceNe, Int.reduceToNat, ↓reduceIte, reduceCtorEq, implies_true, forall_const, eq_self, ne_eq, arrL, wtAll, Try.ntmps6, Try.results6, hh_im, hx, hh_i15, hh_i18]) ?_)))
                        · simp only [vsAll, binA, binLitA, intA, pickA, opA, guardV, dstOk, Nat.reduceLT, Nat.reduceEqDiff, ↓reduceIte, implies_true, eq_self]
                          have hv : brR p i ((f : Int), (t : Int)) l = 2 := by rw [hbr, if_neg (of_decide_eq_false hz5), if_pos hz4']
                          obtain ⟨rfl, rfl, rfl⟩ := hshort 2 hv (by first | decide | assumption)
                          simp only [vsAll, binA, binLitA, intA, opA, guardV, dstOk, Nat.reduceLT, Nat.reduceEqDiff, ↓reduceIte, forall_const, eq_self]
                          refine gcall (boo true) (fun hg => ⟨trivial, by simp only [okAll, opsA], awake_tri _⟩) ?_
                          simp only [vsAll, pickA, opA, dstOk, nilSliceOp, resA, retA.eq_1, Nat.reduceLT, Nat.reduceEqDiff, ↓reduceIte, implies_true, eq_self, Try.results6]
                          exact dropR_pure rfl (by (repeat (first | exact HSub_rfl | refine HSub_put_eq (by simp only [vsAll, binA, binLitA, intA, aggA, aggV, boolA, nilA2, isConst, unA, loadA, loadRow, partA, partOk, fieldAddrA, indexAddrA, indexA, fieldA, extractA, lenA, nilCheckA, boxA, boxZ, cellA, cellsA, fillA, okParts, buildSliceA, buildMutA, makeSliceA, partIdx, elemsA, lensA, ifaceA, convA, mmA, pickA, okAll, stAll, opsA, partsA, partsOk, opA, allocA, boxMutA, newCells, okCells, storeObj, appendA, guardV, taA, nM, mapUpA, lookA, sliceA, sliceS, boundsA, opO, okO, copyA, dstOk, nilA, quietOk, nilSliceOp, deferV, panA, resA, argFr, retA.eq_1, retA.eq_2, Nat.reduceAdd, Nat.reduceSub, Nat.reduceMul, Nat.reduceLT, Nat.reduceLeDiff, Nat.reduceEqDiff, Nat.reduceBEq, Int.reduceAdd, Int.reduceSub, Int.reduceMul, Int.reduceNeg, Int.reduceLE, Int.reduceLT, Int.reduceEq, Int.reduceNe, Int.reduceToNat, ↓reduceIte, reduceCtorEq, implies_true, forall_const, eq_self, ne_eq, arrL, wtAll, Try.ntmps6, Try.results6, hh_im, hx, hh_i15, hh_i18]) ?_ | refine HSub_drop2 (by simp only [eq_self, hh_im, hh_i15]) ?_ | refine HSub_keep_eq (by simp only [vsAll, binA, binLitA, intA, aggA, aggV, boolA, nilA2, isConst, unA, loadA, loadRow, partA, partOk, fieldAddrA, indexAddrA, indexA, fieldA, extractA, lenA, nilCheckA, boxA, boxZ, cellA, cellsA, fillA, okParts, buildSliceA, buildMutA, makeSliceA, partIdx, elemsA, lensA, ifaceA, convA, mmA, pickA, okAll, stAll, opsA, partsA, partsOk, opA, allocA, boxMutA, newCells, okCells, storeObj, appendA, guardV, taA, nM, mapUpA, lookA, sliceA, sliceS, boundsA, opO, okO, copyA, dstOk, nilA, quietOk, nilSliceOp, deferV, panA, resA, argFr, retA.eq_1, retA.eq_2, Nat.reduceAdd, Nat.reduceSub, Nat.reduceMul, Nat.reduceLT, Nat.reduceLeDiff, Nat.reduceEqDiff, Nat.reduceBEq, Int.reduceAdd, Int.reduceSub, Int.reduceMul, Int.reduceNeg, Int.reduceLE, Int.reduceLT, Int.reduceEq, Int.reduceNe, Int.reduceToNat, ↓reduceIte, reduceCtorEq, implies_true, forall_const, eq_self, ne_eq, arrL, wtAll, Try.ntmps6, Try.results6, hh_im, hx, hh_i15, hh_i18]) ?_)))
                      · have hz4' := of_decide_eq_false hz4
                        simp only [vsAll]
                        refine vs_draw2 [0, 0, 0, 0, 0, 0, 0, 0, 0] [] [0, 1, 2, 3, 4, 5, 6, 7, 8] (by decide +kernel) ?_
                        simp only [vsAll, binA, binLitA, intA, loadA, loadRow, partA, partOk, fieldAddrA, indexAddrA, opA, dstOk, Nat.reduceLT, Nat.reduceEqDiff, ↓reduceIte, eq_self, wtAll, psF_at, epot]
                        refine ⟨⟨by ((try clear hh_im); (try clear hx); (try clear hh_i15); (try clear hh_i18); omega), by ((try clear hh_im); (try clear hx); (try clear hh_i15); (try clear hh_i18); omega)⟩, by ((try clear hh_im); (try clear hx); (try clear hh_i15); (try clear hh_i18); omega), condV (fun hz5 => ?_) (fun hz5 => ?_)⟩
                        · simp only [vsAll, binA, binLitA, intA, pickA, opA, guardV, dstOk, nilSliceOp, Nat.reduceLT, Nat.reduceEqDiff, ↓reduceIte, implies_true, eq_self]
                          have hv : brR p i ((f : Int), (t : Int)) l = 1 := by rw [hbr, if_pos (of_decide_eq_true hz5)]
                          obtain ⟨rfl, rfl, rfl⟩ := hshort 1 hv (by first | decide | assumption)
                          simp only [vsAll, binA, binLitA, intA, opA, guardV, dstOk, Nat.reduceLT, Nat.reduceEqDiff, ↓reduceIte, forall_const, eq_self]
                          refine gcall (boo true) (fun hg => ⟨trivial, by simp only [okAll, opsA], awake_tri _⟩) ?_
                          simp only [vsAll, pickA, opA, dstOk, nilSliceOp, resA, retA.eq_1, Nat.reduceLT, Nat.reduceEqDiff, ↓reduceIte, implies_true, eq_self, Try.results6]
                          exact dropR_pure rfl (by (repeat (first | exact HSub_rfl | refine HSub_put_eq (by simp only [vsAll, binA, binLitA, intA, aggA, aggV, boolA, nilA2, isConst, unA, loadA, loadRow, partA, partOk, fieldAddrA, indexAddrA, indexA, fieldA, extractA, lenA, nilCheckA, boxA, boxZ, cellA, cellsA, fillA, okParts, buildSliceA, buildMutA, makeSliceA, partIdx, elemsA, lensA, ifaceA, convA, mmA, pickA, okAll, stAll, opsA, partsA, partsOk, opA, allocA, boxMutA, newCells, okCells, storeObj, appendA, guardV, taA, nM, mapUpA, lookA, sliceA, sliceS, boundsA, opO, okO, copyA, dstOk, nilA, quietOk, nilSliceOp, deferV, panA, resA, argFr, retA.eq_1, retA.eq_2, Nat.reduceAdd, Nat.reduceSub, Nat.reduceMul, Nat.reduceLT, Nat.reduceLeDiff, Nat.reduceEqDiff, Nat.reduceBEq, Int.reduceAdd, Int.reduceSub, Int.reduceMul, Int.reduceNeg, Int.reduceLE, Int.reduceLT, Int.reduceEq, Int.reduceNe, Int.reduceToNat, ↓reduceIte, reduceCtorEq, implies_true, forall_const, eq_self, ne_eq, arrL, wtAll, Try.ntmps6, Try.results6, hh_im, hx, hh_i15, hh_i18]) ?_ | refine HSub_drop2 (by simp only [eq_self, hh_im, hh_i15]) ?_ | refine HSub_keep_eq (by simp only [vsAll, binA, binLitA, intA, aggA, aggV, boolA, nilA2, isConst, unA, loadA, loadRow, partA, partOk, fieldAddrA, indexAddrA, indexA, fieldA, extractA, lenA, nilCheckA, boxA, boxZ, cellA, cellsA, fillA, okParts, buildSliceA, buildMutA, makeSliceA, partIdx, elemsA, lensA, ifaceA, convA, mmA, pickA, okAll, stAll, opsA, partsA, partsOk, opA, allocA, boxMutA, newCells, okCells, storeObj, appendA, guardV, taA, nM, mapUpA, lookA, sliceA, sliceS, boundsA, opO, okO, copyA, dstOk, nilA, quietOk, nilSliceOp, deferV, panA, resA, argFr, retA.eq_1, retA.eq_2, Nat.reduceAdd, Nat.reduceSub, Nat.reduceMul, Nat.reduceLT, Nat.reduceLeDiff, Nat.reduceEqDiff, Nat.reduceBEq, Int.reduceAdd, Int.reduceSub, Int.reduceMul, Int.reduceNeg, Int.reduceLE, Int.reduceLT, Int.reduceEq, Int.reduceNe, Int.reduceToNat, ↓reduceIte, reduceCtorEq, implies_true, forall_const, eq_self, ne_eq, arrL, wtAll, Try.ntmps6, Try.results6, hh_im, hx, hh_i15, hh_i18]) ?_)))
                        · rw [if_neg (of_decide_eq_false hz5), if_neg hz4'] at hbr
                          by_cases hw0 : wt = 0
                          · subst hw0
                            have hlong := hlong hbr
                            have hlow := hlow (by ((try clear hh_im); (try clear hx); (try clear hh_i15); (try clear hh_i18); omega))
                            have dd : (decide (E = 0) && decide ((i : Int) = (W : Int))) = false := by
                              rw [← Bool.not_eq_true, Bool.and_eq_true, decide_eq_true_eq, decide_eq_true_eq]
                              rintro ⟨a1, a2⟩
                              exact hlong ⟨a1, by ((try clear hh_im); (try clear hx); (try clear hh_i15); (try clear hh_i18); omega)⟩
                            have d6 : decide ((p.pot i).bb < low) = false := decide_eq_false (by ((try clear hh_im); (try clear hx); (try clear hh_i15); (try clear hh_i18); omega))
                            simp only [vsAll, binA, binLitA, intA, loadA, loadRow, partA, partOk, fieldAddrA, indexAddrA, pickA, opA, guardV, dstOk, nilSliceOp, Nat.reduceLT, Nat.reduceEqDiff, ↓reduceIte, implies_true, eq_self, wtAll, dd, psF_at, epot, d6]
                            refine ⟨⟨by ((try clear hh_im); (try clear hx); (try clear hh_i15); (try clear hh_i18); omega), by ((try clear hh_im); (try clear hx); (try clear hh_i15); (try clear hh_i18); omega)⟩, by ((try clear hh_im); (try clear hx); (try clear hh_i15); (try clear hh_i18); omega), ?_⟩
                            refine vs_loop (σ := Nat × List (Int × Int) × Array MapEntry × Nat) (fun y => t + y.1 ≤ en ∧ MapIs (takF y.2.1) y.2.2.1 ∧ (∀ z, z ∈ y.2.1 ↔ z ∈ L ∨ (z.1 = (f : Int) ∧ (t : Int) ≤ z.2 ∧ z.2 < ((t + y.1 : Nat) : Int)))) (fun y => [(3, pptr p), (8, i64 (p.F true : Nat)), (9, i64 (truF p q : Nat)), (10, i64 W), (11, i64 R), (12, i64 E), (13, .map im), (15, .ref i15 0 2 0 0), (21, i64 en), (74, plsAV l), (75, i64 l.length), (76, i64 i), (24, i64 ((t + y.1 : Nat) : Int))]) (fun y => (H'.set im (.raw (.map y.2.2.1 y.2.2.2))).set i15 (.box 2 1 fun _ => [i64 f, i64 t])) (fun y => en - (t + y.1)) (0, L, es, ck) ⟨by simp only []; ((try clear hh_im); (try clear hx); (try clear hh_i15); (try clear hh_i18); omega), hes, fun z => ⟨fun h => .inl h, fun h => h.elim id fun h => absurd h (by simp only []; ((try clear hh_im); (try clear hx); (try clear hh_i15); (try clear hh_i18); omega))⟩⟩ ?_ ?_ fun ⟨n, L2, es2, ck2⟩ hn => ?_
                            · simp only [vsAll, Nat.reduceEqDiff, ↓reduceIte, eq_self]
                            · (repeat (first | exact HSub_rfl | refine HSub_put_eq (by simp only [vsAll, binA, binLitA, intA, aggA, aggV, boolA, nilA2, isConst, unA, loadA, loadRow, partA, partOk, fieldAddrA, indexAddrA, indexA, fieldA, extractA, lenA, nilCheckA, boxA, boxZ, cellA, cellsA, fillA, okParts, buildSliceA, buildMutA, makeSliceA, partIdx, elemsA, lensA, ifaceA, convA, mmA, pickA, okAll, stAll, opsA, partsA, partsOk, opA, allocA, boxMutA, newCells, okCells, storeObj, appendA, guardV, taA, nM, mapUpA, lookA, sliceA, sliceS, boundsA, opO, okO, copyA, dstOk, nilA, quietOk, nilSliceOp, deferV, panA, resA, argFr, retA.eq_1, retA.eq_2, Nat.reduceAdd, Nat.reduceSub, Nat.reduceMul, Nat.reduceLT, Nat.reduceLeDiff, Nat.reduceEqDiff, Nat.reduceBEq, Int.reduceAdd, Int.reduceSub, Int.reduceMul, Int.reduceNeg, Int.reduceLE, Int.reduceLT, Int.reduceEq, Int.reduceNe, Int.reduceToNat, ↓reduceIte, reduceCtorEq, implies_true, forall_const, eq_self, ne_eq, arrL, wtAll, Try.ntmps6, Try.results6, hh_im, hx, hh_i15, hh_i18]) ?_ | refine HSub_drop2 (by simp only [vsAll, binA, binLitA, intA, aggA, aggV, boolA, nilA2, isConst, unA, loadA, loadRow, partA, partOk, fieldAddrA, indexAddrA, indexA, fieldA, extractA, lenA, nilCheckA, boxA, boxZ, cellA, cellsA, fillA, okParts, buildSliceA, buildMutA, makeSliceA, partIdx, elemsA, lensA, ifaceA, convA, mmA, pickA, okAll, stAll, opsA, partsA, partsOk, opA, allocA, boxMutA, newCells, okCells, storeObj, appendA, guardV, taA, nM, mapUpA, lookA, sliceA, sliceS, boundsA, opO, okO, copyA, dstOk, nilA, quietOk, nilSliceOp, deferV, panA, resA, argFr, retA.eq_1, retA.eq_2, Nat.reduceAdd, Nat.reduceSub, Nat.reduceMul, Nat.reduceLT, Nat.reduceLeDiff, Nat.reduceEqDiff, Nat.reduceBEq, Int.reduceAdd, Int.reduceSub, Int.reduceMul, Int.reduceNeg, Int.reduceLE, Int.reduceLT, Int.reduceEq, Int.reduceNe, Int.reduceToNat, ↓reduceIte, reduceCtorEq, implies_true, forall_const, eq_self, ne_eq, arrL, wtAll, Try.ntmps6, Try.results6, hh_im, hx, hh_i15, hh_i18]) ?_ | refine HSub_keep_eq (by simp only [vsAll, binA, binLitA, intA, aggA, aggV, boolA, nilA2, isConst, unA, loadA, loadRow, partA, partOk, fieldAddrA, indexAddrA, indexA, fieldA, extractA, lenA, nilCheckA, boxA, boxZ, cellA, cellsA, fillA, okParts, buildSliceA, buildMutA, makeSliceA, partIdx, elemsA, lensA, ifaceA, convA, mmA, pickA, okAll, stAll, opsA, partsA, partsOk, opA, allocA, boxMutA, newCells, okCells, storeObj, appendA, guardV, taA, nM, mapUpA, lookA, sliceA, sliceS, boundsA, opO, okO, copyA, dstOk, nilA, quietOk, nilSliceOp, deferV, panA, resA, argFr, retA.eq_1, retA.eq_2, Nat.reduceAdd, Nat.reduceSub, Nat.reduceMul, Nat.reduceLT, Nat.reduceLeDiff, Nat.reduceEqDiff, Nat.reduceBEq, Int.reduceAdd, Int.reduceSub, Int.reduceMul, Int.reduceNeg, Int.reduceLE, Int.reduceLT, Int.reduceEq, Int.reduceNe, Int.reduceToNat, ↓reduceIte, reduceCtorEq, implies_true, forall_const, eq_self, ne_eq, arrL, wtAll, Try.ntmps6, Try.results6, hh_im, hx, hh_i15, hh_i18]) ?_))
                            · obtain ⟨hn, hes2, hL2⟩ := hn
                              simp only [] at hn hes2 hL2
                              have hL2p : ∀ z ∈ L2, z ∈ places p := fun z hz => by
                                rcases (hL2 z).1 hz with h | ⟨h1, h2, h3⟩
                                · exact hLp z h
                                · exact mem_places.2 ⟨by ((try clear hh_im); (try clear hx); (try clear hh_i15); (try clear hh_i18); omega), by ((try clear hh_im); (try clear hx); (try clear hh_i15); (try clear hh_i18); omega), by ((try clear hh_im); (try clear hx); (try clear hh_i15); (try clear hh_i18); omega)⟩
                              simp only [vsAll, binA, binLitA, intA, opA, dstOk, Nat.reduceLT, Nat.reduceEqDiff, ↓reduceIte, eq_self]
                              refine condD (fun hd3 => ?_) (fun hd3 => ?_)
                              · have hkd : ∃ l, keyOf Try.prog 51 (plV ((f : Int), ((t + n : Nat) : Int))) = some l := plK _ (by simp only []; ((try clear hh_im); (try clear hx); (try clear hh_i15); (try clear hh_i18); omega)) (by simp only []; ((try clear hh_im); (try clear hx); (try clear hh_i15); (try clear hh_i18); omega))
                                obtain ⟨o, f1, f2, f3, f4, f5⟩ := hes2.find und49 key51 hkd (hLb L2 hL2p)
                                have hup := f5 (.bool true) ck2
                                rw [takF_add] at hup
                                simp only [vsAll, binA, binLitA, intA, loadA, loadRow, partA, partOk, fieldAddrA, cellA, cellsA, fillA, okParts, partsA, partsOk, opA, mapUpA, dstOk, nilSliceOp, Nat.reduceAdd, Nat.reduceLT, Nat.reduceLeDiff, Nat.reduceEqDiff, ↓reduceIte, eq_self, wtAll, hh_i15]
                                refine ⟨o, f2, ?_⟩
                                refine ⟨by simp only [InR_i64]; ((try clear hh_im); (try clear hx); (try clear hh_i15); (try clear hh_i18); omega), loop_next (n + 1, ((f : Int), ((t + n : Nat) : Int)) :: L2, updM es2 (plV ((f : Int), ((t + n : Nat) : Int))) (.bool true) ck2 o, updC ck2 o) ⟨by simp only []; ((try clear hh_im); (try clear hx); (try clear hh_i15); (try clear hh_i18); omega), hup, fun z => ?_⟩ (by simp only []; ((try clear hh_im); (try clear hx); (try clear hh_i15); (try clear hh_i18); omega)) ?_ ?_⟩
                                · rw [List.mem_cons, hL2]
                                  constructor
                                  · rintro (rfl | h | ⟨h1, h2, h3⟩)
                                    · exact .inr ⟨rfl, by simp only []; ((try clear hh_im); (try clear hx); (try clear hh_i15); (try clear hh_i18); omega), by simp only []; ((try clear hh_im); (try clear hx); (try clear hh_i15); (try clear hh_i18); omega)⟩
                                    · exact .inl h
                                    · exact .inr ⟨h1, h2, by simp only []; ((try clear hh_im); (try clear hx); (try clear hh_i15); (try clear hh_i18); omega)⟩
                                  · rintro (h | ⟨h1, h2, h3⟩)
                                    · exact .inr (.inl h)
                                    · by_cases e : z.2 = ((t + n : Nat) : Int)
                                      · exact .inl (Prod.ext h1 e)
                                      · exact .inr (.inr ⟨h1, h2, by simp only [] at h3; ((try clear hh_im); (try clear hx); (try clear hh_i15); (try clear hh_i18); omega)⟩)
                                · simp only [vsAll, Nat.reduceEqDiff, ↓reduceIte, eq_self, Int.natCast_add, Int.natCast_one, Int.add_assoc]
                                · (repeat (first | exact HSub_rfl | refine HSub_put_eq (by simp only [vsAll, ↓reduceIte, eq_self, hh_i15]) ?_ | refine HSub_drop2 (by simp only [eq_self, hh_im, hh_i15]) ?_ | refine HSub_keep_eq (by simp only [vsAll, binA, binLitA, intA, aggA, aggV, boolA, nilA2, isConst, unA, loadA, loadRow, partA, partOk, fieldAddrA, indexAddrA, indexA, fieldA, extractA, lenA, nilCheckA, boxA, boxZ, cellA, cellsA, fillA, okParts, buildSliceA, buildMutA, makeSliceA, partIdx, elemsA, lensA, ifaceA, convA, mmA, pickA, okAll, stAll, opsA, partsA, partsOk, opA, allocA, boxMutA, newCells, okCells, storeObj, appendA, guardV, taA, nM, mapUpA, lookA, sliceA, sliceS, boundsA, opO, okO, copyA, dstOk, nilA, quietOk, nilSliceOp, deferV, panA, resA, argFr, retA.eq_1, retA.eq_2, Nat.reduceAdd, Nat.reduceSub, Nat.reduceMul, Nat.reduceLT, Nat.reduceLeDiff, Nat.reduceEqDiff, Nat.reduceBEq, Int.reduceAdd, Int.reduceSub, Int.reduceMul, Int.reduceNeg, Int.reduceLE, Int.reduceLT, Int.reduceEq, Int.reduceNe, Int.reduceToNat, ↓reduceIte, reduceCtorEq, implies_true, forall_const, eq_self, ne_eq, arrL, wtAll, Try.ntmps6, Try.results6, hh_im, hx, hh_i15, hh_i18]) ?_))
                              · have ed : t + n = en := by ((try clear hh_im); (try clear hx); (try clear hh_i15); (try clear hh_i18); omega)
                                have hilt : i < l.length := by ((try clear hh_im); (try clear hx); (try clear hh_i15); (try clear hh_i18); omega)
                                simp only [vsAll, binA, binLitA, intA, opA, dstOk, Nat.reduceLT, Nat.reduceEqDiff, ↓reduceIte, eq_self]
                                refine ⟨by simp only [InR_i64]; ((try clear hh_im); (try clear hx); (try clear hh_i15); (try clear hh_i18); omega), loop_next (i + 1, L2, es2, ck2) ⟨by simp only []; ((try clear hh_im); (try clear hx); (try clear hh_i15); (try clear hh_i18); omega), hes2, hL2p, fun z => ?_, fun j hj => ?_, fun h0 => ?_⟩ (by simp only []; ((try clear hh_im); (try clear hx); (try clear hh_i15); (try clear hh_i18); omega)) ?_ ?_⟩
                                · rw [hL2]
                                  constructor
                                  · rintro (h | ⟨h1, h2, h3⟩)
                                    · obtain ⟨j, a1, a2⟩ := (hL z).1 h
                                      exact ⟨j, by simp only []; ((try clear hh_im); (try clear hx); (try clear hh_i15); (try clear hh_i18); omega), a2⟩
                                    · refine ⟨i, by simp only []; ((try clear hh_im); (try clear hx); (try clear hh_i15); (try clear hh_i18); omega), by rw [hx]; exact h1.symm, by ((try clear hh_im); (try clear hx); (try clear hh_i15); (try clear hh_i18); omega), ?_⟩
                                      rw [hx]
                                      exact (hen2 _).2 ⟨by ((try clear hh_im); (try clear hx); (try clear hh_i15); (try clear hh_i18); omega), by ((try clear hh_im); (try clear hx); (try clear hh_i15); (try clear hh_i18); omega)⟩
                                  · rintro ⟨j, a1, a2, a3, a4⟩
                                    by_cases e : j = i
                                    · subst e
                                      rw [hx] at a2 a4
                                      have := (hen2 _).1 a4
                                      exact .inr ⟨a2.symm, by ((try clear hh_im); (try clear hx); (try clear hh_i15); (try clear hh_i18); omega), by ((try clear hh_im); (try clear hx); (try clear hh_i15); (try clear hh_i18); omega)⟩
                                    · exact .inl ((hL z).2 ⟨j, by simp only [] at a1; ((try clear hh_im); (try clear hx); (try clear hh_i15); (try clear hh_i18); omega), a2, a3, a4⟩)
                                · by_cases e : j = i
                                  · subst e; rw [hx]; exact hbr
                                  · exact hb0 j (by simp only [] at hj; ((try clear hh_im); (try clear hx); (try clear hh_i15); (try clear hh_i18); omega))
                                · have := hEW h0
                                  have h2 : ¬ i = W := fun h => hlong ⟨h0, h⟩
                                  simp only []; ((try clear hh_im); (try clear hx); (try clear hh_i15); (try clear hh_i18); omega)
                                · simp only [vsAll, Nat.reduceEqDiff, ↓reduceIte, eq_self, Int.natCast_add, Int.natCast_one]
                                · (repeat (first | exact HSub_rfl | refine HSub_put_eq (by simp only [vsAll, ↓reduceIte, eq_self, hh_i15]) ?_ | refine HSub_drop2 (by simp only [eq_self, hh_im, hh_i15]) ?_ | refine HSub_keep_eq (by simp only [vsAll, binA, binLitA, intA, aggA, aggV, boolA, nilA2, isConst, unA, loadA, loadRow, partA, partOk, fieldAddrA, indexAddrA, indexA, fieldA, extractA, lenA, nilCheckA, boxA, boxZ, cellA, cellsA, fillA, okParts, buildSliceA, buildMutA, makeSliceA, partIdx, elemsA, lensA, ifaceA, convA, mmA, pickA, okAll, stAll, opsA, partsA, partsOk, opA, allocA, boxMutA, newCells, okCells, storeObj, appendA, guardV, taA, nM, mapUpA, lookA, sliceA, sliceS, boundsA, opO, okO, copyA, dstOk, nilA, quietOk, nilSliceOp, deferV, panA, resA, argFr, retA.eq_1, retA.eq_2, Nat.reduceAdd, Nat.reduceSub, Nat.reduceMul, Nat.reduceLT, Nat.reduceLeDiff, Nat.reduceEqDiff, Nat.reduceBEq, Int.reduceAdd, Int.reduceSub, Int.reduceMul, Int.reduceNeg, Int.reduceLE, Int.reduceLT, Int.reduceEq, Int.reduceNe, Int.reduceToNat, ↓reduceIte, reduceCtorEq, implies_true, forall_const, eq_self, ne_eq, arrL, wtAll, Try.ntmps6, Try.results6, hh_im, hx, hh_i15, hh_i18]) ?_))
                          · simp only [vsAll, binA, binLitA, intA, pickA, opA, guardV, dstOk, Nat.reduceLT, Nat.reduceEqDiff, ↓reduceIte, implies_true, eq_self]
                            have hv : brR p i ((f : Int), (t : Int)) l = wt := by exact hbr
                            obtain ⟨rfl, rfl, rfl⟩ := hshort wt hv (by first | decide | assumption)
                            simp only [vsAll, binA, binLitA, intA, opA, guardV, dstOk, Nat.reduceLT, Nat.reduceEqDiff, ↓reduceIte, forall_const, eq_self]
                            refine gcall (boo true) (fun hg => ⟨trivial, by simp only [okAll, opsA], awake_tri _⟩) ?_
                            simp only [vsAll, pickA, opA, dstOk, nilSliceOp, resA, retA.eq_1, Nat.reduceLT, Nat.reduceEqDiff, ↓reduceIte, implies_true, eq_self, Try.results6]
                            exact dropR_pure rfl (by (repeat (first | exact HSub_rfl | refine HSub_put_eq (by simp only [vsAll, binA, binLitA, intA, aggA, aggV, boolA, nilA2, isConst, unA, loadA, loadRow, partA, partOk, fieldAddrA, indexAddrA, indexA, fieldA, extractA, lenA, nilCheckA, boxA, boxZ, cellA, cellsA, fillA, okParts, buildSliceA, buildMutA, makeSliceA, partIdx, elemsA, lensA, ifaceA, convA, mmA, pickA, okAll, stAll, opsA, partsA, partsOk, opA, allocA, boxMutA, newCells, okCells, storeObj, appendA, guardV, taA, nM, mapUpA, lookA, sliceA, sliceS, boundsA, opO, okO, copyA, dstOk, nilA, quietOk, nilSliceOp, deferV, panA, resA, argFr, retA.eq_1, retA.eq_2, Nat.reduceAdd, Nat.reduceSub, Nat.reduceMul, Nat.reduceLT, Nat.reduceLeDiff, Nat.reduceEqDiff, Nat.reduceBEq, Int.reduceAdd, Int.reduceSub, Int.reduceMul, Int.reduceNeg, Int.reduceLE, Int.reduceLT, Int.reduceEq, Int.reduceNe, Int.reduceToNat, ↓reduceIte, reduceCtorEq, implies_true, forall_const, eq_self, ne_eq, arrL, wtAll, Try.ntmps6, Try.results6, hh_im, hx, hh_i15, hh_i18]) ?_ | refine HSub_drop2 (by simp only [eq_self, hh_im, hh_i15]) ?_ | refine HSub_keep_eq (by simp only [vsAll, binA, binLitA, intA, aggA, aggV, boolA, nilA2, isConst, unA, loadA, loadRow, partA, partOk, fieldAddrA, indexAddrA, indexA, fieldA, extractA, lenA, nilCheckA, boxA, boxZ, cellA, cellsA, fillA, okParts, buildSliceA, buildMutA, makeSliceA, partIdx, elemsA, lensA, ifaceA, convA, mmA, pickA, okAll, stAll, opsA, partsA, partsOk, opA, allocA, boxMutA, newCells, okCells, storeObj, appendA, guardV, taA, nM, mapUpA, lookA, sliceA, sliceS, boundsA, opO, okO, copyA, dstOk, nilA, quietOk, nilSliceOp, deferV, panA, resA, argFr, retA.eq_1, retA.eq_2, Nat.reduceAdd, Nat.reduceSub, Nat.reduceMul, Nat.reduceLT, Nat.reduceLeDiff, Nat.reduceEqDiff, Nat.reduceBEq, Int.reduceAdd, Int.reduceSub, Int.reduceMul, Int.reduceNeg, Int.reduceLE, Int.reduceLT, Int.reduceEq, Int.reduceNe, Int.reduceToNat, ↓reduceIte, reduceCtorEq, implies_true, forall_const, eq_self, ne_eq, arrL, wtAll, Try.ntmps6, Try.results6, hh_im, hx, hh_i15, hh_i18]) ?_)))
          · have ei : i = l.length := by ((try clear hh_im); omega)
            have hE : ¬ E = 0 := fun h0 => by
              have h1 := hEW h0
              rcases hck with ⟨h, _⟩ | ⟨_, h2, _⟩
              · rw [h0] at h; cases h
              · ((try clear hh_im); omega)
            have dE : decide (E = 0) = false := decide_eq_false hE
            simp only [vsAll, binA, binLitA, intA, opA, guardV, dstOk, Nat.reduceLT, Nat.reduceEqDiff, ↓reduceIte, eq_self, dE]
            refine gcall (boo true) (fun hg => ⟨trivial, by simp only [okAll, opsA], awake_tri _⟩) ?_
            simp only [vsAll, pickA, opA, dstOk, nilSliceOp, resA, retA.eq_1, Nat.reduceLT, Nat.reduceEqDiff, ↓reduceIte, implies_true, eq_self, Try.results6]
            exact dropR_pure rfl (by (repeat (first | exact HSub_rfl | refine HSub_put_eq (by simp only [vsAll, binA, binLitA, intA, aggA, aggV, boolA, nilA2, isConst, unA, loadA, loadRow, partA, partOk, fieldAddrA, indexAddrA, indexA, fieldA, extractA, lenA, nilCheckA, boxA, boxZ, cellA, cellsA, fillA, okParts, buildSliceA, buildMutA, makeSliceA, partIdx, elemsA, lensA, ifaceA, convA, mmA, pickA, okAll, stAll, opsA, partsA, partsOk, opA, allocA, boxMutA, newCells, okCells, storeObj, appendA, guardV, taA, nM, mapUpA, lookA, sliceA, sliceS, boundsA, opO, okO, copyA, dstOk, nilA, quietOk, nilSliceOp, deferV, panA, resA, argFr, retA.eq_1, retA.eq_2, Nat.reduceAdd, Nat.reduceSub, Nat.reduceMul, Nat.reduceLT, Nat.reduceLeDiff, Nat.reduceEqDiff, Nat.reduceBEq, Int.reduceAdd, Int.reduceSub, Int.reduceMul, Int.reduceNeg, Int.reduceLE, Int.reduceLT, Int.reduceEq, Int.reduceNe, Int.reduceToNat, ↓reduceIte, reduceCtorEq, implies_true, forall_const, eq_self, ne_eq, arrL, wtAll, Try.ntmps6, Try.results6, hh_im]) ?_ | refine HSub_drop2 (by simp only [eq_self, hh_im]) ?_ | refine HSub_keep_eq (by simp only [vsAll, binA, binLitA, intA, aggA, aggV, boolA, nilA2, isConst, unA, loadA, loadRow, partA, partOk, fieldAddrA, indexAddrA, indexA, fieldA, extractA, lenA, nilCheckA, boxA, boxZ, cellA, cellsA, fillA, okParts, buildSliceA, buildMutA, makeSliceA, partIdx, elemsA, lensA, ifaceA, convA, mmA, pickA, okAll, stAll, opsA, partsA, partsOk, opA, allocA, boxMutA, newCells, okCells, storeObj, appendA, guardV, taA, nM, mapUpA, lookA, sliceA, sliceS, boundsA, opO, okO, copyA, dstOk, nilA, quietOk, nilSliceOp, deferV, panA, resA, argFr, retA.eq_1, retA.eq_2, Nat.reduceAdd, Nat.reduceSub, Nat.reduceMul, Nat.reduceLT, Nat.reduceLeDiff, Nat.reduceEqDiff, Nat.reduceBEq, Int.reduceAdd, Int.reduceSub, Int.reduceMul, Int.reduceNeg, Int.reduceLE, Int.reduceLT, Int.reduceEq, Int.reduceNe, Int.reduceToNat, ↓reduceIte, reduceCtorEq, implies_true, forall_const, eq_self, ne_eq, arrL, wtAll, Try.ntmps6, Try.results6, hh_im]) ?_)))
end Go.Proofs.Ytliomkpmadpibaa
end
section
set_option linter.unusedVariables false
set_option linter.unusedSimpArgs false
set_option maxRecDepth 100000
namespace Go.Proofs.Ytliomkpmadpibaa
open Go.V Go.ChangeShapes Go.WideShapes Go.ChangeAt Go.RowKit
theorem pitch_cells : cellsT Try.prog 9 25 = some [.int .i64, .int .i64, .int .i64, .sl [.int .i64], .sl [.int .i64, .int .i64, .int .i64]] := by kernel_rfl
theorem ints_of {av : AV} (h : CKA (.sl [.int .i64]) av) : ∃ l : List Int, l.length ≤ maxLen ∧ AV.Le av (intsAV l) := by
  obtain ⟨l, h1, h2⟩ := told_slice (α := Int) (fun z => [i64 z]) 0 (fun cs hcs => by
    obtain ⟨z, hz, _⟩ := told_int 0 hcs rfl
    exact ⟨z, rfl, fun j hj => by
      match j, hj with
      | 0, _ => rw [hz]; exact AV.Le.refl _⟩) h
  exact ⟨l, h1, h2⟩
theorem pots_of {av : AV} (h : CKA (.sl [.int .i64, .int .i64, .int .i64]) av) : ∃ l : List Po, l.length ≤ maxLen ∧ AV.Le av (psAV l) := by
  obtain ⟨l, h1, h2⟩ := told_slice (α := Po) Po.cs po0 (fun cs hcs => by
    obtain ⟨a, ha, _⟩ := told_int 0 hcs rfl
    obtain ⟨b, hb, _⟩ := told_int 1 hcs rfl
    obtain ⟨c, hc, _⟩ := told_int 2 hcs rfl
    exact ⟨⟨a, b, c⟩, rfl, fun j hj => by
      match j, hj with
      | 0, _ => rw [ha]; exact AV.Le.refl _
      | 1, _ => rw [hb]; exact AV.Le.refl _
      | 2, _ => rw [hc]; exact AV.Le.refl _⟩) h
  exact ⟨l, h1, h2⟩
theorem pitch_rel {H : Type} {enc : TypeId × Value → H} {W : World} {sp : Nat → Bool} {held : Bool} {v : Value} {d : DataW H} {ps : List MemPlace}
    {base : Nat} (hv : Value.okWide Try.prog W .any base 25 v) (h : DataW.Trod enc Try.prog W 0 sp held 25 v d ps) : ∃ p : Pt, True ∧ VRel (st0 W) p.av v := by
  obtain ⟨cs, hcs, hv⟩ := trod_agg pitch_cells (by decide) h
  obtain ⟨hr, h0, _⟩ := told_int 0 hcs rfl
  obtain ⟨fro, h1, _⟩ := told_int 1 hcs rfl
  obtain ⟨per, h2, _⟩ := told_int 2 hcs rfl
  obtain ⟨fs, l3, h3⟩ := ints_of (hcs.2 3 _ rfl)
  obtain ⟨ps, l4, h4⟩ := pots_of (hcs.2 4 _ rfl)
  refine ⟨⟨hr, fro, per, fs, ps⟩, trivial, AV.Le.aggD (cs := cs) hcs.1.symm (fun j hj => ?_) _ _ hv⟩
  have hj5 : j < 5 := by have := hcs.1; simp at this; omega
  match j, hj5 with
  | 0, _ => rw [h0]; exact AV.Le.refl _
  | 1, _ => rw [h1]; exact AV.Le.refl _
  | 2, _ => rw [h2]; exact AV.Le.refl _
  | 3, _ => exact h3
  | 4, _ => exact h4
theorem Try.own : ownKnob Try.prog.godebug = none := by kernel_rfl
theorem u4 : Try.prog.underlying 4 = some .bool := by kernel_rfl
theorem u47 : Try.prog.underlying 47 = some (.int .u16) := by kernel_rfl
theorem u46 : Try.prog.underlying 46 = some (.slice 5) := by kernel_rfl
theorem wf_u16 {n : Int} (h : (Lit.int .u16 n).wf = true) : 0 ≤ n ∧ n ≤ 65535 := by
  simp [Lit.wf, IntKind.min, IntKind.max, IntKind.signed, IntKind.bits] at h
  omega
def iz : Value → Int
  | .int _ n => n
  | _ => 0
theorem by_rel {H : Type} {enc : TypeId × Value → H} {W : World} {sp : Nat → Bool} {held : Bool} {v : Value} {d : DataW H} {ps : List MemPlace} {base : Nat}
    (hv : Value.okWide Try.prog W .any base 46 v) (h : DataW.Trod enc Try.prog W 0 sp held 46 v d ps) : ∃ (N : Nat) (b : Nat → Int), (N < 2 ^ 63 ∧ ∀ i, i < N → 0 ≤ b i ∧ b i ≤ 255) ∧ VRel (st0 W) (.rsl N 1 (byF b)) v := by
  obtain ⟨a, len, cap, rfl⟩ := okWide_slice u46 hv
  obtain ⟨fuel, h⟩ := h
  obtain ⟨n, g, hn, hl, hr⟩ := trod_slice_rel (d := 4) (e := 5) (ks := [.int .u8]) u46 (by decide +kernel) (by decide +kernel) (by decide) (show DataW.trod enc Try.prog W 0 sp held fuel 46 [.slice a len cap] = some (d, ps) from h)
  have key : ∀ i, i < n → ∃ z : Int, g i = [.int .u8 z] ∧ 0 ≤ z ∧ z ≤ 255 := fun i hi => by
    obtain ⟨h1, h2⟩ := hl i hi
    match hg : g i, h1 with
    | [x], _ =>
      obtain ⟨z, rfl, hz⟩ := h2 0 (.int .u8) x rfl (by rw [hg]; rfl)
      refine ⟨z, rfl, ?_⟩
      simp [Lit.wf, IntKind.min, IntKind.max, IntKind.signed, IntKind.bits] at hz
      omega
  have hm : maxLen < 2 ^ 63 := by decide
  refine ⟨n, fun i => iz ((g i).getD 0 undef), ⟨by omega, fun i hi => ?_⟩, AV.Le.rsl (fun i hi => ?_) _ _ hr⟩
  · obtain ⟨z, e, hz⟩ := key i hi
    simp only [e]; exact hz
  · obtain ⟨z, e, hz⟩ := key i hi
    simp only [e]; simp only [byF, e]; rfl
end Go.Proofs.Ytliomkpmadpibaa
end
section
set_option linter.unusedVariables false
set_option linter.unusedSimpArgs false
set_option maxRecDepth 100000
namespace Go.Proofs.Ytliomkpmadpibaa
open Go.V Go.ChangeShapes Go.WideShapes Go.ChangeAt Go.RowKit
theorem pitchTrue_lifted (os : Os) (started : os.Started) (H : Type) (enc : TypeId × Value → H) :
    ReturnsInHanded {} Try.checked os 6 .any (Rows.pitchTrueSpec.pre6 enc Try.prog Try.f6 Rows.pitchTrueRow.domain false) (Rows.pitchTrueSpec.post enc Try.prog Try.f6 false true false false) := by
  refine returnsInHanded_of_change (C := Try.checked) Try.own started (by kernel_rfl) Try.func6
    (ChangeSpec.witness6 (enc := enc) (C := Try.checked) false ⟨#[], #[.agg #[.int .i64 0, .int .i64 0, .int .i64 0, .slice none 0 0, .slice none 0 0], .slice none 0 0, .int .u16 0], []⟩ 8 (by kernel_rfl) (by kernel_rfl) (by kernel_rfl) (by kernel_rfl)) ?_
  intro W base args ds gs before hval hW hcnd _
  have hW' := hW
  obtain ⟨p, q, hA, hV, rfl, hfz, hnd⟩ := hW
  obtain ⟨rfl, rfl⟩ := trodVars_none hV
  rw [show Try.f6.params.toList = [25, 46, 47] from by kernel_rfl] at hA
  obtain ⟨v0, v1, v2, d0, d1, d2, p0, p1, p2, rfl, rfl, rfl, h0, h1, h2⟩ := trodAll_three hA
  have hval : ∀ (j : Nat) t v, Try.f6.params[j]? = some t → (#[v0, v1, v2] : Array Value)[j]? = some v → Value.okWide Try.prog W .any base t v := hval
  rw [show Try.f6.params = #[25, 46, 47] from by kernel_rfl] at hval
  obtain ⟨x0, b0, r0⟩ := pitch_rel (hval 0 25 v0 rfl rfl) h0
  obtain ⟨N1, x1, b1, r1⟩ := by_rel (hval 1 46 v1 rfl rfl) h1
  obtain ⟨x2, rfl, rfl, rfl, w2⟩ := open_int u47 (hval 2 47 v2 rfl rfl) h2
  refine (law_calls (W := W) (args := #[v0, v1, .int .u16 x2]) Try.func6 (by kernel_rfl) rfl (Tri.mono (true_law x0 N1 x1 x2 H0 b1 (wf_u16 w2)) ?_) (fun p hp => by cases hp) ⟨rfl, fun k hk => match k, hk with | 0, _ => r0 | 1, _ => r1 | 2, _ => .lit _⟩).mono fun e W' he => ?_
  · rintro r H' ⟨rfl, _⟩; rfl
  · obtain ⟨rfl, hh, ho, hp⟩ := he
    exact ⟨_, rfl, law_post (d := 6) rfl (tb := 4) (by kernel_rfl) u4 (by decide +kernel) hW' rfl hh ho hp⟩

theorem pitchTrue_holds : Rows.PitchTrueSaid :=
  OpenClaim.holds_of_wide (p := Try.pinned) (s := Rows.pitchTrueSpec) (c := Rows.pitchTrueRow) 6 Try.f6 rfl rfl rfl rfl rfl rfl rfl ⟨rfl, rfl, rfl, rfl, rfl⟩ rfl rfl rfl rfl rfl (by kernel_rfl) Try.func6 (by kernel_rfl)
    (of_decide_eq_true (by kernel_rfl)) (by unfold Func.isWrapper; first | (rw [if_pos (by decide +kernel)]; kernel_rfl) | (rw [if_neg (by decide +kernel)]; exact ⟨rfl, rfl⟩))
    (fun os started H enc _ => pitchTrue_lifted os started H enc)

end Go.Proofs.Ytliomkpmadpibaa
end
