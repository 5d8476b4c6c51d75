/- Helper lemmas of this claim, part 4. -/
import Derived.Test.YtkcgocmjaggdiaaGreatLk3
section
set_option linter.unusedVariables false
set_option linter.unusedSimpArgs false
set_option maxHeartbeats 4000000
set_option maxRecDepth 100000
namespace Go.Proofs.YtkcgocmjaggdiaaGreat.Wl
open Go.V
/-- What comes of opening a hold. -/
def openR (h : Hd) (v : Bool) (H : Hp) : Res → Hp → Prop := fun r H' =>
 if HOk h then (if v = true then ∃ id, H id = none ∧ r = .ret (hdP h id) ∧ H' = H.set id (.memo (memoF h)) else r = .pan (.iface 129 (i64 2)) ∧ H' = H)
 else r = .pan (.iface 129 (i64 1)) ∧ H' = H

theorem open_tri (h : Hd) (fv : AV) (v : Bool) (H : Hp) (k : Near h) (hfv : fv.ok) (hst : fv.st = fv)
 (hq : HOk h → ∀ (H' : Hp) (id : Nat), H' id = some (.memo (memoF h)) → PTri Tryz.prog fv [hdP h id] H' (boo v)) :
 Tri Tryz.prog (fnA 69) [h.av, fv] H (openR h v H) := by
 have hn := k.n
 have hm := k.m
 refine tri_vs (m := fun _ => false) Tryz.func69 (by kernel_rfl) rfl (by simp only [List.length_append, List.length_cons, List.length_nil, Tryz.ntmps69]; decide) ?_
 simp only [vsAll, binA, binLitA, intA, loadA, loadRow, partA, partOk, fieldAddrA, lenA, boxA, boxZ, opA, guardV, dstOk, nilSliceOp, argFr, Nat.reduceAdd, Nat.reduceLT, Nat.reduceEqDiff, Int.reduceEq, ↓reduceIte, implies_true, eq_self, ne_eq, wtAll, Tryz.ntmps69]
 refine gcall _ (fun hg => ⟨trivial, by simp only [vsAll, okAll, opsA, opA, ↓reduceIte, eq_self, hg], within_tri h.n 3 7 H⟩) ?_
 simp only [vsAll, binA, binLitA, intA, loadA, loadRow, partA, partOk, fieldAddrA, lenA, pickA, okAll, stAll, opsA, opA, guardV, dstOk, Nat.reduceLT, Nat.reduceEqDiff, ↓reduceIte, implies_true, eq_self, wtAll]
 have et : (h.n : Int).tmod 2 = (h.n : Int) % 2 := Int.tmod_eq_emod_of_nonneg (by omega)
 refine ask_call (fun hb => ?_) (fun hb => ?_)
 case refine_2 =>
  have hno : ¬ HOk h := fun q => by
   have q1 := q.n
   have q2 := q.m
   simp only [Bool.and_eq_false_iff, decide_eq_false_iff_not, et] at hb
   omega
  simp only [vsAll, eq_self]
  exact ⟨H, by simp only [HSub_refl], by unfold openR; rw [if_neg hno]; exact ⟨rfl, rfl⟩⟩
 simp only [Bool.and_eq_true, decide_eq_true_eq, et] at hb
 have hn3 : h.n = 3 ∨ h.n = 5 ∨ h.n = 7 := by omega
 have hm6 : h.m ≤ 6 := by omega
 simp only [vsAll, loadA, loadRow, partA, partOk, fieldAddrA, lenA, opA, dstOk, Nat.reduceLT, Nat.reduceEqDiff, ↓reduceIte, eq_self, wtAll]
 refine vs_loop (σ := Nat) (fun i => i ≤ h.n ∧ ∀ j, j < i → 0 ≤ h.fl j ∧ h.fl j ≤ 9) (fun i => [(1, fv), (2, .rptr 1 2 (fun _ => h.cs) 0 0), (29, flAV h.n h.fl), (30, i64 h.n), (31, i64 i)]) (fun _ => H) (fun i => h.n - i) 0 ⟨Nat.zero_le _, fun j hj => absurd hj (by omega)⟩ ?_ ?_ fun i hi => ?_
 ·simp only [vsAll, argFr, Nat.reduceEqDiff, ↓reduceIte, eq_self, Int.natCast_zero]
 ·simp only [HSub_refl]
 ·obtain ⟨hi, hall⟩ := hi
  simp only [vsAll, binA, binLitA, intA, opA, dstOk, Nat.reduceLT, Nat.reduceEqDiff, ↓reduceIte, eq_self]
  refine condD (fun hd => ?_) (fun hd => ?_)
  ·simp only [vsAll, loadA, loadRow, partA, partOk, indexAddrA, okAll, stAll, opsA, opA, dstOk, nilSliceOp, Nat.reduceLT, Nat.reduceEqDiff, ↓reduceIte, eq_self, wtAll]
   refine ⟨by omega, by omega, callK_pure (within_tri (h.fl i) 0 9 H) ?_⟩
   simp only [vsAll, okAll, stAll, opsA, opA, dstOk, Nat.reduceLT, ↓reduceIte, eq_self]
   refine ask_call (fun hc => ?_) (fun hc => ?_)
   ·simp only [Bool.and_eq_true, decide_eq_true_eq] at hc
    simp only [vsAll, binA, binLitA, intA, opA, dstOk, Nat.reduceLT, Nat.reduceEqDiff, ↓reduceIte, eq_self]
    refine ⟨by simp only [InR_i64]; omega, loop_next (i + 1) ⟨by omega, fun j hj => ?_⟩ (by omega) ?_ ?_⟩
    ·by_cases e : j = i
     ·subst e; exact hc
     ·exact hall j (by omega)
    ·simp only [vsAll, Nat.reduceEqDiff, ↓reduceIte, eq_self, Int.natCast_add, Int.natCast_one]
    ·simp only [HSub_refl]
   ·have hno : ¬ HOk h := fun q => by
     have := q.f i (by omega)
     simp only [Bool.and_eq_false_iff, decide_eq_false_iff_not] at hc
     omega
    simp only [vsAll, eq_self]
    exact ⟨H, by simp only [HSub_refl], by unfold openR; rw [if_neg hno]; exact ⟨rfl, rfl⟩⟩
  ·have ei : i = h.n := by omega
   subst ei
   simp only [vsAll, loadA, loadRow, partA, partOk, fieldAddrA, lenA, boxA, boxZ, cellA, cellsA, fillA, okParts, partsA, partsOk, opA, nM, dstOk, nilSliceOp, Nat.reduceAdd, Nat.reduceLT, Nat.reduceLeDiff, Nat.reduceEqDiff, ↓reduceIte, eq_self, wtAll]
   intro id hid
   refine vs_loop (σ := Nat) (fun i => i ≤ h.m ∧ ∀ j, j < i → (0 ≤ (h.sd j).w ∧ (h.sd j).w < h.n) ∧ (-2 ≤ (h.sd j).a ∧ (h.sd j).a ≤ (h.sd j).b ∧ (h.sd j).b ≤ 2) ∧ (0 ≤ (h.sd j).c ∧ (h.sd j).c ≤ (h.sd j).d ∧ (h.sd j).d ≤ 40))
    (fun i => [(1, fv), (8, hdP h id), (44, sdAV h.m h.sd), (45, i64 h.m), (46, i64 i)]) (fun _ => H.set id (.memo (memoF h))) (fun i => h.m - i) 0 ⟨Nat.zero_le _, fun j hj => absurd hj (by omega)⟩ ?_ ?_ fun i hi => ?_
   ·simp only [vsAll, Nat.reduceEqDiff, ↓reduceIte, eq_self, Int.natCast_zero]
   ·exact HSub_set (memo_le (by simp) (by simp))
   ·obtain ⟨hi, hall2⟩ := hi
    simp only [vsAll, binA, binLitA, intA, opA, dstOk, Nat.reduceLT, Nat.reduceEqDiff, Int.reduceNeg, ↓reduceIte, eq_self]
    refine condD (fun hd => ?_) (fun hd => ?_)
    ·simp only [vsAll, loadA, loadRow, partA, partOk, fieldAddrA, indexAddrA, cellA, okAll, stAll, opsA, opA, allocA, newCells, okCells, storeObj, dstOk, Nat.reduceAdd, Nat.reduceLT, Nat.reduceEqDiff, Int.reduceNeg, ↓reduceIte, eq_self, wtAll]
     refine ⟨by omega, by omega, fun i10 h10 => ?_⟩
     have n10 : i10 ≠ id := fun e => by rw [if_pos e] at h10; cases h10
     rw [if_neg n10] at h10
     have hsub : ∀ X Y : Go.V.Obj, Go.V.HSub (((H.set id (.memo (memoF h))).set i10 X).set i10 Y) (H.set id (.memo (memoF h))) := fun X Y => by
      rw [Hp.set_set]
      exact HSub_drop (by rw [Hp.set_ne _ _ n10]; exact h10)
     have hbad : ∀ (c : Int) X Y, ¬ HOk h → dropR (openR h v H) (.pan (.iface 129 (i64 1))) (((H.set id (.memo (memoF h))).set i10 X).set i10 Y) := fun c X Y hno => by
      refine ⟨H, ?_, by unfold openR; rw [if_neg hno]; exact ⟨rfl, rfl⟩⟩
      intro j x hx
      have e1 : j ≠ id := fun e => by rw [e, hid] at hx; cases hx
      have e2 : j ≠ i10 := fun e => by rw [e, h10] at hx; cases hx
      exact ⟨x, by rw [Hp.set_ne _ _ e2, Hp.set_ne _ _ e2, Hp.set_ne _ _ e1]; exact hx, .refl _⟩
     refine callK_pure (isPart_tri h id (h.sd i).w _ k) ?_
     simp only [vsAll, okAll, stAll, opsA, opA, dstOk, Nat.reduceLT, Int.reduceNeg, ↓reduceIte, eq_self]
     refine ask_call (fun c1 => ?_) (fun c1 => ?_)
     case refine_2 =>
      simp only [vsAll, Int.reduceNeg, eq_self]
      exact hbad 0 _ _ fun q => by
       have := q.w i (by omega)
       rw [(partB_iff h _).2 this] at c1; cases c1
     rw [partB_iff] at c1
     simp only [vsAll, loadA, loadRow, partA, partOk, fieldAddrA, okAll, stAll, opsA, opA, dstOk, Nat.reduceLT, Nat.reduceEqDiff, Int.reduceNeg, ↓reduceIte, eq_self, wtAll]
     refine callK_pure (isList_tri (h.sd i).a _) ?_
     simp only [vsAll, loadA, loadRow, partA, partOk, fieldAddrA, opA, guardV, dstOk, Nat.reduceAdd, Nat.reduceLT, Nat.reduceEqDiff, Int.reduceNeg, ↓reduceIte, implies_true, eq_self, wtAll]
     apply gcall
     ·exact fun hg => ⟨trivial, by simp only [vsAll, okAll, opsA, opA, ↓reduceIte, eq_self, hg], isList_tri (h.sd i).b _⟩
     simp only [vsAll, binA, binLitA, intA, loadA, loadRow, partA, partOk, fieldAddrA, pickA, okAll, stAll, opsA, opA, guardV, dstOk, Nat.reduceAdd, Nat.reduceLT, Nat.reduceEqDiff, Int.reduceNeg, ↓reduceIte, implies_true, eq_self, wtAll]
     refine ask_call (fun c2 => ?_) (fun c2 => ?_)
     case refine_2 =>
      simp only [vsAll, Int.reduceNeg, eq_self]
      exact hbad 0 _ _ fun q => by
       have := q.l i (by omega)
       have h1 := (tiltB_iff (h.sd i).a).2 (by omega)
       have h2 := (tiltB_iff (h.sd i).b).2 (by omega)
       rw [h1, h2] at c2
       simp only [Bool.and_self, Bool.true_and, decide_eq_false_iff_not] at c2
       omega
     simp only [Bool.and_eq_true, tiltB_iff, decide_eq_true_eq] at c2
     simp only [vsAll, binA, binLitA, intA, loadA, loadRow, partA, partOk, fieldAddrA, pickA, okAll, stAll, opsA, opA, guardV, dstOk, Nat.reduceAdd, Nat.reduceLT, Nat.reduceEqDiff, Int.reduceNeg, ↓reduceIte, implies_true, eq_self, wtAll]
     refine ask_call (fun c3 => ?_) (fun c3 => ?_)
     case refine_2 =>
      simp only [vsAll, Int.reduceNeg, eq_self]
      exact hbad 0 _ _ fun q => by
       have := q.r i (by omega)
       simp only [Bool.and_eq_false_iff, decide_eq_false_iff_not] at c3
       omega
     simp only [Bool.and_eq_true, decide_eq_true_eq] at c3
     simp only [vsAll, binA, binLitA, intA, opA, dstOk, Nat.reduceLT, Nat.reduceEqDiff, Int.reduceNeg, ↓reduceIte, eq_self]
     refine ⟨by simp only [InR_i64]; omega, loop_next (i + 1) ⟨by omega, fun j hj => ?_⟩ (by omega) ?_ ?_⟩
     ·by_cases e : j = i
      ·subst e; omega
      ·exact hall2 j (by omega)
     ·simp only [vsAll, Nat.reduceEqDiff, ↓reduceIte, eq_self, Int.natCast_add, Int.natCast_one]
     ·exact hsub _ _
    ·have ei : i = h.m := by omega
     subst ei
     have hk : HOk h := ⟨hn3, hm6, hall, fun i hi => (hall2 i hi).1, fun i hi => (hall2 i hi).2.1, fun i hi => (hall2 i hi).2.2⟩
     have hback : Go.V.HSub (H.set id (.memo (memoF h))) H := HSub_drop hid
     simp only [vsAll, okAll, stAll, opsA, opA, dstOk, Nat.reduceLT, Nat.reduceEqDiff, Int.reduceNeg, ↓reduceIte, eq_self, hst, hfv]
     refine callK_pure (hq hk _ id (Hp.set_same _ _ _)) ?_
     simp only [vsAll, okAll, stAll, opsA, opA, dstOk, Nat.reduceLT, ↓reduceIte, eq_self]
     refine ask_call (fun c4 => ?_) (fun c4 => ?_)
     ·simp only [vsAll, opA, dstOk, nilSliceOp, Nat.reduceLT, Nat.reduceEqDiff, ↓reduceIte, eq_self]
      refine ret0 ?_
      simp only [vsAll, resA, retA.eq_1, ↓reduceIte, eq_self, Tryz.results69]
      refine ⟨H.set id (.memo (memoF h)), by simp only [HSub_refl], ?_⟩
      unfold openR
      rw [if_pos hk, if_pos c4]
      exact ⟨id, hid, rfl, rfl⟩
     ·simp only [vsAll, eq_self]
      refine ⟨H, hback, ?_⟩
      unfold openR
      rw [if_pos hk, if_neg (by rw [c4]; decide)]
      exact ⟨rfl, rfl⟩

end Go.Proofs.YtkcgocmjaggdiaaGreat.Wl
end
section
set_option linter.unusedVariables false
set_option linter.unusedSimpArgs false
set_option maxHeartbeats 4000000
set_option maxRecDepth 100000
namespace Go.Proofs.YtkcgocmjaggdiaaGreat.Wl
open Go.V
def waterE (h : Hd) : Int := errE h true true
def waterV (h : Hd) : List (Int × Int) := if waterE h = 0 then spansL (allA h) else []

end Go.Proofs.YtkcgocmjaggdiaaGreat.Wl
end
section
set_option linter.unusedVariables false
set_option linter.unusedSimpArgs false
set_option maxHeartbeats 4000000
set_option maxRecDepth 100000
namespace Go.Proofs.YtkcgocmjaggdiaaGreat.Wl
open Go.V
theorem errE_no {h : Hd} (hno : ¬ HOk h) (v t : Bool) : errE h v t = 1 := by unfold errE; rw [if_neg hno]

theorem open_call {h : Hd} {fv : AV} {v : Bool} {H : Hp} {K : AV → Hp → Prop} {Kp : AV → Hp → Prop} (ht : Tri Tryz.prog (fnA 69) [h.av, fv] H (openR h v H))
 (h1 : ¬ HOk h → Kp (.iface 129 (i64 1)) H) (h2 : HOk h → v = false → Kp (.iface 129 (i64 2)) H)
 (h3 : HOk h → v = true → ∀ id, H id = none → K (hdP h id) (H.set id (.memo (memoF h)))) : CallK Tryz.prog (fnA 69) [h.av, fv] H K Kp := by
 refine ⟨_, ht, fun r H' hr => ?_⟩
 unfold openR at hr
 split at hr
 ·rename_i hk
  split at hr
  ·rename_i hv
   obtain ⟨id, hid, rfl, rfl⟩ := hr
   exact h3 hk hv id hid
  ·rename_i hv
   obtain ⟨rfl, rfl⟩ := hr
   exact h2 hk (by simpa using hv)
 ·rename_i hk
  obtain ⟨rfl, rfl⟩ := hr
  exact h1 hk


theorem always_tri (x : AV) (H : Hp) : PTri Tryz.prog (fnA 70) [x] H (boo true) := by
 refine tri_v0 (fun _ => false) Tryz.func70 (by kernel_rfl) rfl (by simp only [List.length_append, List.length_cons, List.length_nil, Tryz.ntmps70]; decide) ?_
 simp only [vsAll, opA, dstOk, nilSliceOp, resA, retA.eq_1, Nat.reduceLT, ↓reduceIte, eq_self, Tryz.ntmps70, Tryz.results70]

theorem told_filter (h : Hd) : (List.range 101).filter (toldB h) = allA h := by
 unfold allA amts amtsN
 congr 1
 funext w
 exact byN_can h _ w

/-- Is there a truth? -/
theorem told_some (h : Hd) : someB (toldB h) = true ↔ 0 < (allA h).length := by
 rw [← told_filter, List.length_filter_pos_iff]
 simp only [someB, List.any_eq_true]
theorem errE_told {h : Hd} (hk : HOk h) (hs : someB (toldB h) = true) : errE h true true = 0 := by
 have := (told_some h).1 hs
 unfold errE; rw [if_pos hk, if_pos rfl, if_neg (fun q => by omega)]
theorem errE_clash {h : Hd} (hk : HOk h) (hs : ¬ someB (toldB h) = true) : errE h true true = 10 := by
 have : ¬ 0 < (allA h).length := fun q => hs ((told_some h).2 q)
 unfold errE; rw [if_pos hk, if_pos rfl, if_pos ⟨rfl, by omega⟩]

/-- The spans of the amounts below i, and the last amount of them. -/
def wA (h : Hd) (i : Nat) : List (Int × Int) := spansL ((List.range i).filter (toldB h))
def wL (l : List (Int × Int)) : Int := match l.getLast? with
 | some p => p.2
 | none => -2
theorem wA_no {h : Hd} {i : Nat} (hc : toldB h i = false) : wA h (i + 1) = wA h i := by
 simp [wA, List.range_succ, List.filter_append, hc]
theorem wA_yes {h : Hd} {i : Nat} (hc : toldB h i = true) : wA h (i + 1) = addS (wA h i) i := by
 have : [i].filter (toldB h) = [i] := by simp [hc]
 rw [wA, List.range_succ, List.filter_append, this, spansL_snoc]; rfl
theorem wA_len (h : Hd) (i : Nat) : (wA h i).length ≤ i := by
 have h1 := spansL_len ((List.range i).filter (toldB h))
 have h2 := List.length_filter_le (toldB h) (List.range i)
 rw [List.length_range] at h2
 exact Nat.le_trans h1 h2
theorem addS_new {l : List (Int × Int)} {a : Int} (h : wL l < a - 1) : addS l a = l ++ [(a, a)] := by
 unfold addS wL at *
 split
 ·rename_i p hp
  rw [hp] at h
  simp only at h
  rw [if_neg (by omega)]
 ·rfl
theorem addS_old {l : List (Int × Int)} {a : Int} (h : ¬ wL l < a - 1) (ha : 0 ≤ a) (hl : wL l ≤ a - 1) : ∃ p, l.getLast? = some p ∧ addS l a = l.dropLast ++ [(p.1, a)] := by
 unfold addS wL at *
 cases hp : l.getLast? with
 | none => rw [hp] at h; simp only at h; omega
 | some p => rw [hp] at h hl; simp only at h hl; exact ⟨p, rfl, by simp only; rw [if_pos (by omega)]⟩
theorem upd_last {l : List (Int × Int)} {p : Int × Int} {a : Int} {j : Nat} (hp : l.getLast? = some p) (hj : j < l.length) :
 (if j = l.length - 1 then List.take 1 (spanF l (l.length - 1)) ++ [AV.lit (Value.int IntKind.i64 a)] ++ List.drop 2 (spanF l (l.length - 1)) else spanF l j) = spanF (l.dropLast ++ [(p.1, a)]) j := by
 obtain ⟨ys, rfl⟩ := List.getLast?_eq_some_iff.1 hp
 simp only [List.dropLast_concat, List.length_append, List.length_cons, List.length_nil, Nat.zero_add, Nat.add_sub_cancel, spanF, getD_snoc]
 split
 ·simp
 ·rfl
theorem wL_snoc (l : List (Int × Int)) (p : Int × Int) : wL (l ++ [p]) = p.2 := by simp [wL]

/-- What is told of water, in a row of its own. -/
def waterR (h : Hd) (H : Hp) : Res → Hp → Prop := fun r H' => ∃ id, H id = none ∧ r = .ret (.tuple [.sl id 2 (waterV h).length, i64 (waterE h)]) ∧ H' = H.set id (.row 2 (waterV h).length (spanF (waterV h)))
theorem wwater_triM (h : Hd) (H : Hp) (k : Near h) : Tri Tryz.prog (fnA 53) [h.av] H (waterR h H) := by
 refine Tri.drop ?_
 refine tri_a (m := mset [2]) ans68 Tryz.func53 (by kernel_rfl) rfl (by simp only [List.length_append, List.length_cons, List.length_nil, Tryz.ntmps53]; decide) ?_
 simp only [vsAll, loadA, loadRow, partA, partOk, boxA, boxZ, okAll, stAll, opsA, opA, allocA, dstOk, nilA, nilSliceOp, argFr, Nat.reduceAdd, Nat.reduceLT, Nat.reduceEqDiff, Nat.reduceBEq, Int.reduceNeg, ↓reduceIte, eq_self, wtAll, Tryz.ntmps53]
 intro i2 hh_i2; (try simp only [Hp.set_none, ite_none] at hh_i2); intro i3 hh_i3; (try simp only [ite_none] at hh_i3)
 refine open_call (open_tri h _ true _ k trivial rfl (fun hk H' id ho => always_tri _ H')) (fun hno => ?_) (fun hk hv => by cases hv) (fun hk hv => ?_)
 ·have e : waterE h = 1 := errE_no hno _ _
  have ev : waterV h = [] := by simp [waterV, e]
  simp only [vsAll, Int.reduceNeg]
  refine ⟨1, i3, _, rfl, rfl, Hp.set_same _ _ _, ?_⟩
  simp only [vsAll, loadA, loadRow, partA, partOk, resA, retA.eq_2, Nat.reduceLT, Nat.reduceEqDiff, Int.reduceNeg, ↓reduceIte, eq_self, wtAll, Tryz.results53]
  refine ⟨_, ?_, i2, hh_i2, by simp only [vsAll, eq_self, ev, e], rfl⟩
  rw [ev]
  refine HSub_put (o' := .row 2 0 fun _ => []) (by simp only [vsAll, ↓reduceIte, eq_self, hh_i3]) (row0_le _ _ _) ?_
  (repeat (first | exact HSub_rfl | refine HSub_put_eq (by simp only [vsAll, binA, binLitA, intA, aggA, aggV, boolA, nilA2, isConst, unA, loadA, loadRow, partA, partOk, fieldAddrA, indexAddrA, indexA, fieldA, extractA, lenA, nilCheckA, boxA, boxZ, cellA, cellsA, fillA, okParts, buildSliceA, buildMutA, makeSliceA, partIdx, elemsA, lensA, ifaceA, convA, mmA, pickA, okAll, stAll, opsA, partsA, partsOk, opA, allocA, boxMutA, newCells, okCells, storeObj, appendA, guardV, taA, nM, mapUpA, lookA, sliceA, sliceM, sliceS, boundsA, opO, okO, copyA, dstOk, nilA, quietOk, nilSliceOp, deferV, panA, resA, argFr, retA.eq_1, retA.eq_2, Nat.reduceAdd, Nat.reduceSub, Nat.reduceMul, Nat.reduceLT, Nat.reduceLeDiff, Nat.reduceEqDiff, Nat.reduceBEq, Int.reduceAdd, Int.reduceSub, Int.reduceMul, Int.reduceNeg, Int.reduceLE, Int.reduceLT, Int.reduceEq, Int.reduceNe, Int.reduceToNat, ↓reduceIte, reduceCtorEq, implies_true, forall_const, eq_self, ne_eq, wtAll, Tryz.ntmps53, Tryz.results53, hh_i2, hh_i3]) ?_ | refine HSub_drop2 (by simp only [eq_self, hh_i2, hh_i3]) ?_ | refine HSub_keep_eq (by simp only [vsAll, binA, binLitA, intA, aggA, aggV, boolA, nilA2, isConst, unA, loadA, loadRow, partA, partOk, fieldAddrA, indexAddrA, indexA, fieldA, extractA, lenA, nilCheckA, boxA, boxZ, cellA, cellsA, fillA, okParts, buildSliceA, buildMutA, makeSliceA, partIdx, elemsA, lensA, ifaceA, convA, mmA, pickA, okAll, stAll, opsA, partsA, partsOk, opA, allocA, boxMutA, newCells, okCells, storeObj, appendA, guardV, taA, nM, mapUpA, lookA, sliceA, sliceM, sliceS, boundsA, opO, okO, copyA, dstOk, nilA, quietOk, nilSliceOp, deferV, panA, resA, argFr, retA.eq_1, retA.eq_2, Nat.reduceAdd, Nat.reduceSub, Nat.reduceMul, Nat.reduceLT, Nat.reduceLeDiff, Nat.reduceEqDiff, Nat.reduceBEq, Int.reduceAdd, Int.reduceSub, Int.reduceMul, Int.reduceNeg, Int.reduceLE, Int.reduceLT, Int.reduceEq, Int.reduceNe, Int.reduceToNat, ↓reduceIte, reduceCtorEq, implies_true, forall_const, eq_self, ne_eq, wtAll, Tryz.ntmps53, Tryz.results53, hh_i2, hh_i3]) ?_))
 ·intro id hh_id; (try simp only [Hp.set_none] at hh_id)
  simp only [vsAll, okAll, stAll, opsA, opA, dstOk, Nat.reduceLT, Int.reduceNeg, ↓reduceIte, eq_self]
  refine ⟨_, told_tri h id _ hk (by simp only [vsAll, ↓reduceIte, eq_self]), ?_⟩
  rintro r H' ⟨rfl, rfl⟩
  by_cases hs : someB (toldB h) = true
  ·rw [if_pos hs]
   have e : waterE h = 0 := errE_told hk hs
   have ev : waterV h = wA h 101 := by rw [waterV, if_pos e, ← told_filter]; rfl
   simp only [vsAll, loadA, loadRow, opA, allocA, storeObj, dstOk, Nat.reduceMul, Nat.reduceLT, Nat.reduceEqDiff, Int.reduceNeg, ↓reduceIte, eq_self, wtAll]
   intro i5 hh_i5; (try simp only [ite_none] at hh_i5)
   refine ⟨fun j hj => by simp [amF, okCells, cellA], ?_⟩
   refine vs_loop (σ := Nat) (fun i => i ≤ 101 ∧ wL (wA h i) ≤ (i : Int) - 1) (fun i => [(2, .sl i2 2 (wA h i).length), (3, .ref i3 0 1 0 0), (4, i64 (wL (wA h i))), (11, amAV (toldB h)), (12, i64 i)])
    (fun i => ((((H.set i3 (.box 1 1 fun _ => [i64 0])).set id (.memo (memoF h))).set i5 (.box 1 101 (amF (toldB h)))).set i2 (.row 2 (wA h i).length (spanF (wA h i))))) (fun i => 101 - i) 0 ⟨by ((try clear hh_i2); (try clear hh_i3); (try clear hh_id); (try clear hh_i5); omega), by show (-2 : Int) ≤ ((0 : Nat) : Int) - 1; ((try clear hh_i2); (try clear hh_i3); (try clear hh_id); (try clear hh_i5); omega)⟩ ?_ ?_ fun i hi => ?_
   ·have a0 : wA h 0 = [] := rfl
    have l0 : wL [] = -2 := rfl
    simp only [vsAll, Nat.reduceEqDiff, Int.reduceNeg, ↓reduceIte, eq_self, Int.natCast_zero, a0, l0]
   ·refine HSub_put (o' := .row 2 0 fun _ => []) (by simp only [vsAll, ↓reduceIte, eq_self, hh_i3, hh_id, hh_i5]) (row0_le _ _ _) ?_
    (repeat (first | exact HSub_rfl | refine HSub_put_eq (by simp only [vsAll, ↓reduceIte, eq_self, hh_id, hh_i5]) ?_ | refine HSub_drop2 (by simp only [eq_self, hh_i2, hh_i3, hh_id, hh_i5]) ?_ | refine HSub_keep_eq (by simp only [vsAll, binA, binLitA, intA, aggA, aggV, boolA, nilA2, isConst, unA, loadA, loadRow, partA, partOk, fieldAddrA, indexAddrA, indexA, fieldA, extractA, lenA, nilCheckA, boxA, boxZ, cellA, cellsA, fillA, okParts, buildSliceA, buildMutA, makeSliceA, partIdx, elemsA, lensA, ifaceA, convA, mmA, pickA, okAll, stAll, opsA, partsA, partsOk, opA, allocA, boxMutA, newCells, okCells, storeObj, appendA, guardV, taA, nM, mapUpA, lookA, sliceA, sliceM, sliceS, boundsA, opO, okO, copyA, dstOk, nilA, quietOk, nilSliceOp, deferV, panA, resA, argFr, retA.eq_1, retA.eq_2, Nat.reduceAdd, Nat.reduceSub, Nat.reduceMul, Nat.reduceLT, Nat.reduceLeDiff, Nat.reduceEqDiff, Nat.reduceBEq, Int.reduceAdd, Int.reduceSub, Int.reduceMul, Int.reduceNeg, Int.reduceLE, Int.reduceLT, Int.reduceEq, Int.reduceNe, Int.reduceToNat, ↓reduceIte, reduceCtorEq, implies_true, forall_const, eq_self, ne_eq, wtAll, Tryz.ntmps53, Tryz.results53, hh_i2, hh_i3, hh_id, hh_i5]) ?_))
   ·obtain ⟨hi, hL⟩ := hi
    simp only [vsAll, binA, binLitA, intA, opA, dstOk, Nat.reduceLT, Nat.reduceEqDiff, ↓reduceIte, eq_self]
    refine condD (fun hd => ?_) (fun hd => ?_)
    ·simp only [vsAll, unA, partA, indexA, opA, dstOk, nilSliceOp, Nat.reduceLT, Nat.reduceEqDiff, Nat.reduceBEq, ↓reduceIte, eq_self, wtAll, amF_at]
     refine ⟨by ((try clear hh_i2); (try clear hh_i3); (try clear hh_id); (try clear hh_i5); omega), condV (fun hc => ?_) (fun hc => ?_)⟩
     ·simp only [Bool.not_eq_true'] at hc
      have ea := wA_no hc
      simp only [vsAll, binA, binLitA, intA, opA, dstOk, Nat.reduceLT, Nat.reduceEqDiff, ↓reduceIte, eq_self]
      refine ⟨by simp only [InR_i64]; ((try clear hh_i2); (try clear hh_i3); (try clear hh_id); (try clear hh_i5); omega), loop_next (i + 1) ⟨by ((try clear hh_i2); (try clear hh_i3); (try clear hh_id); (try clear hh_i5); omega), by rw [ea]; ((try clear hh_i2); (try clear hh_i3); (try clear hh_id); (try clear hh_i5); omega)⟩ (by ((try clear hh_i2); (try clear hh_i3); (try clear hh_id); (try clear hh_i5); omega)) ?_ ?_⟩
      ·simp only [vsAll, Nat.reduceEqDiff, ↓reduceIte, eq_self, ea, Int.natCast_add, Int.natCast_one]
      ·simp only [ea, HSub_refl]
     ·simp only [Bool.not_eq_false'] at hc
      have ea := wA_yes hc
      have al := wA_len h i
      simp only [vsAll, binA, binLitA, intA, opA, dstOk, Nat.reduceLT, Nat.reduceEqDiff, ↓reduceIte, eq_self]
      refine ⟨by simp only [InR_i64]; ((try clear hh_i2); (try clear hh_i3); (try clear hh_id); (try clear hh_i5); omega), condD (fun hlt => ?_) (fun hlt => ?_)⟩
      ·have ea2 : wA h (i + 1) = wA h i ++ [((i : Int), (i : Int))] := by rw [ea, addS_new hlt]
       have el2 : wL (wA h (i + 1)) = i := by rw [ea2, wL_snoc]
       have al2 : (wA h (i + 1)).length = (wA h i).length + 1 := by rw [ea2]; simp
       simp only [vsAll, binA, binLitA, intA, fieldAddrA, indexAddrA, lenA, cellA, cellsA, fillA, okParts, buildSliceA, partIdx, elemsA, lensA, partsA, partsOk, opA, newCells, okCells, storeObj, appendA, dstOk, nilSliceOp, Nat.reduceAdd, Nat.reduceMul, Nat.reduceLT, Nat.reduceLeDiff, Nat.reduceEqDiff, Nat.reduceBEq, ↓reduceIte, eq_self, wtAll]
       rw [app_spans _ (i : Int) 0 _ rfl]
       have en : (((wA h i).length + 1 : Nat) : Int) - 1 = ((wA h i).length : Int) := by ((try clear hh_i2); (try clear hh_i3); (try clear hh_id); (try clear hh_i5); omega)
       simp only [InR_i64]
       refine ⟨fun j hj => ?_, by ((try clear hh_i2); (try clear hh_i3); (try clear hh_id); (try clear hh_i5); omega), by ((try clear hh_i2); (try clear hh_i3); (try clear hh_id); (try clear hh_i5); omega), by ((try clear hh_i2); (try clear hh_i3); (try clear hh_id); (try clear hh_i5); omega), by ((try clear hh_i2); (try clear hh_i3); (try clear hh_id); (try clear hh_i5); omega), by ((try clear hh_i2); (try clear hh_i3); (try clear hh_id); (try clear hh_i5); omega), by ((try clear hh_i2); (try clear hh_i3); (try clear hh_id); (try clear hh_i5); omega), loop_next (i + 1) ⟨by ((try clear hh_i2); (try clear hh_i3); (try clear hh_id); (try clear hh_i5); omega), by rw [el2]; ((try clear hh_i2); (try clear hh_i3); (try clear hh_id); (try clear hh_i5); omega)⟩ (by ((try clear hh_i2); (try clear hh_i3); (try clear hh_id); (try clear hh_i5); omega)) ?_ ?_⟩
       ·have : j = 0 := by ((try clear hh_i2); (try clear hh_i3); (try clear hh_id); (try clear hh_i5); omega)
        subst this
        simp only [vsAll, cellA, okCells, eq_self]
       ·simp only [vsAll, Nat.reduceEqDiff, ↓reduceIte, eq_self, al2, el2, Int.natCast_add, Int.natCast_one]
       ·simp only [Hp.set_set, al2]
        refine HSub_set (row_ext fun j hj => ?_)
        rw [ea2]
        rw [updF_at (by ((try clear hh_i2); (try clear hh_i3); (try clear hh_id); (try clear hh_i5); omega)) hj]
        have en2 : ((((wA h i).length + 1 : Nat) : Int) - 1).toNat = (wA h i).length := by ((try clear hh_i2); (try clear hh_i3); (try clear hh_id); (try clear hh_i5); omega)
        rw [en2]
        simp only [spanF, getD_snoc]
        split
        ·rename_i e; subst e; simp []
        ·rfl
      ·obtain ⟨p, hp, ea2⟩ := addS_old hlt (by ((try clear hh_i2); (try clear hh_i3); (try clear hh_id); (try clear hh_i5); omega)) hL
       rw [← ea] at ea2
       have hpos : 0 < (wA h i).length := by cases hq : wA h i with
        | nil => rw [hq] at hp; cases hp
        | cons => simp
       have el2 : wL (wA h (i + 1)) = i := by rw [ea2, wL_snoc]
       have al2 : (wA h (i + 1)).length = (wA h i).length := by rw [ea2]; simp; ((try clear hh_i2); (try clear hh_i3); (try clear hh_id); (try clear hh_i5); omega)
       simp only [vsAll, binA, binLitA, intA, fieldAddrA, indexAddrA, lenA, cellA, cellsA, opA, newCells, okCells, storeObj, dstOk, nilSliceOp, Nat.reduceAdd, Nat.reduceLT, Nat.reduceEqDiff, Nat.reduceBEq, ↓reduceIte, eq_self, wtAll]
       simp only [InR_i64]
       refine ⟨by ((try clear hh_i2); (try clear hh_i3); (try clear hh_id); (try clear hh_i5); omega), by ((try clear hh_i2); (try clear hh_i3); (try clear hh_id); (try clear hh_i5); omega), by ((try clear hh_i2); (try clear hh_i3); (try clear hh_id); (try clear hh_i5); omega), by ((try clear hh_i2); (try clear hh_i3); (try clear hh_id); (try clear hh_i5); omega), loop_next (i + 1) ⟨by ((try clear hh_i2); (try clear hh_i3); (try clear hh_id); (try clear hh_i5); omega), by rw [el2]; ((try clear hh_i2); (try clear hh_i3); (try clear hh_id); (try clear hh_i5); omega)⟩ (by ((try clear hh_i2); (try clear hh_i3); (try clear hh_id); (try clear hh_i5); omega)) ?_ ?_⟩
       ·simp only [vsAll, Nat.reduceEqDiff, ↓reduceIte, eq_self, al2, el2, Int.natCast_add, Int.natCast_one]
       ·simp only [Hp.set_set, al2]
        refine HSub_set (row_ext fun j hj => ?_)
        rw [updF_at (by ((try clear hh_i2); (try clear hh_i3); (try clear hh_id); (try clear hh_i5); omega)) hj]
        have en2 : (((wA h i).length : Int) - 1).toNat = (wA h i).length - 1 := by ((try clear hh_i2); (try clear hh_i3); (try clear hh_id); (try clear hh_i5); omega)
        rw [en2]
        rw [ea2]; exact upd_last hp hj
    ·have ei : i = 101 := by ((try clear hh_i2); (try clear hh_i3); (try clear hh_id); (try clear hh_i5); omega)
     subst ei
     simp only [vsAll, cellA, cellsA, opA, newCells, okCells, storeObj, dstOk, nilSliceOp, Nat.reduceLT, Nat.reduceEqDiff, Nat.reduceBEq, ↓reduceIte, eq_self, wtAll, hh_i3, hh_id, hh_i5]
     refine Ent.ret ⟨i3, fun _ => [i64 0], rfl, by simp only [vsAll, ↓reduceIte, eq_self], ?_⟩
     simp only [vsAll, loadA, loadRow, partA, partOk, resA, retA.eq_2, Nat.reduceLT, Nat.reduceEqDiff, ↓reduceIte, eq_self, wtAll, Tryz.results53]
     refine ⟨_, ?_, i2, hh_i2, by simp only [eq_self, ev, e], rfl⟩
     rw [ev]
     (repeat (first | exact HSub_rfl | refine HSub_put_eq (by simp only [vsAll, ↓reduceIte, eq_self, hh_i3]) ?_ | refine HSub_drop2 (by simp only [eq_self, hh_i2, hh_i3, hh_id, hh_i5]) ?_ | refine HSub_keep_eq (by simp only [vsAll, binA, binLitA, intA, aggA, aggV, boolA, nilA2, isConst, unA, loadA, loadRow, partA, partOk, fieldAddrA, indexAddrA, indexA, fieldA, extractA, lenA, nilCheckA, boxA, boxZ, cellA, cellsA, fillA, okParts, buildSliceA, buildMutA, makeSliceA, partIdx, elemsA, lensA, ifaceA, convA, mmA, pickA, okAll, stAll, opsA, partsA, partsOk, opA, allocA, boxMutA, newCells, okCells, storeObj, appendA, guardV, taA, nM, mapUpA, lookA, sliceA, sliceM, sliceS, boundsA, opO, okO, copyA, dstOk, nilA, quietOk, nilSliceOp, deferV, panA, resA, argFr, retA.eq_1, retA.eq_2, Nat.reduceAdd, Nat.reduceSub, Nat.reduceMul, Nat.reduceLT, Nat.reduceLeDiff, Nat.reduceEqDiff, Nat.reduceBEq, Int.reduceAdd, Int.reduceSub, Int.reduceMul, Int.reduceNeg, Int.reduceLE, Int.reduceLT, Int.reduceEq, Int.reduceNe, Int.reduceToNat, ↓reduceIte, reduceCtorEq, implies_true, forall_const, eq_self, ne_eq, wtAll, Tryz.ntmps53, Tryz.results53, hh_i2, hh_i3, hh_id, hh_i5]) ?_))
  ·have e : waterE h = 10 := errE_clash hk hs
   have ev : waterV h = [] := by simp [waterV, e]
   rw [if_neg hs]
   simp only [vsAll, Int.reduceNeg]
   refine ⟨10, i3, fun _ => [i64 0], rfl, rfl, by simp only [vsAll, ↓reduceIte, eq_self, hh_id], ?_⟩
   simp only [vsAll, loadA, loadRow, partA, partOk, resA, retA.eq_2, Nat.reduceLT, Nat.reduceEqDiff, Int.reduceNeg, ↓reduceIte, eq_self, wtAll, Tryz.results53]
   refine ⟨_, ?_, i2, hh_i2, by simp only [vsAll, eq_self, ev, e], rfl⟩
   rw [ev]
   refine HSub_put (o' := .row 2 0 fun _ => []) (by simp only [vsAll, ↓reduceIte, eq_self, hh_i3, hh_id]) (row0_le _ _ _) ?_
   (repeat (first | exact HSub_rfl | refine HSub_put_eq (by simp only [vsAll, binA, binLitA, intA, aggA, aggV, boolA, nilA2, isConst, unA, loadA, loadRow, partA, partOk, fieldAddrA, indexAddrA, indexA, fieldA, extractA, lenA, nilCheckA, boxA, boxZ, cellA, cellsA, fillA, okParts, buildSliceA, buildMutA, makeSliceA, partIdx, elemsA, lensA, ifaceA, convA, mmA, pickA, okAll, stAll, opsA, partsA, partsOk, opA, allocA, boxMutA, newCells, okCells, storeObj, appendA, guardV, taA, nM, mapUpA, lookA, sliceA, sliceM, sliceS, boundsA, opO, okO, copyA, dstOk, nilA, quietOk, nilSliceOp, deferV, panA, resA, argFr, retA.eq_1, retA.eq_2, Nat.reduceAdd, Nat.reduceSub, Nat.reduceMul, Nat.reduceLT, Nat.reduceLeDiff, Nat.reduceEqDiff, Nat.reduceBEq, Int.reduceAdd, Int.reduceSub, Int.reduceMul, Int.reduceNeg, Int.reduceLE, Int.reduceLT, Int.reduceEq, Int.reduceNe, Int.reduceToNat, ↓reduceIte, reduceCtorEq, implies_true, forall_const, eq_self, ne_eq, wtAll, Tryz.ntmps53, Tryz.results53, hh_i2, hh_i3, hh_id]) ?_ | refine HSub_drop2 (by simp only [eq_self, hh_i2, hh_i3, hh_id]) ?_ | refine HSub_keep_eq (by simp only [vsAll, binA, binLitA, intA, aggA, aggV, boolA, nilA2, isConst, unA, loadA, loadRow, partA, partOk, fieldAddrA, indexAddrA, indexA, fieldA, extractA, lenA, nilCheckA, boxA, boxZ, cellA, cellsA, fillA, okParts, buildSliceA, buildMutA, makeSliceA, partIdx, elemsA, lensA, ifaceA, convA, mmA, pickA, okAll, stAll, opsA, partsA, partsOk, opA, allocA, boxMutA, newCells, okCells, storeObj, appendA, guardV, taA, nM, mapUpA, lookA, sliceA, sliceM, sliceS, boundsA, opO, okO, copyA, dstOk, nilA, quietOk, nilSliceOp, deferV, panA, resA, argFr, retA.eq_1, retA.eq_2, Nat.reduceAdd, Nat.reduceSub, Nat.reduceMul, Nat.reduceLT, Nat.reduceLeDiff, Nat.reduceEqDiff, Nat.reduceBEq, Int.reduceAdd, Int.reduceSub, Int.reduceMul, Int.reduceNeg, Int.reduceLE, Int.reduceLT, Int.reduceEq, Int.reduceNe, Int.reduceToNat, ↓reduceIte, reduceCtorEq, implies_true, forall_const, eq_self, ne_eq, wtAll, Tryz.ntmps53, Tryz.results53, hh_i2, hh_i3, hh_id]) ?_))
theorem wwater_tri (h : Hd) (H : Hp) (k : Near h) : PTri Tryz.prog (fnA 53) [h.av] H (.tuple [spansAV (waterV h), i64 (waterE h)]) := by
 refine Tri.thaw (wwater_triM h H k) ?_
 rintro r H' ⟨id, hid, rfl, rfl⟩
 right
 exact ⟨_, id, 2, _, _, 0, rfl, Hp.set_same _ _ _, by simp, rfl, rfl, set_del hid⟩

end Go.Proofs.YtkcgocmjaggdiaaGreat.Wl
end
section
set_option linter.unusedVariables false
set_option linter.unusedSimpArgs false
namespace Go.Proofs.YtkcgocmjaggdiaaGreat
open Go.V Wl
/-- A watch. -/
structure Wt where
 lo : Int
 hi : Int
 ti : Int
 re : Int
/-- A pump. -/
structure Pu where
 fl : List (Int × Int)
 ca : Int
 ws : List Wt
 ho : Hd
def wt0 : Wt := ⟨0, 0, 0, 0⟩
abbrev Wt.cs (x : Wt) : List AV := [i64 x.lo, i64 x.hi, i64 x.ti, i64 x.re]
def wsF (l : List Wt) : Nat → List AV := fun i => (l.getD i wt0).cs
theorem wsF_at (l : List Wt) (i : Nat) : wsF l i = [i64 (l.getD i wt0).lo, i64 (l.getD i wt0).hi, i64 (l.getD i wt0).ti, i64 (l.getD i wt0).re] := rfl
abbrev wsAV (l : List Wt) : AV := .rsl l.length 4 (wsF l)
abbrev Pu.cs (p : Pu) : List AV := [spansAV p.fl, i64 p.ca, wsAV p.ws, flAV p.ho.n p.ho.fl, sdAV p.ho.m p.ho.sd]
abbrev Pu.av (p : Pu) : AV := .agg p.cs
abbrev pptr (p : Pu) : AV := .rptr 1 5 (fun _ => p.cs) 0 0
/-- No far too much of anything. -/
structure Near (p : Pu) : Prop where
 nF : p.fl.length ≤ 40
 nW : p.ws.length ≤ 40
 ho : Wl.Near p.ho
def okF (x : Int × Int) : Prop := 0 ≤ x.1 ∧ x.1 ≤ x.2 ∧ x.2 ≤ 40
def okW (w : Wt) : Prop := (0 ≤ w.lo ∧ w.lo ≤ w.hi ∧ w.hi ≤ 40) ∧ (0 ≤ w.ti ∧ w.ti ≤ 20) ∧ 0 ≤ w.re ∧ w.re ≤ 4
/-- A valid pump. -/
structure Ok (p : Pu) : Prop where
 ho : HOk p.ho
 nF : p.fl.length ≤ 8
 ca : 0 ≤ p.ca ∧ p.ca ≤ 100
 nW : p.ws.length ≤ 3
 f : ∀ i, i < p.fl.length → okF (p.fl.getD i (0, 0))
 w : ∀ i, i < p.ws.length → okW (p.ws.getD i wt0)
instance (x : Int × Int) : Decidable (okF x) := by unfold okF; infer_instance
instance (x : Wt) : Decidable (okW x) := by unfold okW; infer_instance
theorem ok_iff (p : Pu) : Ok p ↔ (HOk p.ho ∧ p.fl.length ≤ 8 ∧ (0 ≤ p.ca ∧ p.ca ≤ 100) ∧ p.ws.length ≤ 3) ∧ (∀ i, i < p.fl.length → okF (p.fl.getD i (0, 0))) ∧ ∀ i, i < p.ws.length → okW (p.ws.getD i wt0) :=
 ⟨fun k => ⟨⟨k.ho, k.nF, k.ca, k.nW⟩, k.f, k.w⟩, fun ⟨⟨a, b, c, d⟩, e, f⟩ => ⟨a, b, c, d, e, f⟩⟩
instance (p : Pu) : Decidable (Ok p) := decidable_of_iff _ (ok_iff p).symm
theorem Ok.near {p : Pu} (k : Ok p) : Near p := ⟨by have := k.nF; omega, by have := k.nW; omega, k.ho.near⟩
def Pu.wt (p : Pu) (i : Nat) : Wt := p.ws.getD i wt0
def isW (p : Pu) (n : Int) : Bool := decide (-1 ≤ n) && decide (n ≤ (p.ws.length : Int) - 1)
def planB (p : Pu) (l : List Int) : Bool := l.all (isW p) && decide (l.length = p.fl.length)
theorem isW_iff (p : Pu) (n : Int) : isW p n = true ↔ -1 ≤ n ∧ n < p.ws.length := by simp [isW]; omega
theorem planB_iff {p : Pu} {l : List Int} : planB p l = true ↔ l.length = p.fl.length ∧ ∀ i, i < l.length → -1 ≤ l.getD i (-1) ∧ l.getD i (-1) < p.ws.length := by
 rw [planB, Bool.and_eq_true, List.all_eq_true, decide_eq_true_eq]
 constructor
 ·rintro ⟨h1, h2⟩
  exact ⟨h2, fun i hi => (isW_iff p _).1 (h1 _ (mem_getD l i _ hi))⟩
 ·rintro ⟨h1, h2⟩
  refine ⟨fun x hx => ?_, h1⟩
  obtain ⟨i, hi, rfl⟩ := getD_mem (-1) hx
  exact (isW_iff p _).2 (h2 i hi)
/-- What a watch has done after an hour more: how worn it is, and for how long it rests. -/
def stepW (re : Int) (is : Bool) (s : Nat × Nat) : Nat × Nat :=
 let s' := if is = true then (s.1 + 1, 0) else (s.1, s.2 + 1)
 if re ≤ (s'.2 : Int) then (0, s'.2) else s'
def doneW (re : Int) (l : List Int) (w : Int) : Nat → Nat × Nat
 | 0 => (0, 0)
 | i + 1 => stepW re (decide (l.getD i (-1) = w)) (doneW re l w i)
theorem doneW_le (re : Int) (l : List Int) (w : Int) : ∀ i, (doneW re l w i).1 ≤ i ∧ (doneW re l w i).2 ≤ i := by
 intro i
 induction i with
 | zero => exact ⟨Nat.le_refl _, Nat.le_refl _⟩
 | succ i ih =>
   simp only [doneW, stepW]
   split <;> split <;> simp only [] <;> omega
def wornV (p : Pu) (l : List Int) (w : Nat) (i : Nat) : Nat := (doneW (p.wt w).re l w i).1
/-- How strong a watch is, worst or best. -/
def freshV (p : Pu) (w : Nat) (b : Bool) : Int := if b = true then (p.wt w).hi else (p.wt w).lo
def strV (p : Pu) (l : List Int) (i : Nat) (b : Bool) : Int :=
 if l.getD i (-1) < 0 then 0 else max 0 (freshV p (l.getD i (-1)).toNat b - (p.wt (l.getD i (-1)).toNat).ti * (wornV p l (l.getD i (-1)).toNat i : Nat))
def startV (p : Pu) (b : Bool) : Int := if b = true then ((allA p.ho).getD 0 0 : Nat) else ((allA p.ho).getD ((allA p.ho).length - 1) 0 : Nat)
def flowV (p : Pu) (i : Nat) (b : Bool) : Int := if b = true then (p.fl.getD i (0, 0)).1 else (p.fl.getD i (0, 0)).2
/-- The water after so many hours, in the worst truth or in the best one. -/
def watV (p : Pu) (l : List Int) (b : Bool) : Nat → Int
 | 0 => startV p b
 | i + 1 => max 0 (watV p l b i + flowV p i b - strV p l i b)
def aftL (p : Pu) (l : List Int) (b : Bool) (n : Nat) : List Int := (List.range n).map fun i => watV p l b (i + 1)
/-- The first hour after which there is too much; below 0: none. -/
def lostV (ca : Int) (L : List Int) : Int := match (List.range L.length).find? fun i => decide (ca < L.getD i 0) with
 | some i => (i : Int)
 | none => -1
def safeB (p : Pu) (l : List Int) : Bool := decide (lostV p.ca (aftL p l false l.length) < 0)
def errE (p : Pu) (v : Bool) : Int := if Ok p then if v = true then if (allA p.ho).length = 0 then 10 else 0 else 2 else 1
theorem errE_no {p : Pu} (h : ¬ Ok p) (v : Bool) : errE p v = 1 := if_neg h
theorem errE_bad {p : Pu} (k : Ok p) : errE p false = 2 := by rw [errE, if_pos k, if_neg (by decide)]
theorem errE_clash {p : Pu} (k : Ok p) (h : (allA p.ho).length = 0) : errE p true = 10 := by rw [errE, if_pos k, if_pos rfl, if_pos h]
theorem errE_ok {p : Pu} (k : Ok p) (h : ¬ (allA p.ho).length = 0) : errE p true = 0 := by rw [errE, if_pos k, if_pos rfl, if_neg h]
theorem errE_zero {p : Pu} {v : Bool} (h : errE p v = 0) : Ok p ∧ v = true ∧ 0 < (allA p.ho).length := by
 unfold errE at h
 split at h
 ·rename_i k
  split at h
  ·rename_i hv
   split at h
   ·omega
   ·exact ⟨k, hv, by omega⟩
  ·omega
 ·omega
def playE (p : Pu) (l : List Int) : Int := errE p (planB p l)
def playV (p : Pu) (l : List Int) : List (Int × Int) := if playE p l = 0 then (List.range l.length).map fun i => (watV p l true (i + 1), watV p l false (i + 1)) else []
def outE (p : Pu) (l : List Int) (h : Int) : Int := errE p (planB p l && (decide (0 ≤ h) && decide (h ≤ (p.fl.length : Int) - 1)))
def outV (p : Pu) (l : List Int) (h : Int) : Int × Int := if outE p l h = 0 then (strV p l h.toNat false, strV p l h.toNat true) else (0, 0)
def floV (p : Pu) (l : List Int) : Int := if playE p l = 0 then if safeB p l = true then 2 else if 0 ≤ lostV p.ca (aftL p l true l.length) then 0 else 1 else 0
def losE (p : Pu) (l : List Int) : Int := if playE p l = 0 then if safeB p l = true then 4 else 0 else playE p l
def losV (p : Pu) (l : List Int) : Int := if losE p l = 0 then lostV p.ca (aftL p l false l.length) else 0
def moreP (p : Pu) (n : Int) : Pu := { p with fl := p.fl.map fun x => (x.1 + n, x.2 + n) }
/-- How much more can come in: tried from some number on. -/
def spareN (p : Pu) (l : List Int) : Nat → Nat → Nat
 | 0, n => n
 | k + 1, n => if safeB (moreP p ((n : Int) + 1)) l = true then spareN p l k (n + 1) else n
def spaV (p : Pu) (l : List Int) : Int := if losE p l = 4 then (spareN p l 40 0 : Nat) else 0
def spaE (p : Pu) (l : List Int) : Int := if playE p l = 0 then if safeB p l = true then 0 else 4 else playE p l
end Go.Proofs.YtkcgocmjaggdiaaGreat
end
section
set_option linter.unusedVariables false
set_option linter.unusedSimpArgs false
set_option maxHeartbeats 4000000
set_option maxRecDepth 100000
namespace Go.Proofs.YtkcgocmjaggdiaaGreat
open Go.V Wl
theorem inn_tri (n lo hi : Int) (H : Hp) : PTri Tryz.prog (fnA 15) [i64 n, i64 lo, i64 hi] H (boo (decide (lo ≤ n) && decide (n ≤ hi))) := by
 refine tri_v0 (fun _ => false) Tryz.func15 (by kernel_rfl) rfl (by simp only [List.length_append, List.length_cons, List.length_nil, Tryz.ntmps15]; decide) ?_
 simp only [vsAll, binA, binLitA, intA, pickA, opA, guardV, dstOk, nilSliceOp, resA, argFr, retA.eq_1, Nat.reduceLT, Nat.reduceEqDiff, ↓reduceIte, reduceCtorEq, implies_true, eq_self, Tryz.ntmps15, Tryz.results15]
theorem spn_tri (a b hi : Int) (H : Hp) : PTri Tryz.prog (fnA 16) [.agg [i64 a, i64 b], i64 hi] H (boo (decide (0 ≤ a) && decide (a ≤ b) && decide (b ≤ hi))) := by
 refine tri_v0 (fun _ => false) Tryz.func16 (by kernel_rfl) rfl (by simp only [List.length_append, List.length_cons, List.length_nil, Tryz.ntmps16]; decide) ?_
 simp only [vsAll, binA, binLitA, intA, loadA, loadRow, partA, partOk, fieldAddrA, boxA, boxZ, pickA, opA, guardV, dstOk, nilSliceOp, resA, argFr, retA.eq_1, Nat.reduceAdd, Nat.reduceLT, Nat.reduceEqDiff, ↓reduceIte, implies_true, eq_self, wtAll, Tryz.ntmps16, Tryz.results16]
theorem rpump_tri (p : Pu) (H : Hp) (kn : Near p) : PTri Tryz.prog (fnA 5) [p.av] H (boo (decide (Ok p))) := by
 have nF := kn.nF
 have nW := kn.nW
 refine Tri.drop ?_
 refine tri_v0 (fun _ => false) Tryz.func5 (by kernel_rfl) rfl (by simp only [List.length_append, List.length_cons, List.length_nil, Tryz.ntmps5]; decide) ?_
 simp only [vsAll, loadA, loadRow, partA, partOk, fieldAddrA, boxA, boxZ, okAll, stAll, opsA, opA, dstOk, nilSliceOp, argFr, Nat.reduceAdd, Nat.reduceLT, Nat.reduceEqDiff, ↓reduceIte, eq_self, wtAll, Tryz.ntmps5]
 refine callK_pure (hold_tri p.ho _ kn.ho) ?_
 simp only [vsAll, binA, binLitA, intA, unA, loadA, loadRow, partA, partOk, fieldAddrA, lenA, pickA, opA, guardV, dstOk, Nat.reduceLT, Nat.reduceEqDiff, ↓reduceIte, implies_true, eq_self, wtAll]
 refine gcall _ (fun g => ⟨by simp only [vsAll, opA], by simp only [vsAll, okAll, opsA, opA, ↓reduceIte, eq_self, g], inn_tri p.ca 0 100 _⟩) ?_
 simp only [vsAll, binA, binLitA, intA, unA, loadA, loadRow, partA, partOk, fieldAddrA, lenA, pickA, opA, guardV, dstOk, Nat.reduceLT, Nat.reduceEqDiff, ↓reduceIte, implies_true, eq_self, wtAll]
 refine condV (fun hc => ?_) (fun hc => ?_)
 ·have hno : decide (Ok p) = false := decide_eq_false fun k => by
   have h1 := k.ho; have h2 := k.nF; have h3 := k.ca; have h4 := k.nW
   rw [decide_eq_true h1] at hc
   simp only [Bool.not_true, Bool.false_or, Bool.or_eq_true, decide_eq_true_eq, Bool.not_eq_true', Bool.and_eq_false_iff, decide_eq_false_iff_not] at hc
   omega
  simp only [vsAll, opA, dstOk, nilSliceOp, resA, retA.eq_1, Nat.reduceLT, ↓reduceIte, eq_self, Tryz.results5, hno]
  exact dropR_pure rfl HSub_rfl
 ·have hc' : HOk p.ho ∧ p.fl.length ≤ 8 ∧ (0 ≤ p.ca ∧ p.ca ≤ 100) ∧ p.ws.length ≤ 3 := by
   simp only [Bool.or_eq_false_iff, Bool.not_eq_false', decide_eq_true_eq, decide_eq_false_iff_not, Bool.and_eq_true] at hc
   obtain ⟨⟨⟨h1, h2⟩, h3⟩, h4⟩ := hc
   exact ⟨h1, by omega, h3, by omega⟩
  simp only [vsAll, opA, dstOk, nilSliceOp, Nat.reduceLT, eq_self]
  refine vs_loop (σ := Nat) (fun i => i ≤ p.fl.length ∧ ∀ j, j < i → okF (p.fl.getD j (0, 0))) (fun i => [(1, pptr p), (3, i64 i)]) (fun _ => H) (fun i => p.fl.length - i) 0 ⟨Nat.zero_le _, fun j hj => absurd hj (Nat.not_lt_zero j)⟩ ?_ HSub_rfl fun i hi => ?_
  ·simp only [vsAll, Nat.reduceEqDiff, ↓reduceIte, eq_self, Int.natCast_zero]
  ·obtain ⟨hi, hall⟩ := hi
   simp only [vsAll, binA, binLitA, intA, loadA, loadRow, partA, partOk, fieldAddrA, lenA, opA, dstOk, Nat.reduceLT, Nat.reduceEqDiff, ↓reduceIte, eq_self, wtAll]
   refine condD (fun hd => ?_) (fun hd => ?_)
   ·have his : i < p.fl.length := by omega
    simp only [vsAll, loadA, loadRow, partA, partOk, fieldAddrA, indexAddrA, okAll, stAll, opsA, opA, dstOk, Nat.reduceLT, Nat.reduceEqDiff, ↓reduceIte, eq_self, wtAll, spanF_at]
    refine ⟨⟨by omega, by omega⟩, his, callK_pure (spn_tri _ _ 40 _) ?_⟩
    simp only [vsAll, unA, opA, dstOk, Nat.reduceLT, ↓reduceIte, eq_self]
    refine condV (fun hc2 => ?_) (fun hc2 => ?_)
    ·have hno : decide (Ok p) = false := decide_eq_false fun k => by
      have := k.f i his
      unfold okF at this
      simp only [Bool.not_eq_true', Bool.and_eq_false_iff, decide_eq_false_iff_not] at hc2
      omega
     simp only [vsAll, opA, dstOk, nilSliceOp, resA, retA.eq_1, Nat.reduceLT, ↓reduceIte, eq_self, Tryz.results5, hno]
     exact dropR_pure rfl HSub_rfl
    ·simp only [vsAll, binA, binLitA, intA, opA, dstOk, nilSliceOp, Nat.reduceLT, Nat.reduceEqDiff, ↓reduceIte, eq_self]
     refine ⟨by simp only [InR_i64]; omega, loop_next (i + 1) ⟨by omega, fun j hj => ?_⟩ (by omega) ?_ HSub_rfl⟩
     ·by_cases e : j = i
      ·subst e
       unfold okF
       simp only [Bool.not_eq_false', Bool.and_eq_true, decide_eq_true_eq] at hc2
       omega
      ·exact hall j (by omega)
     ·simp only [vsAll, Nat.reduceEqDiff, ↓reduceIte, eq_self, Int.natCast_add, Int.natCast_one]
   ·have ei : i = p.fl.length := by omega
    subst ei
    simp only [vsAll, opA, dstOk, nilSliceOp, Nat.reduceLT, ↓reduceIte, eq_self]
    refine vs_loop (σ := Nat) (fun i => i ≤ p.ws.length ∧ ∀ j, j < i → okW (p.ws.getD j wt0)) (fun i => [(1, pptr p), (4, i64 i)]) (fun _ => H) (fun i => p.ws.length - i) 0 ⟨Nat.zero_le _, fun j hj => absurd hj (Nat.not_lt_zero j)⟩ ?_ HSub_rfl fun i hi => ?_
    ·simp only [vsAll, Nat.reduceEqDiff, ↓reduceIte, eq_self, Int.natCast_zero]
    ·obtain ⟨hi, hallw⟩ := hi
     simp only [vsAll, binA, binLitA, intA, loadA, loadRow, partA, partOk, fieldAddrA, lenA, opA, dstOk, Nat.reduceLT, Nat.reduceEqDiff, ↓reduceIte, eq_self, wtAll]
     refine condD (fun hd2 => ?_) (fun hd2 => ?_)
     ·have his : i < p.ws.length := by omega
      simp only [vsAll, loadA, loadRow, partA, partOk, fieldAddrA, indexAddrA, cellA, okAll, stAll, opsA, opA, allocA, newCells, okCells, storeObj, dstOk, Nat.reduceAdd, Nat.reduceLT, Nat.reduceLeDiff, Nat.reduceEqDiff, ↓reduceIte, eq_self, wtAll, wsF_at]
      refine ⟨⟨by omega, by omega⟩, his, ?_⟩
      intro i5 hh_i5; (try simp only [Hp.set_none, ite_none] at hh_i5)
      refine callK_pure (spn_tri _ _ 40 _) ?_
      simp only [vsAll, unA, loadA, loadRow, partA, partOk, fieldAddrA, opA, guardV, dstOk, Nat.reduceLT, Nat.reduceEqDiff, ↓reduceIte, implies_true, eq_self, wtAll]
      refine gcall _ (fun g => ⟨by simp only [vsAll, opA], by simp only [vsAll, okAll, opsA, opA, ↓reduceIte, eq_self, g], inn_tri _ 0 20 _⟩) ?_
      simp only [vsAll, unA, loadA, loadRow, partA, partOk, fieldAddrA, pickA, opA, guardV, dstOk, Nat.reduceLT, Nat.reduceEqDiff, ↓reduceIte, implies_true, eq_self, wtAll]
      refine gcall _ (fun g => ⟨by simp only [vsAll, opA], by simp only [vsAll, okAll, opsA, opA, ↓reduceIte, eq_self, g], inn_tri _ 0 4 _⟩) ?_
      simp only [vsAll, unA, pickA, opA, guardV, dstOk, Nat.reduceLT, Nat.reduceEqDiff, ↓reduceIte, implies_true, eq_self]
      refine condV (fun hc2 => ?_) (fun hc2 => ?_)
      ·have hno : decide (Ok p) = false := decide_eq_false fun k => by
        have := k.w i his
        unfold okW at this
        obtain ⟨⟨a1, a2, a3⟩, ⟨a4, a5⟩, a6, a7⟩ := this
        rw [decide_eq_true a1, decide_eq_true a2, decide_eq_true a3, decide_eq_true a4, decide_eq_true a5, decide_eq_true a6, decide_eq_true a7] at hc2
        cases hc2
       simp only [vsAll, opA, dstOk, nilSliceOp, resA, retA.eq_1, Nat.reduceLT, ↓reduceIte, eq_self, Tryz.results5, hno]
       exact dropR_pure rfl (by (repeat (first | exact HSub_rfl | refine HSub_put_eq (by simp only [vsAll, binA, binLitA, intA, aggA, aggV, boolA, nilA2, isConst, unA, loadA, loadRow, partA, partOk, fieldAddrA, indexAddrA, indexA, fieldA, extractA, lenA, nilCheckA, boxA, boxZ, cellA, cellsA, fillA, okParts, buildSliceA, buildMutA, makeSliceA, partIdx, elemsA, lensA, ifaceA, convA, mmA, pickA, okAll, stAll, opsA, partsA, partsOk, opA, allocA, boxMutA, newCells, okCells, storeObj, appendA, guardV, taA, nM, mapUpA, lookA, sliceA, sliceM, sliceS, boundsA, opO, okO, copyA, dstOk, nilA, quietOk, nilSliceOp, deferV, panA, resA, argFr, retA.eq_1, retA.eq_2, Nat.reduceAdd, Nat.reduceSub, Nat.reduceMul, Nat.reduceLT, Nat.reduceLeDiff, Nat.reduceEqDiff, Nat.reduceBEq, Int.reduceAdd, Int.reduceSub, Int.reduceMul, Int.reduceNeg, Int.reduceLE, Int.reduceLT, Int.reduceEq, Int.reduceNe, Int.reduceToNat, ↓reduceIte, reduceCtorEq, implies_true, forall_const, eq_self, ne_eq, wtAll, Tryz.ntmps5, Tryz.results5, hh_i5]) ?_ | refine HSub_drop2 (by simp only [eq_self, hh_i5]) ?_ | refine HSub_keep_eq (by simp only [vsAll, binA, binLitA, intA, aggA, aggV, boolA, nilA2, isConst, unA, loadA, loadRow, partA, partOk, fieldAddrA, indexAddrA, indexA, fieldA, extractA, lenA, nilCheckA, boxA, boxZ, cellA, cellsA, fillA, okParts, buildSliceA, buildMutA, makeSliceA, partIdx, elemsA, lensA, ifaceA, convA, mmA, pickA, okAll, stAll, opsA, partsA, partsOk, opA, allocA, boxMutA, newCells, okCells, storeObj, appendA, guardV, taA, nM, mapUpA, lookA, sliceA, sliceM, sliceS, boundsA, opO, okO, copyA, dstOk, nilA, quietOk, nilSliceOp, deferV, panA, resA, argFr, retA.eq_1, retA.eq_2, Nat.reduceAdd, Nat.reduceSub, Nat.reduceMul, Nat.reduceLT, Nat.reduceLeDiff, Nat.reduceEqDiff, Nat.reduceBEq, Int.reduceAdd, Int.reduceSub, Int.reduceMul, Int.reduceNeg, Int.reduceLE, Int.reduceLT, Int.reduceEq, Int.reduceNe, Int.reduceToNat, ↓reduceIte, reduceCtorEq, implies_true, forall_const, eq_self, ne_eq, wtAll, Tryz.ntmps5, Tryz.results5, hh_i5]) ?_)))
      ·simp only [vsAll, binA, binLitA, intA, opA, dstOk, nilSliceOp, Nat.reduceLT, Nat.reduceEqDiff, ↓reduceIte, eq_self]
       refine ⟨by simp only [InR_i64]; ((try clear hh_i5); omega), loop_next (i + 1) ⟨by ((try clear hh_i5); omega), fun j hj => ?_⟩ (by ((try clear hh_i5); omega)) ?_ (by (repeat (first | exact HSub_rfl | refine HSub_put_eq (by simp only [vsAll, binA, binLitA, intA, aggA, aggV, boolA, nilA2, isConst, unA, loadA, loadRow, partA, partOk, fieldAddrA, indexAddrA, indexA, fieldA, extractA, lenA, nilCheckA, boxA, boxZ, cellA, cellsA, fillA, okParts, buildSliceA, buildMutA, makeSliceA, partIdx, elemsA, lensA, ifaceA, convA, mmA, pickA, okAll, stAll, opsA, partsA, partsOk, opA, allocA, boxMutA, newCells, okCells, storeObj, appendA, guardV, taA, nM, mapUpA, lookA, sliceA, sliceM, sliceS, boundsA, opO, okO, copyA, dstOk, nilA, quietOk, nilSliceOp, deferV, panA, resA, argFr, retA.eq_1, retA.eq_2, Nat.reduceAdd, Nat.reduceSub, Nat.reduceMul, Nat.reduceLT, Nat.reduceLeDiff, Nat.reduceEqDiff, Nat.reduceBEq, Int.reduceAdd, Int.reduceSub, Int.reduceMul, Int.reduceNeg, Int.reduceLE, Int.reduceLT, Int.reduceEq, Int.reduceNe, Int.reduceToNat, ↓reduceIte, reduceCtorEq, implies_true, forall_const, eq_self, ne_eq, wtAll, Tryz.ntmps5, Tryz.results5, hh_i5]) ?_ | refine HSub_drop2 (by simp only [eq_self, hh_i5]) ?_ | refine HSub_keep_eq (by simp only [vsAll, binA, binLitA, intA, aggA, aggV, boolA, nilA2, isConst, unA, loadA, loadRow, partA, partOk, fieldAddrA, indexAddrA, indexA, fieldA, extractA, lenA, nilCheckA, boxA, boxZ, cellA, cellsA, fillA, okParts, buildSliceA, buildMutA, makeSliceA, partIdx, elemsA, lensA, ifaceA, convA, mmA, pickA, okAll, stAll, opsA, partsA, partsOk, opA, allocA, boxMutA, newCells, okCells, storeObj, appendA, guardV, taA, nM, mapUpA, lookA, sliceA, sliceM, sliceS, boundsA, opO, okO, copyA, dstOk, nilA, quietOk, nilSliceOp, deferV, panA, resA, argFr, retA.eq_1, retA.eq_2, Nat.reduceAdd, Nat.reduceSub, Nat.reduceMul, Nat.reduceLT, Nat.reduceLeDiff, Nat.reduceEqDiff, Nat.reduceBEq, Int.reduceAdd, Int.reduceSub, Int.reduceMul, Int.reduceNeg, Int.reduceLE, Int.reduceLT, Int.reduceEq, Int.reduceNe, Int.reduceToNat, ↓reduceIte, reduceCtorEq, implies_true, forall_const, eq_self, ne_eq, wtAll, Tryz.ntmps5, Tryz.results5, hh_i5]) ?_)))⟩
       ·by_cases e : j = i
        ·subst e
         unfold okW
         simp only [Bool.or_eq_false_iff, Bool.not_eq_false', Bool.and_eq_true, decide_eq_true_eq] at hc2
         obtain ⟨⟨⟨⟨a1, a2⟩, a3⟩, a4⟩, a5⟩ := hc2
         exact ⟨⟨a1, a2, a3⟩, a4, a5⟩
        ·exact hallw j (by ((try clear hh_i5); omega))
       ·simp only [vsAll, Nat.reduceEqDiff, ↓reduceIte, eq_self, Int.natCast_add, Int.natCast_one]
     ·have ei : i = p.ws.length := by omega
      have hok : decide (Ok p) = true := decide_eq_true ((ok_iff p).2 ⟨hc', hall, fun j hj => hallw j (by omega)⟩)
      simp only [vsAll, opA, dstOk, nilSliceOp, resA, retA.eq_1, Nat.reduceLT, ↓reduceIte, eq_self, Tryz.results5, hok]
      exact dropR_pure rfl HSub_rfl
theorem rworn_tri (p : Pu) (l : List Int) (w i : Nat) (H : Hp) (nW : p.ws.length ≤ 3) (hw : w < p.ws.length) (hi : i ≤ l.length) (hl : l.length ≤ 41) : PTri Tryz.prog (fnA 89) [p.av, intsAV l, i64 w, i64 i] H (i64 (wornV p l w i : Nat)) := by
 have ewt : p.ws.getD w wt0 = p.wt w := rfl
 refine tri_v0 (fun _ => false) Tryz.func89 (by kernel_rfl) rfl (by simp only [List.length_append, List.length_cons, List.length_nil, Tryz.ntmps89]; decide) ?_
 simp only [vsAll, loadA, loadRow, partA, partOk, fieldAddrA, indexAddrA, boxA, boxZ, opA, dstOk, nilSliceOp, argFr, Nat.reduceAdd, Nat.reduceLT, Nat.reduceEqDiff, ↓reduceIte, eq_self, wtAll, Tryz.ntmps89, wsF_at, ewt]
 refine ⟨⟨by omega, by omega⟩, hw, ?_⟩
 refine vs_loop (σ := Nat) (fun j => j ≤ i) (fun j => [(1, intsAV l), (2, i64 w), (3, i64 i), (9, i64 (p.wt w).re), (10, i64 ((doneW (p.wt w).re l w j).1 : Nat)), (11, i64 ((doneW (p.wt w).re l w j).2 : Nat)), (12, i64 j)]) (fun _ => H) (fun j => i - j) 0 (Nat.zero_le _) ?_ HSub_rfl fun j hj => ?_
 ·simp only [vsAll, argFr, Nat.reduceEqDiff, ↓reduceIte, eq_self, Int.natCast_zero, doneW]
 ·have hle := doneW_le (p.wt w).re l w j
  simp only [vsAll, binA, binLitA, intA, opA, dstOk, Nat.reduceLT, Nat.reduceEqDiff, ↓reduceIte, eq_self]
  refine condD (fun hd => ?_) (fun hd => ?_)
  ·have hjl : j < l.length := by omega
   have e0 : l.getD j 0 = l.getD j (-1) := by simp [List.getD_eq_getElem?_getD, hjl]
   have es : doneW (p.wt w).re l w (j + 1) = stepW (p.wt w).re (decide (l.getD j (-1) = (w : Int))) (doneW (p.wt w).re l w j) := rfl
   generalize doneW (p.wt w).re l w j = s at hle es ⊢
   unfold stepW at es
   simp only [vsAll, binA, binLitA, intA, loadA, loadRow, partA, partOk, indexAddrA, opA, dstOk, Nat.reduceLT, Nat.reduceEqDiff, Int.reduceNeg, ↓reduceIte, eq_self, wtAll, intF_at, e0]
   refine ⟨⟨by omega, by omega⟩, hjl, condV (fun hc => ?_) (fun hc => ?_)⟩
   ·rw [hc] at es
    simp only [if_true] at es
    simp only [vsAll, binA, binLitA, intA, opA, dstOk, nilSliceOp, Nat.reduceLT, Nat.reduceEqDiff, Int.reduceNeg, ↓reduceIte, eq_self]
    refine ⟨by simp only [InR_i64]; omega, condV (fun hc2 => ?_) (fun hc2 => ?_)⟩
    ·rw [if_pos (by have := of_decide_eq_true hc2; omega)] at es
     simp only [vsAll, binA, binLitA, intA, opA, dstOk, nilSliceOp, Nat.reduceLT, Nat.reduceEqDiff, Int.reduceNeg, ↓reduceIte, eq_self]
     refine ⟨by simp only [InR_i64]; omega, loop_next (j + 1) (by omega) (by omega) ?_ HSub_rfl⟩
     simp only [vsAll, Nat.reduceEqDiff, Int.reduceNeg, ↓reduceIte, eq_self, Int.natCast_add, Int.natCast_one, es, Int.natCast_zero]
    ·rw [if_neg (by have := of_decide_eq_false hc2; omega)] at es
     simp only [vsAll, binA, binLitA, intA, opA, dstOk, nilSliceOp, Nat.reduceLT, Nat.reduceEqDiff, Int.reduceNeg, ↓reduceIte, eq_self]
     refine ⟨by simp only [InR_i64]; omega, loop_next (j + 1) (by omega) (by omega) ?_ HSub_rfl⟩
     simp only [vsAll, Nat.reduceEqDiff, Int.reduceNeg, ↓reduceIte, eq_self, Int.natCast_add, Int.natCast_one, es, Int.natCast_zero]
   ·rw [hc] at es
    simp only [Bool.false_eq_true, if_false] at es
    simp only [vsAll, binA, binLitA, intA, opA, dstOk, nilSliceOp, Nat.reduceLT, Nat.reduceEqDiff, Int.reduceNeg, ↓reduceIte, eq_self]
    refine ⟨by simp only [InR_i64]; omega, condV (fun hc2 => ?_) (fun hc2 => ?_)⟩
    ·rw [if_pos (by have := of_decide_eq_true hc2; omega)] at es
     simp only [vsAll, binA, binLitA, intA, opA, dstOk, nilSliceOp, Nat.reduceLT, Nat.reduceEqDiff, Int.reduceNeg, ↓reduceIte, eq_self]
     refine ⟨by simp only [InR_i64]; omega, loop_next (j + 1) (by omega) (by omega) ?_ HSub_rfl⟩
     simp only [vsAll, Nat.reduceEqDiff, Int.reduceNeg, ↓reduceIte, eq_self, Int.natCast_add, Int.natCast_one, es, Int.natCast_zero]
    ·rw [if_neg (by have := of_decide_eq_false hc2; omega)] at es
     simp only [vsAll, binA, binLitA, intA, opA, dstOk, nilSliceOp, Nat.reduceLT, Nat.reduceEqDiff, Int.reduceNeg, ↓reduceIte, eq_self]
     refine ⟨by simp only [InR_i64]; omega, loop_next (j + 1) (by omega) (by omega) ?_ HSub_rfl⟩
     simp only [vsAll, Nat.reduceEqDiff, Int.reduceNeg, ↓reduceIte, eq_self, Int.natCast_add, Int.natCast_one, es]
  ·have ej : j = i := by omega
   subst ej
   simp only [vsAll, opA, dstOk, nilSliceOp, resA, retA.eq_1, Nat.reduceLT, Nat.reduceEqDiff, ↓reduceIte, eq_self, Tryz.results89]
   rfl
end Go.Proofs.YtkcgocmjaggdiaaGreat
end
section
set_option linter.unusedVariables false
set_option linter.unusedSimpArgs false
set_option maxHeartbeats 4000000
set_option maxRecDepth 100000
namespace Go.Proofs.YtkcgocmjaggdiaaGreat
open Go.V Wl
/-- A pump whose hold and watches are valid. -/
structure Okm (p : Pu) : Prop where
 ho : HOk p.ho
 nW : p.ws.length ≤ 3
 w : ∀ i, i < p.ws.length → okW (p.ws.getD i wt0)
theorem Ok.m {p : Pu} (k : Ok p) : Okm p := ⟨k.ho, k.nW, k.w⟩
theorem Okm.wt {p : Pu} (k : Okm p) {w : Nat} (hw : w < p.ws.length) : (0 ≤ (p.wt w).lo ∧ (p.wt w).lo ≤ (p.wt w).hi ∧ (p.wt w).hi ≤ 40) ∧ (0 ≤ (p.wt w).ti ∧ (p.wt w).ti ≤ 20) ∧ 0 ≤ (p.wt w).re ∧ (p.wt w).re ≤ 4 := k.w w hw
/-- A list for the first hours. -/
structure FirstP (p : Pu) (l : List Int) : Prop where
 len : l.length ≤ 8
 at_ : ∀ i, i < l.length → -1 ≤ l.getD i (-1) ∧ l.getD i (-1) < p.ws.length
theorem wt_prod {t : Int} {n : Nat} (h : 0 ≤ t ∧ t ≤ 20) (hn : n ≤ 8) : 0 ≤ t * (n : Int) ∧ t * (n : Int) ≤ 160 := by
 have h1 : 0 ≤ t * (n : Int) := Int.mul_nonneg h.1 (by omega)
 have h2 : t * (n : Int) ≤ 20 * 8 := Int.mul_le_mul h.2 (by omega) (by omega) (by omega)
 omega
theorem rstr_tri (p : Pu) (l : List Int) (i : Nat) (b : Bool) (H : Hp) (k : Okm p) (hl : FirstP p l) (hi : i < l.length) : PTri Tryz.prog (fnA 84) [p.av, intsAV l, i64 i, boo b] H (i64 (strV p l i b)) := by
 have nW := k.nW
 have hll := hl.len
 have hx := hl.at_ i hi
 have e0 : l.getD i 0 = l.getD i (-1) := by simp [List.getD_eq_getElem?_getD, hi]
 have es : strV p l i b = if l.getD i (-1) < 0 then 0 else max 0 (freshV p (l.getD i (-1)).toNat b - (p.wt (l.getD i (-1)).toNat).ti * (wornV p l (l.getD i (-1)).toNat i : Nat)) := rfl
 generalize l.getD i (-1) = x at hx e0 es
 refine Tri.drop ?_
 refine tri_v0 (fun _ => false) Tryz.func84 (by kernel_rfl) rfl (by simp only [List.length_append, List.length_cons, List.length_nil, Tryz.ntmps84]; decide) ?_
 simp only [vsAll, binA, binLitA, intA, loadA, loadRow, partA, partOk, indexAddrA, boxA, boxZ, opA, dstOk, nilSliceOp, argFr, Nat.reduceAdd, Nat.reduceLT, Nat.reduceEqDiff, ↓reduceIte, eq_self, wtAll, Tryz.ntmps84, intF_at, e0]
 refine ⟨⟨by omega, by omega⟩, hi, condV (fun hc => ?_) (fun hc => ?_)⟩
 ·rw [if_pos (of_decide_eq_true hc)] at es
  simp only [vsAll, opA, dstOk, nilSliceOp, resA, retA.eq_1, Nat.reduceLT, ↓reduceIte, eq_self, Tryz.results84, es]
  exact dropR_pure rfl HSub_rfl
 ·rw [if_neg (of_decide_eq_false hc)] at es
  have hc := of_decide_eq_false hc
  obtain ⟨w, rfl⟩ : ∃ w : Nat, x = (w : Int) := ⟨x.toNat, by omega⟩
  have hw : w < p.ws.length := by omega
  rw [Int.toNat_natCast] at es
  have ewt : p.ws.getD w wt0 = p.wt w := rfl
  have hk := k.wt hw
  have hle := (doneW_le (p.wt w).re l w i).1
  have hp := wt_prod (n := wornV p l w i) hk.2.1 (by unfold wornV; omega)
  unfold freshV at es
  simp only [vsAll, loadA, loadRow, partA, partOk, fieldAddrA, indexAddrA, cellA, opA, allocA, newCells, okCells, storeObj, dstOk, nilSliceOp, argFr, Nat.reduceAdd, Nat.reduceLT, Nat.reduceEqDiff, ↓reduceIte, eq_self, wtAll, wsF_at, ewt]
  refine ⟨⟨by omega, by omega⟩, hw, ?_⟩
  intro i10 hh_i10; (try simp only [Hp.set_none, ite_none] at hh_i10)
  cases b
  ·simp only [vsAll]
   refine vs_draw2 [0, 0, 0, 0, 0, 0, 0, 0, 0, 0, 0, 0] [] [0, 1, 2, 3, 4, 5, 6, 7, 8, 9, 10, 11] (by decide +kernel) ?_
   simp only [vsAll, loadA, loadRow, partA, partOk, fieldAddrA, opA, dstOk, argFr, Nat.reduceLT, Nat.reduceEqDiff, ↓reduceIte, eq_self, wtAll]
   refine qcall _ ⟨trivial, by simp only [vsAll, okAll, opsA, opA, Nat.reduceEqDiff, ↓reduceIte, eq_self], rworn_tri p l w i _ k.nW hw (by ((try clear hh_i10); omega)) (by ((try clear hh_i10); omega))⟩ ?_
   generalize wornV p l w i = n at hp es
   simp only [Bool.false_eq_true, if_false] at es
   simp only [vsAll, binA, binLitA, intA, mmA, okAll, stAll, opsA, opA, dstOk, resA, retA.eq_1, Nat.reduceLT, Nat.reduceEqDiff, ↓reduceIte, eq_self, Tryz.results84, es]
   refine ⟨by simp only [InR_i64]; ((try clear hh_i10); omega), by simp only [InR_i64]; ((try clear hh_i10); omega), ?_⟩
   exact dropR_pure rfl (by (repeat (first | exact HSub_rfl | refine HSub_put_eq (by simp only [vsAll, binA, binLitA, intA, aggA, aggV, boolA, nilA2, isConst, unA, loadA, loadRow, partA, partOk, fieldAddrA, indexAddrA, indexA, fieldA, extractA, lenA, nilCheckA, boxA, boxZ, cellA, cellsA, fillA, okParts, buildSliceA, buildMutA, makeSliceA, partIdx, elemsA, lensA, ifaceA, convA, mmA, pickA, okAll, stAll, opsA, partsA, partsOk, opA, allocA, boxMutA, newCells, okCells, storeObj, appendA, guardV, taA, nM, mapUpA, lookA, sliceA, sliceM, sliceS, boundsA, opO, okO, copyA, dstOk, nilA, quietOk, nilSliceOp, deferV, panA, resA, argFr, retA.eq_1, retA.eq_2, Nat.reduceAdd, Nat.reduceSub, Nat.reduceMul, Nat.reduceLT, Nat.reduceLeDiff, Nat.reduceEqDiff, Nat.reduceBEq, Int.reduceAdd, Int.reduceSub, Int.reduceMul, Int.reduceNeg, Int.reduceLE, Int.reduceLT, Int.reduceEq, Int.reduceNe, Int.reduceToNat, ↓reduceIte, reduceCtorEq, implies_true, forall_const, eq_self, ne_eq, wtAll, Tryz.ntmps84, Tryz.results84, hh_i10]) ?_ | refine HSub_drop2 (by simp only [eq_self, hh_i10]) ?_ | refine HSub_keep_eq (by simp only [vsAll, binA, binLitA, intA, aggA, aggV, boolA, nilA2, isConst, unA, loadA, loadRow, partA, partOk, fieldAddrA, indexAddrA, indexA, fieldA, extractA, lenA, nilCheckA, boxA, boxZ, cellA, cellsA, fillA, okParts, buildSliceA, buildMutA, makeSliceA, partIdx, elemsA, lensA, ifaceA, convA, mmA, pickA, okAll, stAll, opsA, partsA, partsOk, opA, allocA, boxMutA, newCells, okCells, storeObj, appendA, guardV, taA, nM, mapUpA, lookA, sliceA, sliceM, sliceS, boundsA, opO, okO, copyA, dstOk, nilA, quietOk, nilSliceOp, deferV, panA, resA, argFr, retA.eq_1, retA.eq_2, Nat.reduceAdd, Nat.reduceSub, Nat.reduceMul, Nat.reduceLT, Nat.reduceLeDiff, Nat.reduceEqDiff, Nat.reduceBEq, Int.reduceAdd, Int.reduceSub, Int.reduceMul, Int.reduceNeg, Int.reduceLE, Int.reduceLT, Int.reduceEq, Int.reduceNe, Int.reduceToNat, ↓reduceIte, reduceCtorEq, implies_true, forall_const, eq_self, ne_eq, wtAll, Tryz.ntmps84, Tryz.results84, hh_i10]) ?_)))
  ·refine condV (fun _ => ?_) (fun h => by cases h)
   simp only [vsAll, loadA, loadRow, partA, partOk, fieldAddrA, opA, dstOk, nilSliceOp, Nat.reduceLT, Nat.reduceEqDiff, ↓reduceIte, eq_self, wtAll]
   refine vs_draw2 [0, 0, 0, 0, 0, 0, 0, 0, 0, 0, 0, 0] [] [0, 1, 2, 3, 4, 5, 6, 7, 8, 9, 10, 11] (by decide +kernel) ?_
   simp only [vsAll, loadA, loadRow, partA, partOk, fieldAddrA, opA, dstOk, argFr, Nat.reduceLT, Nat.reduceEqDiff, ↓reduceIte, eq_self, wtAll]
   refine qcall _ ⟨trivial, by simp only [vsAll, okAll, opsA, opA, Nat.reduceEqDiff, ↓reduceIte, eq_self], rworn_tri p l w i _ k.nW hw (by ((try clear hh_i10); omega)) (by ((try clear hh_i10); omega))⟩ ?_
   generalize wornV p l w i = n at hp es
   simp only [if_true] at es
   simp only [vsAll, binA, binLitA, intA, mmA, okAll, stAll, opsA, opA, dstOk, resA, retA.eq_1, Nat.reduceLT, Nat.reduceEqDiff, ↓reduceIte, eq_self, Tryz.results84, es]
   refine ⟨by simp only [InR_i64]; ((try clear hh_i10); omega), by simp only [InR_i64]; ((try clear hh_i10); omega), ?_⟩
   exact dropR_pure rfl (by (repeat (first | exact HSub_rfl | refine HSub_put_eq (by simp only [vsAll, binA, binLitA, intA, aggA, aggV, boolA, nilA2, isConst, unA, loadA, loadRow, partA, partOk, fieldAddrA, indexAddrA, indexA, fieldA, extractA, lenA, nilCheckA, boxA, boxZ, cellA, cellsA, fillA, okParts, buildSliceA, buildMutA, makeSliceA, partIdx, elemsA, lensA, ifaceA, convA, mmA, pickA, okAll, stAll, opsA, partsA, partsOk, opA, allocA, boxMutA, newCells, okCells, storeObj, appendA, guardV, taA, nM, mapUpA, lookA, sliceA, sliceM, sliceS, boundsA, opO, okO, copyA, dstOk, nilA, quietOk, nilSliceOp, deferV, panA, resA, argFr, retA.eq_1, retA.eq_2, Nat.reduceAdd, Nat.reduceSub, Nat.reduceMul, Nat.reduceLT, Nat.reduceLeDiff, Nat.reduceEqDiff, Nat.reduceBEq, Int.reduceAdd, Int.reduceSub, Int.reduceMul, Int.reduceNeg, Int.reduceLE, Int.reduceLT, Int.reduceEq, Int.reduceNe, Int.reduceToNat, ↓reduceIte, reduceCtorEq, implies_true, forall_const, eq_self, ne_eq, wtAll, Tryz.ntmps84, Tryz.results84, hh_i10]) ?_ | refine HSub_drop2 (by simp only [eq_self, hh_i10]) ?_ | refine HSub_keep_eq (by simp only [vsAll, binA, binLitA, intA, aggA, aggV, boolA, nilA2, isConst, unA, loadA, loadRow, partA, partOk, fieldAddrA, indexAddrA, indexA, fieldA, extractA, lenA, nilCheckA, boxA, boxZ, cellA, cellsA, fillA, okParts, buildSliceA, buildMutA, makeSliceA, partIdx, elemsA, lensA, ifaceA, convA, mmA, pickA, okAll, stAll, opsA, partsA, partsOk, opA, allocA, boxMutA, newCells, okCells, storeObj, appendA, guardV, taA, nM, mapUpA, lookA, sliceA, sliceM, sliceS, boundsA, opO, okO, copyA, dstOk, nilA, quietOk, nilSliceOp, deferV, panA, resA, argFr, retA.eq_1, retA.eq_2, Nat.reduceAdd, Nat.reduceSub, Nat.reduceMul, Nat.reduceLT, Nat.reduceLeDiff, Nat.reduceEqDiff, Nat.reduceBEq, Int.reduceAdd, Int.reduceSub, Int.reduceMul, Int.reduceNeg, Int.reduceLE, Int.reduceLT, Int.reduceEq, Int.reduceNe, Int.reduceToNat, ↓reduceIte, reduceCtorEq, implies_true, forall_const, eq_self, ne_eq, wtAll, Tryz.ntmps84, Tryz.results84, hh_i10]) ?_)))
theorem aft_len (p : Pu) (l : List Int) (b : Bool) (n : Nat) : (aftL p l b n).length = n := by simp [aftL]
theorem aft_at (p : Pu) (l : List Int) (b : Bool) {n i : Nat} (hi : i < n) : (aftL p l b n).getD i 0 = watV p l b (i + 1) := by simp [aftL, List.getD_eq_getElem?_getD, hi]
theorem aft_succ (p : Pu) (l : List Int) (b : Bool) (n : Nat) : aftL p l b (n + 1) = aftL p l b n ++ [watV p l b (n + 1)] := by simp [aftL, List.range_succ]
theorem str_nn (p : Pu) (l : List Int) (i : Nat) (b : Bool) : 0 ≤ strV p l i b := by unfold strV; split <;> omega
theorem flow_rng {p : Pu} (k : Ok p) {i : Nat} (hi : i < p.fl.length) (b : Bool) : 0 ≤ flowV p i b ∧ flowV p i b ≤ 40 := by
 have := k.f i hi
 unfold okF at this
 unfold flowV
 split <;> omega
/-- Flow that is within so much, as far as a list reaches. -/
def FlowLe (p : Pu) (n : Nat) : Prop := ∀ i b, i < n → 0 ≤ flowV p i b ∧ flowV p i b ≤ 80
theorem start_rng (p : Pu) (b : Bool) : 0 ≤ startV p b ∧ startV p b ≤ 100 := by
 have hg : ∀ i, (allA p.ho).getD i 0 ≤ 100 := fun i => by
  by_cases h : i < (allA p.ho).length
  ·exact amts_le (mem_getD (allA p.ho) i 0 h)
  ·rw [List.getD_eq_getElem?_getD, List.getElem?_eq_none (by omega)]; decide
 unfold startV
 split
 ·have := hg 0; omega
 ·have := hg ((allA p.ho).length - 1); omega
theorem wat_rng {p : Pu} {n : Nat} (hf : FlowLe p n) (l : List Int) (b : Bool) : ∀ i, i ≤ n → 0 ≤ watV p l b i ∧ watV p l b i ≤ 100 + 80 * i := by
 intro i
 induction i with
 | zero => intro _; have := start_rng p b; simp only [watV]; omega
 | succ i ih =>
   intro hi
   have h1 := ih (by omega)
   have h2 := hf i b (by omega)
   have h3 := str_nn p l i b
   simp only [watV]
   omega
theorem flowLe_ok {p : Pu} (k : Ok p) {n : Nat} (h : n ≤ p.fl.length) : FlowLe p n := fun i b hi => by have := flow_rng k (i := i) (by omega) b; omega
theorem rlost_tri (p : Pu) (L : List Int) (H : Hp) (hL : L.length ≤ 41) : PTri Tryz.prog (fnA 74) [p.av, intsAV L] H (i64 (lostV p.ca L)) := by
 refine tri_v0 (fun _ => false) Tryz.func74 (by kernel_rfl) rfl (by simp only [List.length_append, List.length_cons, List.length_nil, Tryz.ntmps74]; decide) ?_
 simp only [vsAll, boxA, boxZ, opA, dstOk, nilSliceOp, argFr, Nat.reduceAdd, Nat.reduceLT, Int.reduceNeg, eq_self, wtAll, Tryz.ntmps74]
 refine vs_loop (σ := Nat) (fun i => i ≤ L.length ∧ ∀ j, j < i → ¬ p.ca < L.getD j 0) (fun i => [(1, intsAV L), (2, pptr p), (5, i64 i)]) (fun _ => H) (fun i => L.length - i) 0 ⟨Nat.zero_le _, fun j hj => absurd hj (Nat.not_lt_zero j)⟩ ?_ HSub_rfl fun i hi => ?_
 ·simp only [vsAll, argFr, Nat.reduceEqDiff, ↓reduceIte, eq_self, Int.natCast_zero]
 ·obtain ⟨hi, hall⟩ := hi
  simp only [vsAll, binA, binLitA, intA, lenA, opA, dstOk, Nat.reduceLT, Nat.reduceEqDiff, Int.reduceNeg, ↓reduceIte, eq_self, wtAll]
  refine condD (fun hd => ?_) (fun hd => ?_)
  ·have his : i < L.length := by omega
   simp only [vsAll, Int.reduceNeg]
   refine vs_draw2 [0, 0, 0, 0, 0, 0, 0] [] [0, 1, 2, 3, 4, 5, 6] (by decide +kernel) ?_
   simp only [vsAll, binA, binLitA, intA, loadA, loadRow, partA, partOk, fieldAddrA, indexAddrA, opA, dstOk, Nat.reduceLT, Nat.reduceEqDiff, Int.reduceNeg, ↓reduceIte, eq_self, wtAll, intF_at]
   refine ⟨⟨by omega, by omega⟩, his, condV (fun hc => ?_) (fun hc => ?_)⟩
   ·have e : lostV p.ca L = (i : Int) := by
     have : (List.range L.length).find? (fun i => decide (p.ca < L.getD i 0)) = some i := by
      rw [List.find?_range_eq_some]
      exact ⟨hc, by simpa using his, fun j hj => by simpa using hall j hj⟩
     unfold lostV
     rw [this]
    simp only [vsAll, opA, dstOk, nilSliceOp, resA, retA.eq_1, Nat.reduceLT, Nat.reduceEqDiff, Int.reduceNeg, ↓reduceIte, eq_self, Tryz.results74, e]
   ·simp only [vsAll, binA, binLitA, intA, opA, dstOk, nilSliceOp, Nat.reduceLT, Nat.reduceEqDiff, Int.reduceNeg, ↓reduceIte, eq_self]
    refine ⟨by simp only [InR_i64]; omega, loop_next (i + 1) ⟨by omega, fun j hj => ?_⟩ (by omega) ?_ HSub_rfl⟩
    ·by_cases e : j = i
     ·subst e; exact of_decide_eq_false hc
     ·exact hall j (by omega)
    ·simp only [vsAll, Nat.reduceEqDiff, ↓reduceIte, eq_self, Int.natCast_add, Int.natCast_one]
  ·have e : lostV p.ca L = -1 := by
    have : (List.range L.length).find? (fun i => decide (p.ca < L.getD i 0)) = none := by
     rw [List.find?_eq_none]
     intro j hj
     rw [List.mem_range] at hj
     simpa using hall j (by omega)
    unfold lostV
    rw [this]
   simp only [vsAll, opA, dstOk, nilSliceOp, resA, retA.eq_1, Nat.reduceLT, Int.reduceNeg, ↓reduceIte, eq_self, Tryz.results74, e]
theorem str_le {p : Pu} (k : Okm p) {l : List Int} (hl : FirstP p l) {i : Nat} (hi : i < l.length) (b : Bool) : strV p l i b ≤ 40 := by
 have hx := hl.at_ i hi
 unfold strV
 split
 ·omega
 ·rename_i hc
  have hw : (l.getD i (-1)).toNat < p.ws.length := by omega
  have hk := k.wt hw
  have hp : 0 ≤ (p.wt (l.getD i (-1)).toNat).ti * ((wornV p l (l.getD i (-1)).toNat i : Nat) : Int) := Int.mul_nonneg hk.2.1.1 (by omega)
  generalize (p.wt (l.getD i (-1)).toNat).ti * ((wornV p l (l.getD i (-1)).toNat i : Nat) : Int) = q at hp ⊢
  unfold freshV
  split <;> omega
theorem app_ints' {l : List Int} {n : Nat} (hn : l.length = n) (w : Int) (g : Nat → List AV) (hg : g 0 = [i64 w]) : appF n 1 (intF l) g = intF (l ++ [w]) := by
 subst hn; exact app_ints l w g hg
theorem raft_tri (p : Pu) (l : List Int) (b : Bool) (H : Hp) (k : Okm p) (hA : 0 < (allA p.ho).length) (hl : FirstP p l) (hn : l.length ≤ p.fl.length) (hf : FlowLe p l.length) (hs : ∀ i, i < l.length → ∀ H, PTri Tryz.prog (fnA 84) [p.av, intsAV l, i64 i, boo b] H (i64 (strV p l i b))) : PTri Tryz.prog (fnA 75) [p.av, intsAV l, boo b] H (intsAV (aftL p l b l.length)) := by
 have hll := hl.len
 have hAl := amts_len p.ho (2 ^ p.ho.m - 1)
 have hAl : (allA p.ho).length ≤ 101 := hAl
 have est : startV p b = (if b = true then (((allA p.ho).getD 0 0 : Nat) : Int) else (((allA p.ho).getD ((allA p.ho).length - 1) 0 : Nat) : Int)) := rfl
 refine tri_v (mset [9]) Tryz.func75 (by kernel_rfl) rfl (by simp only [List.length_append, List.length_cons, List.length_nil, Tryz.ntmps75]; decide) ?_
 simp only [vsAll, loadA, loadRow, partA, partOk, fieldAddrA, boxA, boxZ, okAll, stAll, opsA, opA, dstOk, nilSliceOp, argFr, Nat.reduceAdd, Nat.reduceLT, Nat.reduceEqDiff, Nat.reduceBEq, ↓reduceIte, eq_self, wtAll, Tryz.ntmps75]
 refine callK_pure (all_tri p.ho _ k.ho) ?_
 simp only [vsAll, binA, binLitA, intA, loadA, loadRow, partA, partOk, indexAddrA, lenA, opA, dstOk, nilSliceOp, argFr, Nat.reduceLT, Nat.reduceEqDiff, Nat.reduceBEq, ↓reduceIte, eq_self, wtAll]
 have ei : ((allA p.ho).length : Int) - 1 = (((allA p.ho).length - 1 : Nat) : Int) := by omega
 rw [ei]
 simp only [vsAll, natF_at]
 refine ⟨by simp only [InR_i64]; omega, ⟨by omega, by omega⟩, by omega, ?_⟩
 cases b
 ·refine condV (fun h => by cases h) (fun _ => ?_)
  simp only [vsAll, opA, dstOk, nilA, nilSliceOp, Nat.reduceLT, Nat.reduceBEq, eq_self, wtAll]
  intro il hh_il; (try simp only [Hp.set_none, ite_none] at hh_il)
  refine vs_loop (σ := Nat) (fun i => i ≤ l.length) (fun i => [(1, intsAV l), (2, boo false), (3, pptr p), (8, i64 (watV p l false i)), (9, .sl il 1 i), (10, i64 i)]) (fun i => H.set il (.row 1 i (intF (aftL p l false i)))) (fun i => l.length - i) 0 (Nat.zero_le _) ?_ ?_ fun i hi => ?_
  ·simp only [vsAll, argFr, Nat.reduceEqDiff, ↓reduceIte, eq_self, Int.natCast_zero, watV, startV]
  ·exact HSub.set HSub_rfl (row_ext fun q hq => absurd hq (Nat.not_lt_zero q))
  ·have hwr := wat_rng hf l false i (by ((try clear hh_il); omega))
   simp only [vsAll, binA, binLitA, intA, lenA, opA, dstOk, Nat.reduceLT, Nat.reduceEqDiff, ↓reduceIte, eq_self, wtAll]
   refine condD (fun hd => ?_) (fun hd => ?_)
   ·have his : i < l.length := by ((try clear hh_il); omega)
    have hfr := hf i false his
    have hsn := str_nn p l i false
    have hsu := str_le k hl his false
    simp only [vsAll, binA, binLitA, intA, loadA, loadRow, partA, partOk, fieldAddrA, indexAddrA, okAll, stAll, opsA, opA, dstOk, nilSliceOp, Nat.reduceLT, Nat.reduceEqDiff, Nat.reduceBEq, ↓reduceIte, eq_self, wtAll, spanF_at]
    have hfr' : 0 ≤ (p.fl.getD i (0, 0)).2 ∧ (p.fl.getD i (0, 0)).2 ≤ 80 := hfr
    refine ⟨⟨by ((try clear hh_il); omega), by ((try clear hh_il); omega)⟩, by ((try clear hh_il); omega), by simp only [InR_i64]; ((try clear hh_il); omega), ?_⟩
    refine callK_pure (hs i his _) ?_
    simp only [vsAll, binA, binLitA, intA, cellA, cellsA, okParts, buildSliceA, partIdx, elemsA, lensA, mmA, okAll, stAll, opsA, partsA, partsOk, opA, appendA, dstOk, nilSliceOp, Nat.reduceMul, Nat.reduceLT, Nat.reduceLeDiff, Nat.reduceEqDiff, Nat.reduceBEq, ↓reduceIte, eq_self, wtAll]
    have en : max 0 (watV p l false i + flowV p i false - strV p l i false) = watV p l false (i + 1) := rfl
    rw [show (p.fl.getD i (0, 0)).2 = flowV p i false from rfl, en]
    refine ⟨by simp only [InR_i64]; ((try clear hh_il); omega), ?_⟩
    rw [app_ints' (aft_len p l false i) (watV p l false (i + 1)) _ rfl, ← aft_succ]
    refine ⟨fun q hq => by (have : q = 0 := by ((try clear hh_il); omega)); subst this; exact ⟨rfl, trivial⟩, by ((try clear hh_il); omega), by ((try clear hh_il); omega), by simp only [InR_i64]; ((try clear hh_il); omega), loop_next (i + 1) (by ((try clear hh_il); omega)) (by ((try clear hh_il); omega)) ?_ ?_⟩
    ·simp only [vsAll, Nat.reduceEqDiff, ↓reduceIte, eq_self, Int.natCast_add, Int.natCast_one]
    ·(repeat (first | exact HSub_rfl | refine HSub_put_eq (by simp only [vsAll, ↓reduceIte, eq_self]) ?_ | refine HSub_drop2 (by simp only [eq_self, hh_il]) ?_ | refine HSub_keep_eq (by simp only [vsAll, binA, binLitA, intA, aggA, aggV, boolA, nilA2, isConst, unA, loadA, loadRow, partA, partOk, fieldAddrA, indexAddrA, indexA, fieldA, extractA, lenA, nilCheckA, boxA, boxZ, cellA, cellsA, fillA, okParts, buildSliceA, buildMutA, makeSliceA, partIdx, elemsA, lensA, ifaceA, convA, mmA, pickA, okAll, stAll, opsA, partsA, partsOk, opA, allocA, boxMutA, newCells, okCells, storeObj, appendA, guardV, taA, nM, mapUpA, lookA, sliceA, sliceM, sliceS, boundsA, opO, okO, copyA, dstOk, nilA, quietOk, nilSliceOp, deferV, panA, resA, argFr, retA.eq_1, retA.eq_2, Nat.reduceAdd, Nat.reduceSub, Nat.reduceMul, Nat.reduceLT, Nat.reduceLeDiff, Nat.reduceEqDiff, Nat.reduceBEq, Int.reduceAdd, Int.reduceSub, Int.reduceMul, Int.reduceNeg, Int.reduceLE, Int.reduceLT, Int.reduceEq, Int.reduceNe, Int.reduceToNat, ↓reduceIte, reduceCtorEq, implies_true, forall_const, eq_self, ne_eq, wtAll, Tryz.ntmps75, Tryz.results75, hh_il]) ?_))
   ·have ei : i = l.length := by ((try clear hh_il); omega)
    subst ei
    simp only [vsAll, opA, dstOk, nilSliceOp, Nat.reduceLT, Nat.reduceEqDiff, Nat.reduceBEq, ↓reduceIte, eq_self]
    have eL : intsAV (aftL p l false l.length) = AV.rsl l.length 1 (intF (aftL p l false l.length)) := by
     show AV.rsl (aftL p l false l.length).length 1 _ = _
     rw [aft_len]
    rw [eL]
    refine ret_freeze (by rw [Tryz.results75]) rfl (Hp.set_same _ _ _) ?_
    rw [set_del hh_il]
    exact ⟨rfl, rfl⟩
 ·refine condV (fun _ => ?_) (fun h => by cases h)
  simp only [vsAll, loadA, loadRow, partA, partOk, indexAddrA, opA, dstOk, nilA, nilSliceOp, Nat.reduceLT, Nat.reduceEqDiff, Nat.reduceBEq, Int.reduceLE, Int.reduceToNat, ↓reduceIte, eq_self, wtAll, natF_at]
  refine ⟨by omega, hA, ?_⟩
  intro il hh_il; (try simp only [Hp.set_none, ite_none] at hh_il)
  refine vs_loop (σ := Nat) (fun i => i ≤ l.length) (fun i => [(1, intsAV l), (2, boo true), (3, pptr p), (8, i64 (watV p l true i)), (9, .sl il 1 i), (10, i64 i)]) (fun i => H.set il (.row 1 i (intF (aftL p l true i)))) (fun i => l.length - i) 0 (Nat.zero_le _) ?_ ?_ fun i hi => ?_
  ·simp only [vsAll, argFr, Nat.reduceEqDiff, ↓reduceIte, eq_self, Int.natCast_zero, watV, startV]
  ·exact HSub.set HSub_rfl (row_ext fun q hq => absurd hq (Nat.not_lt_zero q))
  ·have hwr := wat_rng hf l true i (by ((try clear hh_il); omega))
   simp only [vsAll, binA, binLitA, intA, lenA, opA, dstOk, Nat.reduceLT, Nat.reduceEqDiff, ↓reduceIte, eq_self, wtAll]
   refine condD (fun hd => ?_) (fun hd => ?_)
   ·have his : i < l.length := by ((try clear hh_il); omega)
    have hfr := hf i true his
    have hsn := str_nn p l i true
    have hsu := str_le k hl his true
    simp only [vsAll, binA, binLitA, intA, loadA, loadRow, partA, partOk, fieldAddrA, indexAddrA, okAll, stAll, opsA, opA, dstOk, nilSliceOp, Nat.reduceLT, Nat.reduceEqDiff, Nat.reduceBEq, ↓reduceIte, eq_self, wtAll, spanF_at]
    have hfr' : 0 ≤ (p.fl.getD i (0, 0)).1 ∧ (p.fl.getD i (0, 0)).1 ≤ 80 := hfr
    refine ⟨⟨by ((try clear hh_il); omega), by ((try clear hh_il); omega)⟩, by ((try clear hh_il); omega), ⟨by ((try clear hh_il); omega), by ((try clear hh_il); omega)⟩, by ((try clear hh_il); omega), by simp only [InR_i64]; ((try clear hh_il); omega), ?_⟩
    refine callK_pure (hs i his _) ?_
    simp only [vsAll, binA, binLitA, intA, cellA, cellsA, okParts, buildSliceA, partIdx, elemsA, lensA, mmA, okAll, stAll, opsA, partsA, partsOk, opA, appendA, dstOk, nilSliceOp, Nat.reduceMul, Nat.reduceLT, Nat.reduceLeDiff, Nat.reduceEqDiff, Nat.reduceBEq, ↓reduceIte, eq_self, wtAll]
    have en : max 0 (watV p l true i + flowV p i true - strV p l i true) = watV p l true (i + 1) := rfl
    rw [show (p.fl.getD i (0, 0)).1 = flowV p i true from rfl, en]
    refine ⟨by simp only [InR_i64]; ((try clear hh_il); omega), ?_⟩
    rw [app_ints' (aft_len p l true i) (watV p l true (i + 1)) _ rfl, ← aft_succ]
    refine ⟨fun q hq => by (have : q = 0 := by ((try clear hh_il); omega)); subst this; exact ⟨rfl, trivial⟩, by ((try clear hh_il); omega), by ((try clear hh_il); omega), by simp only [InR_i64]; ((try clear hh_il); omega), loop_next (i + 1) (by ((try clear hh_il); omega)) (by ((try clear hh_il); omega)) ?_ ?_⟩
    ·simp only [vsAll, Nat.reduceEqDiff, ↓reduceIte, eq_self, Int.natCast_add, Int.natCast_one]
    ·(repeat (first | exact HSub_rfl | refine HSub_put_eq (by simp only [vsAll, ↓reduceIte, eq_self]) ?_ | refine HSub_drop2 (by simp only [eq_self, hh_il]) ?_ | refine HSub_keep_eq (by simp only [vsAll, binA, binLitA, intA, aggA, aggV, boolA, nilA2, isConst, unA, loadA, loadRow, partA, partOk, fieldAddrA, indexAddrA, indexA, fieldA, extractA, lenA, nilCheckA, boxA, boxZ, cellA, cellsA, fillA, okParts, buildSliceA, buildMutA, makeSliceA, partIdx, elemsA, lensA, ifaceA, convA, mmA, pickA, okAll, stAll, opsA, partsA, partsOk, opA, allocA, boxMutA, newCells, okCells, storeObj, appendA, guardV, taA, nM, mapUpA, lookA, sliceA, sliceM, sliceS, boundsA, opO, okO, copyA, dstOk, nilA, quietOk, nilSliceOp, deferV, panA, resA, argFr, retA.eq_1, retA.eq_2, Nat.reduceAdd, Nat.reduceSub, Nat.reduceMul, Nat.reduceLT, Nat.reduceLeDiff, Nat.reduceEqDiff, Nat.reduceBEq, Int.reduceAdd, Int.reduceSub, Int.reduceMul, Int.reduceNeg, Int.reduceLE, Int.reduceLT, Int.reduceEq, Int.reduceNe, Int.reduceToNat, ↓reduceIte, reduceCtorEq, implies_true, forall_const, eq_self, ne_eq, wtAll, Tryz.ntmps75, Tryz.results75, hh_il]) ?_))
   ·have ei : i = l.length := by ((try clear hh_il); omega)
    subst ei
    simp only [vsAll, opA, dstOk, nilSliceOp, Nat.reduceLT, Nat.reduceEqDiff, Nat.reduceBEq, ↓reduceIte, eq_self]
    have eL : intsAV (aftL p l true l.length) = AV.rsl l.length 1 (intF (aftL p l true l.length)) := by
     show AV.rsl (aftL p l true l.length).length 1 _ = _
     rw [aft_len]
    rw [eL]
    refine ret_freeze (by rw [Tryz.results75]) rfl (Hp.set_same _ _ _) ?_
    rw [set_del hh_il]
    exact ⟨rfl, rfl⟩
end Go.Proofs.YtkcgocmjaggdiaaGreat
end
section
set_option linter.unusedVariables false
set_option linter.unusedSimpArgs false
set_option maxHeartbeats 4000000
set_option maxRecDepth 100000
namespace Go.Proofs.YtkcgocmjaggdiaaGreat
open Go.V Wl
theorem raft0_tri (p : Pu) (l : List Int) (b : Bool) (H : Hp) (k : Okm p) (hA : 0 < (allA p.ho).length) (hl : FirstP p l) (hn : l.length ≤ p.fl.length) (hf : FlowLe p l.length) : PTri Tryz.prog (fnA 75) [p.av, intsAV l, boo b] H (intsAV (aftL p l b l.length)) :=
 raft_tri p l b H k hA hl hn hf fun i hi H => rstr_tri p l i b H k hl hi
theorem rsafe_tri (p : Pu) (l : List Int) (H : Hp) (k : Okm p) (hA : 0 < (allA p.ho).length) (hl : FirstP p l) (hn : l.length ≤ p.fl.length) (hf : FlowLe p l.length) : PTri Tryz.prog (fnA 61) [p.av, intsAV l] H (boo (safeB p l)) := by
 have hll := hl.len
 refine tri_v0 (fun _ => false) Tryz.func61 (by kernel_rfl) rfl (by simp only [List.length_append, List.length_cons, List.length_nil, Tryz.ntmps61]; decide) ?_
 simp only [vsAll, boxA, boxZ, opA, dstOk, nilSliceOp, argFr, Nat.reduceAdd, Nat.reduceLT, eq_self, wtAll, Tryz.ntmps61]
 refine vs_draw2 [0, 0, 0, 0, 0, 0, 0] [] [0, 1, 2, 3, 4, 5, 6] (by decide +kernel) ?_
 simp only [vsAll, loadA, loadRow, partA, partOk, opA, dstOk, argFr, Nat.reduceLT, Nat.reduceEqDiff, ↓reduceIte, eq_self, wtAll]
 refine qcall _ ⟨trivial, by simp only [vsAll, okAll, opsA, opA, Nat.reduceEqDiff, ↓reduceIte, eq_self], raft0_tri p l false _ k hA hl hn hf⟩ ?_
 simp only [vsAll, dstOk, Nat.reduceLT, eq_self]
 refine qcall _ ⟨trivial, by simp only [vsAll, okAll, opsA, opA, Nat.reduceEqDiff, ↓reduceIte, eq_self], rlost_tri p (aftL p l false l.length) _ (by rw [aft_len]; omega)⟩ ?_
 simp only [vsAll, binA, binLitA, intA, opA, dstOk, resA, retA.eq_1, Nat.reduceLT, ↓reduceIte, eq_self, Tryz.results61]
 rfl
theorem rcheck_tri (p : Pu) (v : Bool) (H : Hp) (kn : Near p) : PTri Tryz.prog (fnA 35) [p.av, boo v] H (i64 (errE p v)) := by
 refine tri_v0 (fun _ => false) Tryz.func35 (by kernel_rfl) rfl (by simp only [List.length_append, List.length_cons, List.length_nil, Tryz.ntmps35]; decide) ?_
 simp only [vsAll, loadA, loadRow, partA, partOk, boxA, boxZ, okAll, stAll, opsA, opA, dstOk, nilSliceOp, argFr, Nat.reduceAdd, Nat.reduceLT, Nat.reduceEqDiff, ↓reduceIte, eq_self, wtAll, Tryz.ntmps35]
 refine callK_pure (rpump_tri p _ kn) ?_
 simp only [vsAll, unA, opA, dstOk, Nat.reduceLT, ↓reduceIte, eq_self]
 refine condV (fun hc => ?_) (fun hc => ?_)
 ·have hno : ¬ Ok p := by simpa using hc
  simp only [vsAll, opA, dstOk, nilSliceOp, resA, retA.eq_1, Nat.reduceLT, ↓reduceIte, eq_self, Tryz.results35, errE_no hno]
 ·have k : Ok p := by simpa using hc
  simp only [vsAll, unA, opA, dstOk, argFr, Nat.reduceLT, Nat.reduceEqDiff, ↓reduceIte, eq_self]
  refine condV (fun hv => ?_) (fun hv => ?_)
  ·rw [show v = false by simpa using hv]
   simp only [vsAll, opA, dstOk, nilSliceOp, resA, retA.eq_1, Nat.reduceLT, ↓reduceIte, eq_self, Tryz.results35, errE_bad k]
  ·rw [show v = true by simpa using hv]
   simp only [vsAll, loadA, loadRow, partA, partOk, fieldAddrA, okAll, stAll, opsA, opA, dstOk, Nat.reduceAdd, Nat.reduceLT, Nat.reduceEqDiff, ↓reduceIte, eq_self, wtAll]
   refine callK_pure (all_tri p.ho _ k.ho) ?_
   simp only [vsAll, binA, binLitA, intA, lenA, opA, dstOk, Nat.reduceLT, ↓reduceIte, eq_self, wtAll]
   refine condV (fun hA => ?_) (fun hA => ?_)
   ·simp only [vsAll, opA, dstOk, nilSliceOp, resA, retA.eq_1, Nat.reduceLT, ↓reduceIte, eq_self, Tryz.results35, errE_clash k (by have := of_decide_eq_true hA; omega)]
   ·simp only [vsAll, opA, dstOk, nilSliceOp, resA, retA.eq_1, Nat.reduceLT, ↓reduceIte, eq_self, Tryz.results35, errE_ok k (by have := of_decide_eq_false hA; omega)]
/-- The water after so many hours, span by span. -/
def plyL (p : Pu) (l : List Int) (n : Nat) : List (Int × Int) := (List.range n).map fun i => (watV p l true (i + 1), watV p l false (i + 1))
theorem ply_len (p : Pu) (l : List Int) (n : Nat) : (plyL p l n).length = n := by simp [plyL]
theorem app_spans' {l : List (Int × Int)} {n : Nat} (hn : l.length = n) (a b : Int) (g : Nat → List AV) (hg : g 0 = [i64 a, i64 b]) : appF n 1 (spanF l) g = spanF (l ++ [(a, b)]) := by
 subst hn; exact app_spans l a b g hg
theorem more_at (p : Pu) (n : Int) {i : Nat} (hi : i < p.fl.length) : (moreP p n).fl.getD i (0, 0) = ((p.fl.getD i (0, 0)).1 + n, (p.fl.getD i (0, 0)).2 + n) := by
 simp [moreP, List.getD_eq_getElem?_getD, hi]
theorem more_flow {p : Pu} (k : Ok p) {n : Int} (hn : 0 ≤ n ∧ n ≤ 40) {q : Nat} (hq : q ≤ p.fl.length) : FlowLe (moreP p n) q := by
 intro i b hi
 have := k.f i (by omega)
 unfold okF at this
 unfold flowV
 rw [more_at p n (by omega)]
 split <;> simp only [] <;> omega
def mrL (p : Pu) (n : Int) (i : Nat) : List (Int × Int) := (p.fl.take i).map fun x => (x.1 + n, x.2 + n)
end Go.Proofs.YtkcgocmjaggdiaaGreat
end
section
set_option linter.unusedVariables false
set_option linter.unusedSimpArgs false
set_option maxHeartbeats 4000000
set_option maxRecDepth 100000
namespace Go.Proofs.YtkcgocmjaggdiaaGreat
open Go.V Wl
theorem pin_tri (n lo hi : Int) (H : Hp) : PTri Tryz.prog (fnA 49) [i64 n, i64 lo, i64 hi] H (boo (decide (lo ≤ n) && decide (n ≤ hi))) := by
 refine tri_v0 (fun _ => false) Tryz.func49 (by kernel_rfl) rfl (by simp only [List.length_append, List.length_cons, List.length_nil, Tryz.ntmps49]; decide) ?_
 simp only [vsAll, binA, binLitA, intA, pickA, opA, guardV, dstOk, nilSliceOp, resA, argFr, retA.eq_1, Nat.reduceLT, Nat.reduceEqDiff, ↓reduceIte, reduceCtorEq, implies_true, eq_self, Tryz.ntmps49, Tryz.results49]
theorem pspan_tri (a b hi : Int) (H : Hp) : PTri Tryz.prog (fnA 54) [.agg [i64 a, i64 b], i64 hi] H (boo (decide (0 ≤ a) && decide (a ≤ b) && decide (b ≤ hi))) := by
 refine tri_v0 (fun _ => false) Tryz.func54 (by kernel_rfl) rfl (by simp only [List.length_append, List.length_cons, List.length_nil, Tryz.ntmps54]; decide) ?_
 simp only [vsAll, binA, binLitA, intA, loadA, loadRow, partA, partOk, fieldAddrA, boxA, boxZ, pickA, opA, guardV, dstOk, nilSliceOp, resA, argFr, retA.eq_1, Nat.reduceAdd, Nat.reduceLT, Nat.reduceEqDiff, ↓reduceIte, implies_true, eq_self, wtAll, Tryz.ntmps54, Tryz.results54]
theorem pask_tri (b : Bool) (e : Int) (H : Hp) : Tri Tryz.prog (fnA 32) [boo b, i64 e] H fun r H' => H' = H ∧ r = if b then .ret (.tuple []) else .pan (.iface 101 (i64 e)) := by
 refine tri_v0 (fun _ => false) Tryz.func32 (by kernel_rfl) rfl (by simp only [List.length_append, List.length_cons, List.length_nil, Tryz.ntmps32]; decide) ?_
 cases b
 ·simp only [vsAll, unA, ifaceA, opA, dstOk, panA, argFr, Nat.reduceLT, Nat.reduceEqDiff, ↓reduceIte, eq_self, wtAll, Tryz.ntmps32]
 ·simp only [vsAll, unA, opA, dstOk, resA, argFr, retA.eq_2, Nat.reduceLT, ↓reduceIte, eq_self, Tryz.ntmps32, Tryz.results32]
theorem pask_call {b : Bool} {e : Int} {H : Hp} {K : AV → Hp → Prop} {Kp : AV → Hp → Prop} (h1 : b = true → K (.tuple []) H) (h2 : b = false → Kp (.iface 101 (i64 e)) H) :
 CallK Tryz.prog (fnA 32) [boo b, i64 e] H K Kp := by
 refine ⟨_, pask_tri b e H, fun r H' hr => ?_⟩
 obtain ⟨rfl, rfl⟩ := hr
 cases b
 ·exact h2 rfl
 ·exact h1 rfl
theorem left_tri (n x : Int) (H : Hp) (hn : -100000 ≤ n ∧ n ≤ 100000) (hx : -100000 ≤ x ∧ x ≤ 100000) : PTri Tryz.prog (fnA 58) [i64 n, .rsl 1 1 fun i => [[i64 x]].getD i []] H (i64 (max 0 (n - x))) := by
 refine tri_v0 (fun _ => false) Tryz.func58 (by kernel_rfl) rfl (by simp only [List.length_append, List.length_cons, List.length_nil, Tryz.ntmps58]; decide) ?_
 simp only [vsAll, lenA, opA, dstOk, nilSliceOp, argFr, Nat.reduceLT, Nat.reduceEqDiff, ↓reduceIte, eq_self, wtAll, Tryz.ntmps58]
 refine vs_loop (σ := Nat) (fun i => i ≤ 1) (fun i => [(0, i64 (if i = 0 then n else n - x)), (7, .rsl 1 1 fun i => [[i64 x]].getD i []), (8, i64 1), (9, i64 i)]) (fun _ => H) (fun i => 1 - i) 0 (Nat.zero_le _) ?_ HSub_rfl fun i hi => ?_
 ·simp only [vsAll, argFr, Nat.reduceEqDiff, ↓reduceIte, reduceCtorEq, eq_self, Int.natCast_zero]
  exact AV.Le.refl _
 ·simp only [vsAll, binA, binLitA, intA, opA, dstOk, Nat.reduceLT, Nat.reduceEqDiff, ↓reduceIte, reduceCtorEq, eq_self]
  refine condD (fun hd => ?_) (fun hd => ?_)
  ·have e0 : i = 0 := by omega
   subst e0
   have eg : ((fun i => [[i64 x]].getD i []) 0 : List AV) = [i64 x] := rfl
   simp only [vsAll, binA, binLitA, intA, loadA, loadRow, partA, partOk, indexAddrA, opA, dstOk, nilSliceOp, Nat.reduceLT, Nat.reduceEqDiff, Int.reduceAdd, Int.reduceLE, Int.reduceLT, Int.reduceToNat, ↓reduceIte, reduceCtorEq, eq_self, wtAll, Int.natCast_zero]
   refine ⟨by omega, by simp only [InR_i64]; omega, by simp only [InR_i64]; omega, loop_next 1 (by omega) (by omega) ?_ HSub_rfl⟩
   simp only [vsAll, Nat.reduceEqDiff, ↓reduceIte, reduceCtorEq, eq_self, Int.natCast_one]
  ·have e1 : i = 1 := by omega
   subst e1
   simp only [vsAll, mmA, okAll, stAll, opsA, opA, dstOk, nilSliceOp, resA, retA.eq_1, Nat.reduceLT, ↓reduceIte, reduceCtorEq, eq_self, Tryz.results58]
/-- What a watch has done, as the program keeps it. -/
def capM (s : Nat × Nat) : Nat × Nat := (s.1, min s.2 4)
theorem cap_step {re : Int} (hr : 0 ≤ re ∧ re ≤ 4) (is : Bool) (s : Nat × Nat) : capM (stepW re is s) = (let s' := if is = true then ((capM s).1 + 1, 0) else ((capM s).1, min ((capM s).2 + 1) 4); if re ≤ (s'.2 : Int) then (0, s'.2) else s') := by
 unfold capM stepW
 cases is
 ·simp only [Bool.false_eq_true, if_false]
  by_cases h : re ≤ ((s.2 + 1 : Nat) : Int)
  ·rw [if_pos h, if_pos (by omega)]
   exact Prod.ext rfl (by simp only []; omega)
  ·rw [if_neg h, if_neg (by omega)]
   exact Prod.ext rfl (by simp only []; omega)
 ·by_cases h : re ≤ 0
  ·simp [h]
  ·simp [h]
theorem pumped_tri (s : Nat × Nat) (is : Bool) (re : Int) (H : Hp) (hr : 0 ≤ re ∧ re ≤ 4) (hs : s.1 ≤ 100) : PTri Tryz.prog (fnA 59) [.agg [i64 (capM s).1, i64 (capM s).2], boo is, i64 re] H (.agg [i64 (capM (stepW re is s)).1, i64 (capM (stepW re is s)).2]) := by
 have e := cap_step hr is s
 have h1 : (capM s).1 ≤ 100 := hs
 have h2 : (capM s).2 ≤ 4 := Nat.min_le_right _ _
 generalize capM (stepW re is s) = r at e ⊢
 generalize capM s = c at e h1 h2 ⊢
 refine Tri.drop ?_
 refine tri_v0 (mset [3]) Tryz.func59 (by kernel_rfl) rfl (by simp only [List.length_append, List.length_cons, List.length_nil, Tryz.ntmps59]; decide) ?_
 simp only [vsAll, opA, allocA, boxMutA, dstOk, argFr, Nat.reduceAdd, Nat.reduceLT, Nat.reduceEqDiff, Nat.reduceBEq, ↓reduceIte, eq_self, wtAll, Tryz.ntmps59]
 intro i3 hh_i3; (try simp only [Hp.set_none, ite_none] at hh_i3); intro i6 hh_i6; (try simp only [ite_none] at hh_i6)
 cases is
 ·simp only [Bool.false_eq_true, if_false] at e
  refine condV (fun h => by cases h) (fun _ => ?_)
  simp only [vsAll, binA, binLitA, intA, loadA, loadRow, partA, partOk, fieldAddrA, cellA, cellsA, mmA, okAll, stAll, opsA, opA, newCells, okCells, storeObj, dstOk, argFr, Nat.reduceAdd, Nat.reduceLT, Nat.reduceEqDiff, ↓reduceIte, eq_self, wtAll, hh_i6]
  have em : min ((c.2 : Int) + 1) 4 = ((min (c.2 + 1) 4 : Nat) : Int) := by ((try clear hh_i3); (try clear hh_i6); omega)
  rw [em]
  refine ⟨by simp only [InR_i64]; ((try clear hh_i3); (try clear hh_i6); omega), condV (fun hc => ?_) (fun hc => ?_)⟩
  ·rw [if_pos (of_decide_eq_true hc)] at e
   subst e
   simp only [vsAll, loadA, loadRow, partA, partOk, fieldAddrA, cellA, cellsA, opA, newCells, okCells, storeObj, dstOk, resA, retA.eq_1, Nat.reduceAdd, Nat.reduceLT, Nat.reduceLeDiff, Nat.reduceEqDiff, ↓reduceIte, eq_self, wtAll, Tryz.results59, hh_i6, Int.natCast_zero]
   exact dropR_pure rfl (by (repeat (first | exact HSub_rfl | refine HSub_put_eq (by simp only [vsAll, binA, binLitA, intA, aggA, aggV, boolA, nilA2, isConst, unA, loadA, loadRow, partA, partOk, fieldAddrA, indexAddrA, indexA, fieldA, extractA, lenA, nilCheckA, boxA, boxZ, cellA, cellsA, fillA, okParts, buildSliceA, buildMutA, makeSliceA, partIdx, elemsA, lensA, ifaceA, convA, mmA, pickA, okAll, stAll, opsA, partsA, partsOk, opA, allocA, boxMutA, newCells, okCells, storeObj, appendA, guardV, taA, nM, mapUpA, lookA, sliceA, sliceM, sliceS, boundsA, opO, okO, copyA, dstOk, nilA, quietOk, nilSliceOp, deferV, panA, resA, argFr, retA.eq_1, retA.eq_2, Nat.reduceAdd, Nat.reduceSub, Nat.reduceMul, Nat.reduceLT, Nat.reduceLeDiff, Nat.reduceEqDiff, Nat.reduceBEq, Int.reduceAdd, Int.reduceSub, Int.reduceMul, Int.reduceNeg, Int.reduceLE, Int.reduceLT, Int.reduceEq, Int.reduceNe, Int.reduceToNat, ↓reduceIte, reduceCtorEq, implies_true, forall_const, eq_self, ne_eq, wtAll, Tryz.ntmps59, Tryz.results59, hh_i3, hh_i6]) ?_ | refine HSub_drop2 (by simp only [eq_self, hh_i3, hh_i6]) ?_ | refine HSub_keep_eq (by simp only [vsAll, binA, binLitA, intA, aggA, aggV, boolA, nilA2, isConst, unA, loadA, loadRow, partA, partOk, fieldAddrA, indexAddrA, indexA, fieldA, extractA, lenA, nilCheckA, boxA, boxZ, cellA, cellsA, fillA, okParts, buildSliceA, buildMutA, makeSliceA, partIdx, elemsA, lensA, ifaceA, convA, mmA, pickA, okAll, stAll, opsA, partsA, partsOk, opA, allocA, boxMutA, newCells, okCells, storeObj, appendA, guardV, taA, nM, mapUpA, lookA, sliceA, sliceM, sliceS, boundsA, opO, okO, copyA, dstOk, nilA, quietOk, nilSliceOp, deferV, panA, resA, argFr, retA.eq_1, retA.eq_2, Nat.reduceAdd, Nat.reduceSub, Nat.reduceMul, Nat.reduceLT, Nat.reduceLeDiff, Nat.reduceEqDiff, Nat.reduceBEq, Int.reduceAdd, Int.reduceSub, Int.reduceMul, Int.reduceNeg, Int.reduceLE, Int.reduceLT, Int.reduceEq, Int.reduceNe, Int.reduceToNat, ↓reduceIte, reduceCtorEq, implies_true, forall_const, eq_self, ne_eq, wtAll, Tryz.ntmps59, Tryz.results59, hh_i3, hh_i6]) ?_)))
  ·rw [if_neg (of_decide_eq_false hc)] at e
   subst e
   simp only [vsAll, loadA, loadRow, partA, partOk, cellA, opA, newCells, okCells, storeObj, dstOk, resA, retA.eq_1, Nat.reduceAdd, Nat.reduceLT, Nat.reduceEqDiff, ↓reduceIte, eq_self, wtAll, Tryz.results59, hh_i6]
   exact dropR_pure rfl (by (repeat (first | exact HSub_rfl | refine HSub_put_eq (by simp only [vsAll, binA, binLitA, intA, aggA, aggV, boolA, nilA2, isConst, unA, loadA, loadRow, partA, partOk, fieldAddrA, indexAddrA, indexA, fieldA, extractA, lenA, nilCheckA, boxA, boxZ, cellA, cellsA, fillA, okParts, buildSliceA, buildMutA, makeSliceA, partIdx, elemsA, lensA, ifaceA, convA, mmA, pickA, okAll, stAll, opsA, partsA, partsOk, opA, allocA, boxMutA, newCells, okCells, storeObj, appendA, guardV, taA, nM, mapUpA, lookA, sliceA, sliceM, sliceS, boundsA, opO, okO, copyA, dstOk, nilA, quietOk, nilSliceOp, deferV, panA, resA, argFr, retA.eq_1, retA.eq_2, Nat.reduceAdd, Nat.reduceSub, Nat.reduceMul, Nat.reduceLT, Nat.reduceLeDiff, Nat.reduceEqDiff, Nat.reduceBEq, Int.reduceAdd, Int.reduceSub, Int.reduceMul, Int.reduceNeg, Int.reduceLE, Int.reduceLT, Int.reduceEq, Int.reduceNe, Int.reduceToNat, ↓reduceIte, reduceCtorEq, implies_true, forall_const, eq_self, ne_eq, wtAll, Tryz.ntmps59, Tryz.results59, hh_i3, hh_i6]) ?_ | refine HSub_drop2 (by simp only [eq_self, hh_i3, hh_i6]) ?_ | refine HSub_keep_eq (by simp only [vsAll, binA, binLitA, intA, aggA, aggV, boolA, nilA2, isConst, unA, loadA, loadRow, partA, partOk, fieldAddrA, indexAddrA, indexA, fieldA, extractA, lenA, nilCheckA, boxA, boxZ, cellA, cellsA, fillA, okParts, buildSliceA, buildMutA, makeSliceA, partIdx, elemsA, lensA, ifaceA, convA, mmA, pickA, okAll, stAll, opsA, partsA, partsOk, opA, allocA, boxMutA, newCells, okCells, storeObj, appendA, guardV, taA, nM, mapUpA, lookA, sliceA, sliceM, sliceS, boundsA, opO, okO, copyA, dstOk, nilA, quietOk, nilSliceOp, deferV, panA, resA, argFr, retA.eq_1, retA.eq_2, Nat.reduceAdd, Nat.reduceSub, Nat.reduceMul, Nat.reduceLT, Nat.reduceLeDiff, Nat.reduceEqDiff, Nat.reduceBEq, Int.reduceAdd, Int.reduceSub, Int.reduceMul, Int.reduceNeg, Int.reduceLE, Int.reduceLT, Int.reduceEq, Int.reduceNe, Int.reduceToNat, ↓reduceIte, reduceCtorEq, implies_true, forall_const, eq_self, ne_eq, wtAll, Tryz.ntmps59, Tryz.results59, hh_i3, hh_i6]) ?_)))
 ·simp only [if_true] at e
  refine condV (fun _ => ?_) (fun h => by cases h)
  simp only [vsAll, binA, binLitA, intA, loadA, loadRow, partA, partOk, fieldAddrA, cellA, cellsA, fillA, okParts, partsA, partsOk, opA, newCells, okCells, storeObj, dstOk, argFr, Nat.reduceAdd, Nat.reduceLT, Nat.reduceLeDiff, Nat.reduceEqDiff, ↓reduceIte, eq_self, wtAll, hh_i6]
  refine ⟨by simp only [InR_i64]; ((try clear hh_i3); (try clear hh_i6); omega), condV (fun hc => ?_) (fun hc => ?_)⟩
  ·rw [if_pos (by have := of_decide_eq_true hc; ((try clear hh_i3); (try clear hh_i6); omega))] at e
   subst e
   simp only [vsAll, loadA, loadRow, partA, partOk, fieldAddrA, cellA, cellsA, opA, newCells, okCells, storeObj, dstOk, resA, retA.eq_1, Nat.reduceAdd, Nat.reduceLT, Nat.reduceLeDiff, Nat.reduceEqDiff, ↓reduceIte, eq_self, wtAll, Tryz.results59, hh_i6, Int.natCast_zero]
   exact dropR_pure rfl (by (repeat (first | exact HSub_rfl | refine HSub_put_eq (by simp only [vsAll, binA, binLitA, intA, aggA, aggV, boolA, nilA2, isConst, unA, loadA, loadRow, partA, partOk, fieldAddrA, indexAddrA, indexA, fieldA, extractA, lenA, nilCheckA, boxA, boxZ, cellA, cellsA, fillA, okParts, buildSliceA, buildMutA, makeSliceA, partIdx, elemsA, lensA, ifaceA, convA, mmA, pickA, okAll, stAll, opsA, partsA, partsOk, opA, allocA, boxMutA, newCells, okCells, storeObj, appendA, guardV, taA, nM, mapUpA, lookA, sliceA, sliceM, sliceS, boundsA, opO, okO, copyA, dstOk, nilA, quietOk, nilSliceOp, deferV, panA, resA, argFr, retA.eq_1, retA.eq_2, Nat.reduceAdd, Nat.reduceSub, Nat.reduceMul, Nat.reduceLT, Nat.reduceLeDiff, Nat.reduceEqDiff, Nat.reduceBEq, Int.reduceAdd, Int.reduceSub, Int.reduceMul, Int.reduceNeg, Int.reduceLE, Int.reduceLT, Int.reduceEq, Int.reduceNe, Int.reduceToNat, ↓reduceIte, reduceCtorEq, implies_true, forall_const, eq_self, ne_eq, wtAll, Tryz.ntmps59, Tryz.results59, hh_i3, hh_i6]) ?_ | refine HSub_drop2 (by simp only [eq_self, hh_i3, hh_i6]) ?_ | refine HSub_keep_eq (by simp only [vsAll, binA, binLitA, intA, aggA, aggV, boolA, nilA2, isConst, unA, loadA, loadRow, partA, partOk, fieldAddrA, indexAddrA, indexA, fieldA, extractA, lenA, nilCheckA, boxA, boxZ, cellA, cellsA, fillA, okParts, buildSliceA, buildMutA, makeSliceA, partIdx, elemsA, lensA, ifaceA, convA, mmA, pickA, okAll, stAll, opsA, partsA, partsOk, opA, allocA, boxMutA, newCells, okCells, storeObj, appendA, guardV, taA, nM, mapUpA, lookA, sliceA, sliceM, sliceS, boundsA, opO, okO, copyA, dstOk, nilA, quietOk, nilSliceOp, deferV, panA, resA, argFr, retA.eq_1, retA.eq_2, Nat.reduceAdd, Nat.reduceSub, Nat.reduceMul, Nat.reduceLT, Nat.reduceLeDiff, Nat.reduceEqDiff, Nat.reduceBEq, Int.reduceAdd, Int.reduceSub, Int.reduceMul, Int.reduceNeg, Int.reduceLE, Int.reduceLT, Int.reduceEq, Int.reduceNe, Int.reduceToNat, ↓reduceIte, reduceCtorEq, implies_true, forall_const, eq_self, ne_eq, wtAll, Tryz.ntmps59, Tryz.results59, hh_i3, hh_i6]) ?_)))
  ·rw [if_neg (by have := of_decide_eq_false hc; ((try clear hh_i3); (try clear hh_i6); omega))] at e
   subst e
   simp only [vsAll, loadA, loadRow, partA, partOk, cellA, opA, newCells, okCells, storeObj, dstOk, resA, retA.eq_1, Nat.reduceAdd, Nat.reduceLT, Nat.reduceEqDiff, ↓reduceIte, eq_self, wtAll, Tryz.results59, hh_i6, Int.natCast_zero, Int.natCast_add, Int.natCast_one]
   exact dropR_pure rfl (by (repeat (first | exact HSub_rfl | refine HSub_put_eq (by simp only [vsAll, binA, binLitA, intA, aggA, aggV, boolA, nilA2, isConst, unA, loadA, loadRow, partA, partOk, fieldAddrA, indexAddrA, indexA, fieldA, extractA, lenA, nilCheckA, boxA, boxZ, cellA, cellsA, fillA, okParts, buildSliceA, buildMutA, makeSliceA, partIdx, elemsA, lensA, ifaceA, convA, mmA, pickA, okAll, stAll, opsA, partsA, partsOk, opA, allocA, boxMutA, newCells, okCells, storeObj, appendA, guardV, taA, nM, mapUpA, lookA, sliceA, sliceM, sliceS, boundsA, opO, okO, copyA, dstOk, nilA, quietOk, nilSliceOp, deferV, panA, resA, argFr, retA.eq_1, retA.eq_2, Nat.reduceAdd, Nat.reduceSub, Nat.reduceMul, Nat.reduceLT, Nat.reduceLeDiff, Nat.reduceEqDiff, Nat.reduceBEq, Int.reduceAdd, Int.reduceSub, Int.reduceMul, Int.reduceNeg, Int.reduceLE, Int.reduceLT, Int.reduceEq, Int.reduceNe, Int.reduceToNat, ↓reduceIte, reduceCtorEq, implies_true, forall_const, eq_self, ne_eq, wtAll, Tryz.ntmps59, Tryz.results59, hh_i3, hh_i6]) ?_ | refine HSub_drop2 (by simp only [eq_self, hh_i3, hh_i6]) ?_ | refine HSub_keep_eq (by simp only [vsAll, binA, binLitA, intA, aggA, aggV, boolA, nilA2, isConst, unA, loadA, loadRow, partA, partOk, fieldAddrA, indexAddrA, indexA, fieldA, extractA, lenA, nilCheckA, boxA, boxZ, cellA, cellsA, fillA, okParts, buildSliceA, buildMutA, makeSliceA, partIdx, elemsA, lensA, ifaceA, convA, mmA, pickA, okAll, stAll, opsA, partsA, partsOk, opA, allocA, boxMutA, newCells, okCells, storeObj, appendA, guardV, taA, nM, mapUpA, lookA, sliceA, sliceM, sliceS, boundsA, opO, okO, copyA, dstOk, nilA, quietOk, nilSliceOp, deferV, panA, resA, argFr, retA.eq_1, retA.eq_2, Nat.reduceAdd, Nat.reduceSub, Nat.reduceMul, Nat.reduceLT, Nat.reduceLeDiff, Nat.reduceEqDiff, Nat.reduceBEq, Int.reduceAdd, Int.reduceSub, Int.reduceMul, Int.reduceNeg, Int.reduceLE, Int.reduceLT, Int.reduceEq, Int.reduceNe, Int.reduceToNat, ↓reduceIte, reduceCtorEq, implies_true, forall_const, eq_self, ne_eq, wtAll, Tryz.ntmps59, Tryz.results59, hh_i3, hh_i6]) ?_)))
def trT (b : Bool) : Nat := if b = true then 98 else 104
def strT (b : Bool) : Nat := if b = true then 126 else 128
/-- The pump, in one of the two truths, with so much more in each hour. -/
abbrev pmC (p : Pu) (b : Bool) (m : Int) : List AV := [spansAV p.fl, i64 p.ca, wsAV p.ws, flAV p.ho.n p.ho.fl, sdAV p.ho.m p.ho.sd, .iface (trT b) (.agg []), i64 (startV p true), i64 (startV p false), i64 m]
abbrev PmAt (p : Pu) (b : Bool) (m : Int) (id : Nat) (H : Hp) : Prop := H id = some (.box 9 1 fun _ => pmC p b m)
/-- How it is after so many hours of a plan. -/
def menV (p : Pu) (l : List Int) (i w : Nat) : Nat × Nat := if w < p.ws.length then capM (doneW (p.wt w).re l w i) else (0, 0)
abbrev dkC (p : Pu) (l : List Int) (b : Bool) (m : Int) (i : Nat) : List AV := [i64 i, i64 (menV p l i 0).1, i64 (menV p l i 0).2, i64 (menV p l i 1).1, i64 (menV p l i 1).2, i64 (menV p l i 2).1, i64 (menV p l i 2).2, i64 (watV (moreP p m) l b i)]
theorem of_tri (b : Bool) (x y : Int) (H : Hp) : PTri Tryz.prog (.func (.func (if b = true then 109 else 111)) [] []) [.agg [], .agg [i64 x, i64 y]] H (i64 (if b = true then x else y)) := by
 cases b
 ·show PTri Tryz.prog (fnA 111) _ H (i64 y)
  refine tri_v0 (fun _ => false) Tryz.func111 (by kernel_rfl) rfl (by simp only [List.length_append, List.length_cons, List.length_nil, Tryz.ntmps111]; decide) ?_
  simp only [vsAll, loadA, loadRow, partA, partOk, fieldAddrA, boxA, boxZ, opA, dstOk, nilSliceOp, resA, argFr, retA.eq_1, Nat.reduceAdd, Nat.reduceLT, Nat.reduceEqDiff, ↓reduceIte, eq_self, wtAll, Tryz.ntmps111, Tryz.results111]
 ·show PTri Tryz.prog (fnA 109) _ H (i64 x)
  refine tri_v0 (fun _ => false) Tryz.func109 (by kernel_rfl) rfl (by simp only [List.length_append, List.length_cons, List.length_nil, Tryz.ntmps109]; decide) ?_
  simp only [vsAll, loadA, loadRow, partA, partOk, fieldAddrA, boxA, boxZ, opA, dstOk, nilSliceOp, resA, argFr, retA.eq_1, Nat.reduceAdd, Nat.reduceLT, Nat.reduceEqDiff, ↓reduceIte, eq_self, wtAll, Tryz.ntmps109, Tryz.results109]
theorem stren_tri (b : Bool) (w : Wt) (H : Hp) : PTri Tryz.prog (.func (.func (if b = true then 110 else 112)) [] []) [.agg [], .agg w.cs] H (i64 (if b = true then w.hi else w.lo)) := by
 cases b
 ·show PTri Tryz.prog (fnA 112) _ H (i64 w.lo)
  refine tri_v0 (fun _ => false) Tryz.func112 (by kernel_rfl) rfl (by simp only [List.length_append, List.length_cons, List.length_nil, Tryz.ntmps112]; decide) ?_
  simp only [vsAll, loadA, loadRow, partA, partOk, fieldAddrA, boxA, boxZ, opA, dstOk, nilSliceOp, resA, argFr, retA.eq_1, Nat.reduceAdd, Nat.reduceLT, Nat.reduceEqDiff, ↓reduceIte, eq_self, wtAll, Tryz.ntmps112, Tryz.results112]
 ·show PTri Tryz.prog (fnA 110) _ H (i64 w.hi)
  refine tri_v0 (fun _ => false) Tryz.func110 (by kernel_rfl) rfl (by simp only [List.length_append, List.length_cons, List.length_nil, Tryz.ntmps110]; decide) ?_
  simp only [vsAll, loadA, loadRow, partA, partOk, fieldAddrA, boxA, boxZ, opA, dstOk, nilSliceOp, resA, argFr, retA.eq_1, Nat.reduceAdd, Nat.reduceLT, Nat.reduceEqDiff, ↓reduceIte, eq_self, wtAll, Tryz.ntmps110, Tryz.results110]
end Go.Proofs.YtkcgocmjaggdiaaGreat
end
section
set_option linter.unusedVariables false
set_option linter.unusedSimpArgs false
set_option maxHeartbeats 4000000
set_option maxRecDepth 100000
namespace Go.Proofs.YtkcgocmjaggdiaaGreat
open Go.V Wl
/-- A method of a truth, called. -/
theorem ofm_tri (b : Bool) (x y : Int) (H : Hp) : PTri Tryz.prog (.func (.method "caulkworks/pump.of") [] []) [.iface (trT b) (.agg []), .agg [i64 x, i64 y]] H (i64 (if b = true then x else y)) := by
 cases b
 ·exact tri_inv meth126o (of_tri false x y H)
 ·exact tri_inv meth81o (of_tri true x y H)
theorem strm_tri (b : Bool) (w : Wt) (H : Hp) : PTri Tryz.prog (.func (.method "caulkworks/pump.strength") [] []) [.iface (trT b) (.agg []), .agg w.cs] H (i64 (if b = true then w.hi else w.lo)) := by
 cases b
 ·exact tri_inv meth126s (stren_tri false w H)
 ·exact tri_inv meth81s (stren_tri true w H)
theorem begin_tri (p : Pu) (l : List Int) (b : Bool) (m : Int) (id : Nat) (H : Hp) (ho : PmAt p b m id H) : PTri Tryz.prog (fnA 31) [.ref id 0 9 0 0] H (.agg (dkC p l b m 0)) := by
 have e0 : watV (moreP p m) l b 0 = if b = true then startV p true else startV p false := by cases b <;> rfl
 have em : ∀ w, menV p l 0 w = (0, 0) := fun w => by unfold menV; split <;> rfl
 refine Tri.drop ?_
 refine tri_v0 (fun _ => false) Tryz.func31 (by kernel_rfl) rfl (by simp only [List.length_append, List.length_cons, List.length_nil, Tryz.ntmps31]; decide) ?_
 skip
 simp only [vsAll, allocA, dstOk, Nat.reduceAdd, Nat.reduceLT, eq_self, wtAll, Tryz.ntmps31]
 intro i2 hh_i2; (try simp only [Hp.set_none, ite_none] at hh_i2)
 have n1 := ne_some hh_i2 ho
 skip
 refine vs_draw2 [0, 0, 0, 0, 0, 0, 0, 0, 0, 0, 0, 0, 1] [([0, 1, 2, 3, 4, 5, 6, 7, 8, 9, 10, 11], [], 12)] [] (by decide +kernel) ?_
 simp only [vsAll, loadA, loadRow, partA, partOk, fieldAddrA, nilCheckA, opA, dstOk, argFr, Nat.reduceAdd, Nat.reduceLT, Nat.reduceLeDiff, Nat.reduceEqDiff, ↓reduceIte, reduceCtorEq, eq_self, wtAll, ho, n1]
 refine qcall _ ⟨trivial, by simp only [vsAll, okAll, opsA, opA, Nat.reduceEqDiff, ↓reduceIte, eq_self], ofm_tri b (startV p true) (startV p false) _⟩ ?_
 simp only [vsAll, loadA, loadRow, partA, partOk, cellA, cellsA, fillA, okParts, partsA, partsOk, opA, newCells, okCells, storeObj, dstOk, resA, retA.eq_1, Nat.reduceAdd, Nat.reduceLT, Nat.reduceEqDiff, ↓reduceIte, eq_self, wtAll, Tryz.results31]
 rw [← e0]
 refine dropR_pure ?_ (by (repeat (first | exact HSub_rfl | refine HSub_put_eq (by simp only [vsAll, binA, binLitA, intA, aggA, aggV, boolA, nilA2, isConst, unA, loadA, loadRow, partA, partOk, fieldAddrA, indexAddrA, indexA, fieldA, extractA, lenA, nilCheckA, boxA, boxZ, cellA, cellsA, fillA, okParts, buildSliceA, buildMutA, makeSliceA, partIdx, elemsA, lensA, ifaceA, convA, mmA, pickA, okAll, stAll, opsA, partsA, partsOk, opA, allocA, boxMutA, newCells, okCells, storeObj, appendA, guardV, taA, nM, mapUpA, lookA, sliceA, sliceM, sliceS, boundsA, opO, okO, copyA, dstOk, nilA, quietOk, nilSliceOp, deferV, panA, resA, argFr, retA.eq_1, retA.eq_2, Nat.reduceAdd, Nat.reduceSub, Nat.reduceMul, Nat.reduceLT, Nat.reduceLeDiff, Nat.reduceEqDiff, Nat.reduceBEq, Int.reduceAdd, Int.reduceSub, Int.reduceMul, Int.reduceNeg, Int.reduceLE, Int.reduceLT, Int.reduceEq, Int.reduceNe, Int.reduceToNat, ↓reduceIte, reduceCtorEq, implies_true, forall_const, eq_self, ne_eq, wtAll, Tryz.ntmps31, Tryz.results31, ho, hh_i2, n1]) ?_ | refine HSub_drop2 (by simp only [eq_self, hh_i2]) ?_ | refine HSub_keep_eq (by simp only [vsAll, binA, binLitA, intA, aggA, aggV, boolA, nilA2, isConst, unA, loadA, loadRow, partA, partOk, fieldAddrA, indexAddrA, indexA, fieldA, extractA, lenA, nilCheckA, boxA, boxZ, cellA, cellsA, fillA, okParts, buildSliceA, buildMutA, makeSliceA, partIdx, elemsA, lensA, ifaceA, convA, mmA, pickA, okAll, stAll, opsA, partsA, partsOk, opA, allocA, boxMutA, newCells, okCells, storeObj, appendA, guardV, taA, nM, mapUpA, lookA, sliceA, sliceM, sliceS, boundsA, opO, okO, copyA, dstOk, nilA, quietOk, nilSliceOp, deferV, panA, resA, argFr, retA.eq_1, retA.eq_2, Nat.reduceAdd, Nat.reduceSub, Nat.reduceMul, Nat.reduceLT, Nat.reduceLeDiff, Nat.reduceEqDiff, Nat.reduceBEq, Int.reduceAdd, Int.reduceSub, Int.reduceMul, Int.reduceNeg, Int.reduceLE, Int.reduceLT, Int.reduceEq, Int.reduceNe, Int.reduceToNat, ↓reduceIte, reduceCtorEq, implies_true, forall_const, eq_self, ne_eq, wtAll, Tryz.ntmps31, Tryz.results31, ho, hh_i2, n1]) ?_)))
 simp only [dkC, em, Int.natCast_zero]
/-- What a watch pumps out. -/
theorem out_tri (p : Pu) (l : List Int) (b : Bool) (m : Int) (i : Nat) (w : Int) (id : Nat) (H : Hp) (k : Ok p) (ho : PmAt p b m id H) (hi : i ≤ 8) (hw : -1 ≤ w ∧ w < p.ws.length) :
 PTri Tryz.prog (fnA 50) [.ref id 0 9 0 0, .agg (dkC p l b m i), i64 w] H (i64 (if w < 0 then 0 else max 0 (freshV p w.toNat b - (p.wt w.toNat).ti * (wornV p l w.toNat i : Nat)))) := by
 have nW := k.nW
 refine Tri.drop ?_
 refine tri_v0 (fun _ => false) Tryz.func50 (by kernel_rfl) rfl (by simp only [List.length_append, List.length_cons, List.length_nil, Tryz.ntmps50]; decide) ?_
 skip
 simp only [vsAll, binA, binLitA, intA, boxA, boxZ, opA, dstOk, nilSliceOp, argFr, Nat.reduceAdd, Nat.reduceLT, Nat.reduceEqDiff, ↓reduceIte, eq_self, wtAll, Tryz.ntmps50]
 refine condV (fun hc => ?_) (fun hc => ?_)
 ·rw [if_pos (of_decide_eq_true hc)]
  simp only [vsAll, opA, dstOk, nilSliceOp, resA, retA.eq_1, Nat.reduceLT, ↓reduceIte, eq_self, Tryz.results50]
  exact dropR_pure rfl HSub_rfl
 ·have hc := of_decide_eq_false hc
  rw [if_neg hc]
  obtain ⟨v, rfl⟩ : ∃ v : Nat, w = (v : Int) := ⟨w.toNat, by ((try clear ho); omega)⟩
  have hv : v < p.ws.length := by ((try clear ho); omega)
  have hk := k.m.wt hv
  rw [Int.toNat_natCast]
  have hle := (doneW_le (p.wt v).re l v i).1
  have hp := wt_prod (n := wornV p l v i) hk.2.1 (by unfold wornV; ((try clear ho); omega))
  have ewt : p.ws.getD v wt0 = p.wt v := rfl
  have hv3 : v = 0 ∨ v = 1 ∨ v = 2 := by ((try clear ho); omega)
  have em : (menV p l i v).1 = wornV p l v i := by unfold menV; rw [if_pos hv]; rfl
  simp only [vsAll]
  refine vs_draw2 [0, 0, 0, 0, 0, 0, 0, 0, 0, 0, 0, 0, 0, 0, 0, 0, 0, 0, 0, 0, 0, 0, 0, 0, 0, 0, 0, 0, 0, 0, 0, 0, 0] [] [0, 1, 2, 3, 4, 5, 6, 7, 8, 9, 10, 11, 12, 13, 14, 15, 16, 17, 18, 19, 20, 21, 22, 23, 24, 25, 26, 27, 28, 29, 30, 31, 32] (by decide +kernel) ?_
  simp only [vsAll, loadA, loadRow, partA, partOk, fieldAddrA, indexAddrA, nilCheckA, opA, dstOk, argFr, Nat.reduceLT, Nat.reduceEqDiff, ↓reduceIte, reduceCtorEq, eq_self, wtAll, ho, wsF_at, ewt]
  refine ⟨⟨by ((try clear ho); omega), by ((try clear ho); omega)⟩, hv, ?_⟩
  refine qcall _ ⟨trivial, by simp only [vsAll, okAll, opsA, opA, Nat.reduceEqDiff, ↓reduceIte, eq_self], strm_tri b (p.wt v) _⟩ ?_
  have efr : (if b = true then (p.wt v).hi else (p.wt v).lo) = freshV p v b := rfl
  have hfr : 0 ≤ freshV p v b ∧ freshV p v b ≤ 40 := by unfold freshV; split <;> ((try clear ho); omega)
  rw [efr]
  generalize freshV p v b = F at hfr ⊢
  have ecell : (List.drop (1 + v * 2) (dkC p l b m i)).getD 0 AV.any = i64 (wornV p l v i : Nat) := by
   rw [← em]
   rcases hv3 with rfl | rfl | rfl <;> rfl
  simp only [vsAll, binA, binLitA, intA, loadA, loadRow, partA, partOk, fieldAddrA, indexAddrA, nilCheckA, cellA, cellsA, okParts, buildSliceA, partIdx, elemsA, lensA, partsA, partsOk, opA, dstOk, argFr, Nat.reduceMul, Nat.reduceLT, Nat.reduceLeDiff, Nat.reduceEqDiff, ↓reduceIte, reduceCtorEq, eq_self, wtAll, ho, wsF_at, ewt, ecell]
  refine ⟨⟨by ((try clear ho); omega), by ((try clear ho); omega)⟩, hv, ⟨by ((try clear ho); omega), by ((try clear ho); omega)⟩, by ((try clear ho); omega), by simp only [InR_i64]; ((try clear ho); omega), ?_⟩
  refine qcall _ ⟨trivial, by simp only [vsAll, okAll, opsA, opA, Nat.reduceEqDiff, ↓reduceIte, eq_self], left_tri F ((p.wt v).ti * (wornV p l v i : Nat)) _ (by ((try clear ho); omega)) (by ((try clear ho); omega))⟩ ?_
  simp only [vsAll, opA, dstOk, resA, retA.eq_1, Nat.reduceLT, ↓reduceIte, eq_self, Tryz.results50]
  exact dropR_pure rfl HSub_rfl
theorem floats_tri (p : Pu) (l : List Int) (b : Bool) (m : Int) (i : Nat) (id : Nat) (H : Hp) (ho : PmAt p b m id H) :
 PTri Tryz.prog (fnA 34) [.ref id 0 9 0 0, .agg (dkC p l b m i)] H (boo (decide (watV (moreP p m) l b i ≤ p.ca))) := by
 refine Tri.drop ?_
 refine tri_v0 (fun _ => false) Tryz.func34 (by kernel_rfl) rfl (by simp only [List.length_append, List.length_cons, List.length_nil, Tryz.ntmps34]; decide) ?_
 skip
 simp only [vsAll, boxA, boxZ, opA, dstOk, nilSliceOp, argFr, Nat.reduceAdd, Nat.reduceLT, eq_self, wtAll, Tryz.ntmps34]
 refine vs_draw2 [0, 0, 0, 0, 0, 0, 0, 0, 0] [] [0, 1, 2, 3, 4, 5, 6, 7, 8] (by decide +kernel) ?_
 simp only [vsAll, binA, binLitA, intA, loadA, loadRow, partA, partOk, fieldAddrA, nilCheckA, opA, dstOk, resA, argFr, retA.eq_1, Nat.reduceLT, Nat.reduceEqDiff, ↓reduceIte, reduceCtorEq, eq_self, wtAll, Tryz.results34, ho]
 exact dropR_pure rfl HSub_rfl
/-- Men, of whom the first ones have an hour more. -/
def mq (p : Pu) (l : List Int) (i q w : Nat) : Nat × Nat := if w < q then menV p l (i + 1) w else menV p l i w
abbrev dqC (p : Pu) (l : List Int) (b : Bool) (m : Int) (i q : Nat) : List AV := [i64 i, i64 (mq p l i q 0).1, i64 (mq p l i q 0).2, i64 (mq p l i q 1).1, i64 (mq p l i q 1).2, i64 (mq p l i q 2).1, i64 (mq p l i q 2).2, i64 (watV (moreP p m) l b (i + 1))]
theorem mq_zero (p : Pu) (l : List Int) (i w : Nat) : mq p l i 0 w = menV p l i w := by unfold mq; rw [if_neg (Nat.not_lt_zero w)]
theorem mq_all (p : Pu) (l : List Int) (i w : Nat) : mq p l i p.ws.length w = menV p l (i + 1) w := by
 unfold mq
 by_cases h : w < p.ws.length
 ·rw [if_pos h]
 ·rw [if_neg h, menV, menV, if_neg h, if_neg h]
theorem next_tri (p : Pu) (l : List Int) (b : Bool) (m : Int) (i : Nat) (w : Int) (id : Nat) (H : Hp) (k : Ok p) (hA : 0 < (allA p.ho).length) (ho : PmAt p b m id H) (hi : i < p.fl.length) (hw : -1 ≤ w ∧ w < p.ws.length) (hl : l.getD i (-1) = w) (hm : 0 ≤ m ∧ m ≤ 40) :
 PTri Tryz.prog (fnA 33) [.ref id 0 9 0 0, .agg (dkC p l b m i), i64 w] H (.agg (dkC p l b m (i + 1))) := by
 have nW := k.nW
 have nF := k.nF
 have hfk := k.f i hi
 unfold okF at hfk
 have hfr := more_flow k hm (q := i + 1) (by omega) i b (by omega)
 have hwr := wat_rng (more_flow k hm (q := i + 1) (by omega)) l b i (by omega)
 have eflow : flowV (moreP p m) i b = (if b = true then (p.fl.getD i (0, 0)).1 else (p.fl.getD i (0, 0)).2) + m := by
  unfold flowV
  rw [more_at p m hi]
  split <;> rfl
 have estr : strV (moreP p m) l i b = if w < 0 then 0 else max 0 (freshV p w.toNat b - (p.wt w.toNat).ti * (wornV p l w.toNat i : Nat)) := by
  show strV p l i b = _
  unfold strV
  rw [hl]
 have hsr := str_nn p l i b
 have hsr : 0 ≤ strV (moreP p m) l i b ∧ strV (moreP p m) l i b ≤ 100 := by
  rw [estr]
  split
  ·omega
  ·rename_i hc
   have hk := k.m.wt (w := w.toNat) (by omega)
   have hle := (doneW_le (p.wt w.toNat).re l w.toNat i).1
   have hp := wt_prod (n := wornV p l w.toNat i) hk.2.1 (by unfold wornV; omega)
   have : freshV p w.toNat b ≤ 40 := by unfold freshV; split <;> omega
   omega
 have ewat : watV (moreP p m) l b (i + 1) = max 0 (watV (moreP p m) l b i + flowV (moreP p m) i b - strV (moreP p m) l i b) := rfl
 refine Tri.drop ?_
 refine tri_v0 (mset [4]) Tryz.func33 (by kernel_rfl) rfl (by simp only [List.length_append, List.length_cons, List.length_nil, Tryz.ntmps33]; decide) ?_
 skip
 simp only [vsAll, opA, allocA, boxMutA, dstOk, argFr, Nat.reduceAdd, Nat.reduceLT, Nat.reduceBEq, eq_self, wtAll, Tryz.ntmps33]
 intro i4 hh_i4; (try simp only [Hp.set_none, ite_none] at hh_i4); intro i6 hh_i6; (try simp only [ite_none] at hh_i6)
 have n1 := ne_some hh_i4 ho
 have n2 := ne_some hh_i6.2 ho
 have ho2 : ∀ X Y, PmAt p b m id ((H.set i4 X).set i6 Y) := fun X Y => by
  show ((H.set i4 X).set i6 Y) id = _
  rw [Hp.set_ne _ _ (by simp_all), Hp.set_ne _ _ (by simp_all)]; exact ho
 skip
 refine vs_draw2 [0, 0, 0, 0, 0, 0, 0, 0, 0, 0, 0, 0, 0, 0, 0, 0, 0, 0, 0, 0, 0, 0, 0, 0, 0, 0, 0, 0, 0, 0, 0, 1] [([0, 1, 2, 3, 4, 5, 6, 7, 8, 9, 10, 11, 12, 13, 14, 15, 16, 17, 18, 19, 20, 21, 22, 23, 24, 25, 26, 27, 28, 29, 30], [], 31)] [] (by decide +kernel) ?_
 simp only [vsAll, loadA, loadRow, partA, partOk, fieldAddrA, indexAddrA, nilCheckA, opA, dstOk, argFr, Nat.reduceLT, Nat.reduceEqDiff, ↓reduceIte, reduceCtorEq, eq_self, wtAll, ho, hh_i6, n1, n2, spanF_at]
 refine ⟨⟨by ((try clear ho); (try clear hh_i4); (try clear hh_i6); (try clear n1); (try clear n2); omega), by ((try clear ho); (try clear hh_i4); (try clear hh_i6); (try clear n1); (try clear n2); omega)⟩, hi, ?_⟩
 refine qcall _ ⟨trivial, by simp only [vsAll, okAll, opsA, opA, Nat.reduceEqDiff, ↓reduceIte, eq_self], ofm_tri b (p.fl.getD i (0, 0)).1 (p.fl.getD i (0, 0)).2 _⟩ ?_
 generalize hfl : (if b = true then (p.fl.getD i (0, 0)).1 else (p.fl.getD i (0, 0)).2) = fl at eflow ⊢
 have hflr : 0 ≤ fl ∧ fl ≤ 40 := by rw [← hfl]; split <;> ((try clear ho); (try clear hh_i4); (try clear hh_i6); (try clear n1); (try clear n2); omega)
 simp only [vsAll, binA, binLitA, intA, loadA, loadRow, partA, partOk, fieldAddrA, nilCheckA, opA, dstOk, argFr, Nat.reduceLT, Nat.reduceEqDiff, ↓reduceIte, reduceCtorEq, eq_self, wtAll, ho, hh_i6, n1, n2]
 refine ⟨by simp only [InR_i64]; ((try clear ho); (try clear hh_i4); (try clear hh_i6); (try clear n1); (try clear n2); omega), by simp only [InR_i64]; ((try clear ho); (try clear hh_i4); (try clear hh_i6); (try clear n1); (try clear n2); omega), ?_⟩
 refine qcall _ ⟨trivial, by simp only [vsAll, okAll, opsA, opA, Nat.reduceEqDiff, ↓reduceIte, eq_self], out_tri p l b m i w id _ k (ho2 _ _) (by ((try clear ho); (try clear hh_i4); (try clear hh_i6); (try clear n1); (try clear n2); omega)) hw⟩ ?_
 rw [← estr]
 simp only [vsAll, cellA, cellsA, okParts, buildSliceA, partIdx, elemsA, lensA, partsA, partsOk, opA, dstOk, Nat.reduceMul, Nat.reduceLT, Nat.reduceLeDiff, ↓reduceIte, eq_self, wtAll]
 refine qcall _ ⟨trivial, by simp only [vsAll, okAll, opsA, opA, Nat.reduceEqDiff, ↓reduceIte, eq_self], left_tri (watV (moreP p m) l b i + fl + m) (strV (moreP p m) l i b) _ (by ((try clear ho); (try clear hh_i4); (try clear hh_i6); (try clear n1); (try clear n2); omega)) (by ((try clear ho); (try clear hh_i4); (try clear hh_i6); (try clear n1); (try clear n2); omega))⟩ ?_
 have ew : max 0 (watV (moreP p m) l b i + fl + m - strV (moreP p m) l i b) = watV (moreP p m) l b (i + 1) := by rw [ewat, eflow, Int.add_assoc]
 rw [ew]
 simp only [vsAll, loadA, loadRow, partA, partOk, fieldAddrA, lenA, nilCheckA, cellA, cellsA, opA, newCells, okCells, storeObj, dstOk, argFr, Nat.reduceAdd, Nat.reduceLT, Nat.reduceEqDiff, ↓reduceIte, reduceCtorEq, eq_self, wtAll, ho, hh_i6, n1, n2]
 refine vs_loop (σ := Nat) (fun q => q ≤ p.ws.length) (fun q => [(2, i64 w), (4, .ref i4 0 8 0 0), (6, .ref i6 0 8 0 0), (44, wsAV p.ws), (45, i64 p.ws.length), (46, i64 q)])
  (fun q => (H.set i4 (.box 8 1 fun _ => dqC p l b m i q)).set i6 (.box 8 1 fun _ => [i64 0, i64 0, i64 0, i64 0, i64 0, i64 0, i64 0, i64 0])) (fun q => p.ws.length - q) 0 (Nat.zero_le _) ?_ ?_ fun q hq => ?_
 ·simp only [vsAll, argFr, Nat.reduceEqDiff, ↓reduceIte, eq_self, Int.natCast_zero]
 ·simp only [dqC, mq_zero]
  (repeat (first | exact HSub_rfl | refine HSub_put_eq (by simp only [vsAll, ↓reduceIte, eq_self, hh_i6]) ?_ | refine HSub_drop2 (by simp only [eq_self, hh_i4, hh_i6]) ?_ | refine HSub_keep_eq (by simp only [vsAll, binA, binLitA, intA, aggA, aggV, boolA, nilA2, isConst, unA, loadA, loadRow, partA, partOk, fieldAddrA, indexAddrA, indexA, fieldA, extractA, lenA, nilCheckA, boxA, boxZ, cellA, cellsA, fillA, okParts, buildSliceA, buildMutA, makeSliceA, partIdx, elemsA, lensA, ifaceA, convA, mmA, pickA, okAll, stAll, opsA, partsA, partsOk, opA, allocA, boxMutA, newCells, okCells, storeObj, appendA, guardV, taA, nM, mapUpA, lookA, sliceA, sliceM, sliceS, boundsA, opO, okO, copyA, dstOk, nilA, quietOk, nilSliceOp, deferV, panA, resA, argFr, retA.eq_1, retA.eq_2, Nat.reduceAdd, Nat.reduceSub, Nat.reduceMul, Nat.reduceLT, Nat.reduceLeDiff, Nat.reduceEqDiff, Nat.reduceBEq, Int.reduceAdd, Int.reduceSub, Int.reduceMul, Int.reduceNeg, Int.reduceLE, Int.reduceLT, Int.reduceEq, Int.reduceNe, Int.reduceToNat, ↓reduceIte, reduceCtorEq, implies_true, forall_const, eq_self, ne_eq, wtAll, Tryz.ntmps33, Tryz.results33, ho, hh_i4, hh_i6, n1, n2]) ?_))
 ·simp only [vsAll, binA, binLitA, intA, opA, dstOk, Nat.reduceLT, Nat.reduceEqDiff, ↓reduceIte, eq_self]
  refine condD (fun hd => ?_) (fun hd => ?_)
  ·have hqs : q < p.ws.length := by ((try clear ho); (try clear hh_i4); (try clear hh_i6); (try clear n1); (try clear n2); omega)
   have hk := k.m.wt hqs
   have ewt : p.ws.getD q wt0 = p.wt q := rfl
   have hq3 : q = 0 ∨ q = 1 ∨ q = 2 := by ((try clear ho); (try clear hh_i4); (try clear hh_i6); (try clear n1); (try clear n2); omega)
   have e1 : menV p l i q = capM (doneW (p.wt q).re l q i) := if_pos hqs
   have e2 : menV p l (i + 1) q = capM (stepW (p.wt q).re (decide ((q : Int) = w)) (doneW (p.wt q).re l q i)) := by
    unfold menV
    rw [if_pos hqs]
    have : doneW (p.wt q).re l q (i + 1) = stepW (p.wt q).re (decide (l.getD i (-1) = (q : Int))) (doneW (p.wt q).re l q i) := rfl
    rw [this, hl]
    congr 2
    exact decide_eq_decide.2 ⟨fun h => h.symm, fun h => h.symm⟩
   have hle := (doneW_le (p.wt q).re l q i).1
   have hcell : List.take 2 (List.drop (1 + q * 2) (dqC p l b m i q)) = [i64 (menV p l i q).1, i64 (menV p l i q).2] := by
    rcases hq3 with rfl | rfl | rfl <;> rfl
   simp only [vsAll, loadA, loadRow, partA, partOk, indexAddrA, cellA, opA, allocA, newCells, okCells, storeObj, dstOk, nilSliceOp, Nat.reduceAdd, Nat.reduceLT, Nat.reduceEqDiff, Nat.reduceBEq, ↓reduceIte, eq_self, wtAll, wsF_at, ewt]
   refine ⟨⟨by ((try clear ho); (try clear hh_i4); (try clear hh_i6); (try clear n1); (try clear n2); omega), by ((try clear ho); (try clear hh_i4); (try clear hh_i6); (try clear n1); (try clear n2); omega)⟩, hqs, ?_⟩
   intro i8 hh_i8; (try simp only [ite_none] at hh_i8)
   refine vs_draw2 [0, 0, 0, 0, 0, 0, 0, 0, 0, 0, 0, 0, 0, 1] [([0, 1, 2, 3, 4, 5, 6, 7, 8, 9, 10, 11, 12], [], 13)] [] (by decide +kernel) ?_
   simp only [vsAll, binA, binLitA, intA, loadA, loadRow, partA, partOk, fieldAddrA, indexAddrA, opA, dstOk, Nat.reduceLT, Nat.reduceLeDiff, Nat.reduceEqDiff, ↓reduceIte, eq_self, wtAll, hh_i6, hh_i8]
   rw [hcell, e1]
   refine ⟨⟨by ((try clear ho); (try clear hh_i4); (try clear hh_i6); (try clear n1); (try clear n2); (try clear hh_i8); omega), by ((try clear ho); (try clear hh_i4); (try clear hh_i6); (try clear n1); (try clear n2); (try clear hh_i8); omega)⟩, by ((try clear ho); (try clear hh_i4); (try clear hh_i6); (try clear n1); (try clear n2); (try clear hh_i8); omega), ?_⟩
   refine qcall _ ⟨trivial, by simp only [vsAll, okAll, opsA, opA, Nat.reduceEqDiff, ↓reduceIte, eq_self], pumped_tri (doneW (p.wt q).re l q i) (decide ((q : Int) = w)) (p.wt q).re _ (by ((try clear ho); (try clear hh_i4); (try clear hh_i6); (try clear n1); (try clear n2); (try clear hh_i8); omega)) (by ((try clear ho); (try clear hh_i4); (try clear hh_i6); (try clear n1); (try clear n2); (try clear hh_i8); omega))⟩ ?_
   rw [← e2]
   simp only [vsAll, binA, binLitA, intA, fieldAddrA, indexAddrA, cellA, opA, newCells, okCells, storeObj, dstOk, Nat.reduceAdd, Nat.reduceLT, Nat.reduceLeDiff, Nat.reduceEqDiff, ↓reduceIte, eq_self, wtAll, hh_i6, hh_i8]
   have hup : List.take (1 + q * 2) (dqC p l b m i q) ++ [i64 (menV p l (i + 1) q).1, i64 (menV p l (i + 1) q).2] ++ List.drop (1 + q * 2) [i64 (mq p l i q 0).2, i64 (mq p l i q 1).1, i64 (mq p l i q 1).2, i64 (mq p l i q 2).1, i64 (mq p l i q 2).2, i64 (watV (moreP p m) l b (i + 1))] = dqC p l b m i (q + 1) := by
    rcases hq3 with rfl | rfl | rfl <;> rfl
   rw [hup]
   refine ⟨⟨by ((try clear ho); (try clear hh_i4); (try clear hh_i6); (try clear n1); (try clear n2); (try clear hh_i8); omega), by ((try clear ho); (try clear hh_i4); (try clear hh_i6); (try clear n1); (try clear n2); (try clear hh_i8); omega)⟩, by ((try clear ho); (try clear hh_i4); (try clear hh_i6); (try clear n1); (try clear n2); (try clear hh_i8); omega), by simp only [InR_i64]; ((try clear ho); (try clear hh_i4); (try clear hh_i6); (try clear n1); (try clear n2); (try clear hh_i8); omega), loop_next (q + 1) (by ((try clear ho); (try clear hh_i4); (try clear hh_i6); (try clear n1); (try clear n2); (try clear hh_i8); omega)) (by ((try clear ho); (try clear hh_i4); (try clear hh_i6); (try clear n1); (try clear n2); (try clear hh_i8); omega)) ?_ ?_⟩
   ·simp only [vsAll, Nat.reduceEqDiff, ↓reduceIte, eq_self, Int.natCast_add, Int.natCast_one]
   ·(repeat (first | exact HSub_rfl | refine HSub_put_eq (by simp only [vsAll, ↓reduceIte, eq_self, hh_i6, hh_i8]) ?_ | refine HSub_drop2 (by simp only [eq_self, hh_i4, hh_i6, hh_i8]) ?_ | refine HSub_keep_eq (by simp only [vsAll, binA, binLitA, intA, aggA, aggV, boolA, nilA2, isConst, unA, loadA, loadRow, partA, partOk, fieldAddrA, indexAddrA, indexA, fieldA, extractA, lenA, nilCheckA, boxA, boxZ, cellA, cellsA, fillA, okParts, buildSliceA, buildMutA, makeSliceA, partIdx, elemsA, lensA, ifaceA, convA, mmA, pickA, okAll, stAll, opsA, partsA, partsOk, opA, allocA, boxMutA, newCells, okCells, storeObj, appendA, guardV, taA, nM, mapUpA, lookA, sliceA, sliceM, sliceS, boundsA, opO, okO, copyA, dstOk, nilA, quietOk, nilSliceOp, deferV, panA, resA, argFr, retA.eq_1, retA.eq_2, Nat.reduceAdd, Nat.reduceSub, Nat.reduceMul, Nat.reduceLT, Nat.reduceLeDiff, Nat.reduceEqDiff, Nat.reduceBEq, Int.reduceAdd, Int.reduceSub, Int.reduceMul, Int.reduceNeg, Int.reduceLE, Int.reduceLT, Int.reduceEq, Int.reduceNe, Int.reduceToNat, ↓reduceIte, reduceCtorEq, implies_true, forall_const, eq_self, ne_eq, wtAll, Tryz.ntmps33, Tryz.results33, ho, hh_i4, hh_i6, n1, n2, hh_i8]) ?_))
  ·have eq : q = p.ws.length := by ((try clear ho); (try clear hh_i4); (try clear hh_i6); (try clear n1); (try clear n2); omega)
   subst eq
   simp only [vsAll, binA, binLitA, intA, loadA, loadRow, partA, partOk, fieldAddrA, cellA, cellsA, opA, newCells, okCells, storeObj, dstOk, resA, retA.eq_1, Nat.reduceAdd, Nat.reduceLT, Nat.reduceLeDiff, Nat.reduceEqDiff, ↓reduceIte, eq_self, wtAll, Tryz.results33, hh_i6]
   refine ⟨by simp only [InR_i64]; ((try clear ho); (try clear hh_i4); (try clear hh_i6); (try clear n1); (try clear n2); omega), dropR_pure ?_ (by (repeat (first | exact HSub_rfl | refine HSub_put_eq (by simp only [vsAll, binA, binLitA, intA, aggA, aggV, boolA, nilA2, isConst, unA, loadA, loadRow, partA, partOk, fieldAddrA, indexAddrA, indexA, fieldA, extractA, lenA, nilCheckA, boxA, boxZ, cellA, cellsA, fillA, okParts, buildSliceA, buildMutA, makeSliceA, partIdx, elemsA, lensA, ifaceA, convA, mmA, pickA, okAll, stAll, opsA, partsA, partsOk, opA, allocA, boxMutA, newCells, okCells, storeObj, appendA, guardV, taA, nM, mapUpA, lookA, sliceA, sliceM, sliceS, boundsA, opO, okO, copyA, dstOk, nilA, quietOk, nilSliceOp, deferV, panA, resA, argFr, retA.eq_1, retA.eq_2, Nat.reduceAdd, Nat.reduceSub, Nat.reduceMul, Nat.reduceLT, Nat.reduceLeDiff, Nat.reduceEqDiff, Nat.reduceBEq, Int.reduceAdd, Int.reduceSub, Int.reduceMul, Int.reduceNeg, Int.reduceLE, Int.reduceLT, Int.reduceEq, Int.reduceNe, Int.reduceToNat, ↓reduceIte, reduceCtorEq, implies_true, forall_const, eq_self, ne_eq, wtAll, Tryz.ntmps33, Tryz.results33, ho, hh_i4, hh_i6, n1, n2]) ?_ | refine HSub_drop2 (by simp only [eq_self, hh_i4, hh_i6]) ?_ | refine HSub_keep_eq (by simp only [vsAll, binA, binLitA, intA, aggA, aggV, boolA, nilA2, isConst, unA, loadA, loadRow, partA, partOk, fieldAddrA, indexAddrA, indexA, fieldA, extractA, lenA, nilCheckA, boxA, boxZ, cellA, cellsA, fillA, okParts, buildSliceA, buildMutA, makeSliceA, partIdx, elemsA, lensA, ifaceA, convA, mmA, pickA, okAll, stAll, opsA, partsA, partsOk, opA, allocA, boxMutA, newCells, okCells, storeObj, appendA, guardV, taA, nM, mapUpA, lookA, sliceA, sliceM, sliceS, boundsA, opO, okO, copyA, dstOk, nilA, quietOk, nilSliceOp, deferV, panA, resA, argFr, retA.eq_1, retA.eq_2, Nat.reduceAdd, Nat.reduceSub, Nat.reduceMul, Nat.reduceLT, Nat.reduceLeDiff, Nat.reduceEqDiff, Nat.reduceBEq, Int.reduceAdd, Int.reduceSub, Int.reduceMul, Int.reduceNeg, Int.reduceLE, Int.reduceLT, Int.reduceEq, Int.reduceNe, Int.reduceToNat, ↓reduceIte, reduceCtorEq, implies_true, forall_const, eq_self, ne_eq, wtAll, Tryz.ntmps33, Tryz.results33, ho, hh_i4, hh_i6, n1, n2]) ?_)))⟩
   simp only [mq_all, dkC, Int.natCast_add, Int.natCast_one]
end Go.Proofs.YtkcgocmjaggdiaaGreat
end
section
set_option linter.unusedVariables false
set_option linter.unusedSimpArgs false
namespace Go.V
set_option linter.unusedSectionVars false
variable [Inhabited GivT]
/-- Yields, one after another, each of which keeps one object more. -/
def IterB (P : Program) (y : AV) (Pre : Hp → Prop) : List (List AV) → Hp → (Hp → Prop) → Prop
 | [], H, K => K H
 | x :: l, H, K => Pre H ∧ ∀ j o, H j = none → Tri P y x (H.set j o) fun r H' => (r = .ret (.lit (.bool true)) ∧ ∃ H1, H1 j = none ∧ H' = H1.set j o ∧ IterB P y Pre l H1 K) ∨ (r = .ret (.lit (.bool false)) ∧ K H')
theorem iter_seqB {P : Program} {y : AV} {Pre : Hp → Prop} {L : List (List AV)} {σ : Type} {inv : Nat → σ → Prop} {G : Nat → σ → Hp} {K : Hp → Prop} {B : Hp}
 (hG : ∀ i x, inv i x → ∀ j, (G i x) j = none ↔ B j = none)
 (h : ∀ i v x, L[i]? = some v → inv i x → Pre (G i x) ∧ ∀ j o, B j = none → Tri P y v ((G i x).set j o) fun r H' => (r = .ret (.lit (.bool true)) ∧ ∃ x', inv (i + 1) x' ∧ H' = (G (i + 1) x').set j o) ∨ (r = .ret (.lit (.bool false)) ∧ K H'))
 (hK : ∀ x, inv L.length x → K (G L.length x)) (x0 : σ) (h0 : inv 0 x0) : IterB P y Pre L (G 0 x0) K := by
 have key : ∀ (l : List (List AV)) (j : Nat) (x : σ), L.drop j = l → j ≤ L.length → inv j x → IterB P y Pre l (G j x) K := by
  intro l
  induction l with
  | nil =>
    intro j x hl hj hi
    have : j = L.length := by
     have := congrArg List.length hl
     simp at this; omega
    subst this; exact hK x hi
  | cons v l ih =>
    intro j x hl hj hi
    have hx : L[j]? = some v := by
     have := congrArg (fun q => q[0]?) hl
     simpa using this
    have hj' : j < L.length := (List.getElem?_eq_some_iff.1 hx).1
    obtain ⟨h1, h2⟩ := h j v x hx hi
    refine ⟨h1, fun q o hq => (h2 q o ((hG j x hi q).1 hq)).mono ?_⟩
    rintro r H' (⟨rfl, x', hi', rfl⟩ | ⟨rfl, hk⟩)
    ·refine .inl ⟨rfl, _, (hG (j + 1) x' hi' q).2 ((hG j x hi q).1 hq), rfl, ih (j + 1) x' ?_ hj' hi'⟩
     rw [← List.drop_drop, hl]; rfl
    ·exact .inr ⟨rfl, hk⟩
 exact key L 0 x0 rfl (Nat.zero_le _) h0
theorem Hp.set_comm (H : Hp) {i j : Nat} (o o' : Obj) (h : i ≠ j) : (H.set i o).set j o' = (H.set j o').set i o := by
 funext k
 simp only [Hp.set]
 by_cases e1 : k = j
 ·subst e1; rw [if_pos rfl, if_neg (fun e => h e.symm), if_pos rfl]
 ·rw [if_neg e1]
  by_cases e2 : k = i
  ·subst e2; rw [if_pos rfl, if_pos rfl]
  ·rw [if_neg e2, if_neg e2, if_neg e1]
section
variable {P : Program} {m : Option Tmp → Bool} {n : Nat} {k : List It} {s : Fr} {ds : List AD} {H : Hp} {Q : Post}
theorem vs_rangeB {g : Operand} {ps : Array Tmp} {assign body : Code} {f : FuncId} {fn : Func} {c : Code} {caps : List AV} {σ : Type} (L : List (List AV)) (inv : Nat → σ → Prop) (hp : Nat → σ → Hp) (x0 : σ) (Pre : Hp → Prop)
 (hf : P.funcs[f]? = some fn) (hname : (fn.name == "runtime.NumGoroutine") = false) (hb : fn.body = some c)
 (hg : (opA s g).ok) (hgv : (opA s g).st = .func (.func f) [] caps) (hps : ∀ t ∈ ps.toList, t < n) (hpl : ∀ x ∈ L, x.length = ps.size)
 (hit : ∀ yf H K, Pre H → IterB P (.func yf [] []) Pre L H K → Tri P (.func (.func f) [] caps) [.func yf [] []] H fun r H' => (∃ v, r = .ret v) ∧ K H')
 (h0 : inv 0 x0) (hH : Go.V.HSub H (hp 0 x0)) (hfr : ∀ i x, inv i x → ∀ id, hp i x id = none ↔ hp 0 x0 id = none)
 (hpre : ∀ i x, inv i x → ∀ lid did o1 o2, hp 0 x0 lid = none → hp 0 x0 did = none → Pre (((hp i x).set did o1).set lid o2))
 (round : ∀ j o i v x, L[i]? = some v → inv i x → hp 0 x0 j = none → ∀ lid did l (lo : LoopState → Option Code → Obj), hp 0 x0 lid = none → hp 0 x0 did = none → lid ≠ did → ¬ j = lid → ¬ j = did →
  VS (some l) P m n [.code assign] (putAll s ps.toList v) [] ((((hp i x).set j o).set did (.raw (.deferred (some [])))).set lid (lo .ready none)) (AsgS P m n l body k Q (fun nx => ∃ x', inv (i + 1) x' ∧ nx = (hp (i + 1) x').set j o) s ds lid did lo))
 (fin : ∀ x, inv L.length x → ∀ lid did (lo : LoopState → Option Code → Obj), hp 0 x0 lid = none → hp 0 x0 did = none → lid ≠ did →
  VS none P m n k s (.mark did :: ds) (((hp L.length x).set did (.raw (.deferred (some [])))).set lid (lo .exhausted none)) Q) :
 VS none P m n (.code (.rangeFunc g ps assign body) :: k) s ds H Q := by
 show WPS none P n (.rangeFunc g ps assign body) s ds H (TK none P m n k Q)
 refine wps_ent (Ent.weak (s' := s) (fun t => AV.Le.refl _) hH ?_)
 refine wps_range hg hgv hf hname hb fun lid did l h1 h2 h3 => ?_
 let lo : LoopState → Option Code → Obj := fun st pd => .loop l n s ps assign body st pd did
 let G : Nat → σ → Hp := fun i x => ((hp i x).set did (.raw (.deferred (some [])))).set lid (lo .ready none)
 let K : Hp → Prop := fun H' => ∃ st pend, H' lid = some (lo st pend) ∧ st ≠ .busy ∧ jumpQ pend fun x => VX none P m n k x s (.mark did :: ds) (H'.set lid (lo .exhausted pend)) Q
 refine ⟨_, hit (.yield l) _ K (hpre 0 x0 h0 lid did _ _ h1 h2) ?_, ?_⟩
 ·refine iter_seqB (G := G) (inv := inv) (B := G 0 x0) (fun i x hi q => ?_) (fun i v x hv hi => ⟨hpre i x hi lid did _ _ h1 h2, fun j o hj => ?_⟩) (fun x hi => ⟨.ready, none, Hp.set_same _ _ _, by simp, ?_⟩) x0 h0
  ·simp only [G, Hp.set]
   by_cases e1 : q = lid
   ·simp [e1]
   ·rw [if_neg e1, if_neg e1]
    by_cases e2 : q = did
    ·simp [e2]
    ·rw [if_neg e2, if_neg e2]; exact hfr i x hi q
  ·have n1 : ¬ j = lid := fun e => by
    rw [e] at hj
    simp only [G, Hp.set_same] at hj
    cases hj
   have n2 : ¬ j = did := fun e => by
    rw [e] at hj
    have : G 0 x0 did = some (.raw (.deferred (some []))) := by
     simp only [G]
     rw [Hp.set_ne _ _ (fun e => h3 e.symm), Hp.set_same]
    rw [this] at hj
    cases hj
   have hj0 : hp 0 x0 j = none := by
    simp only [G] at hj
    rw [Hp.set_ne _ _ n1, Hp.set_ne _ _ n2] at hj
    exact hj
   have ec : ∀ (A : Hp) X Y, ((A.set did X).set lid Y).set j o = ((A.set j o).set did X).set lid Y := fun A X Y => by
    rw [Hp.set_comm _ _ _ (fun e => n1 e.symm), Hp.set_comm A _ _ (fun e => n2 e.symm)]
   have eG : (G i x).set j o = (((hp i x).set j o).set did (.raw (.deferred (some [])))).set lid (lo .ready none) := ec _ _ _
   rw [eG]
   refine Tri.drop ?_
   refine tri_yield (lid := lid) (n := n) (s := s) (ps := ps) (assign := assign) (body := body) (did := did) (Hp.set_same _ _ _) (hpl v (List.mem_of_getElem? hv)) hps ?_
   refine (vcC_sound assign (round j o i v x hv hi hj0 lid did l lo h1 h2 h3 n1 n2)).mono ?_
   intro x1 s1 ds1 H1 hq
   cases x1 with
   | normal =>
     obtain ⟨q1, q2⟩ := hq
     refine ⟨rfl, q1, (vcC_sound body q2).mono ?_⟩
     intro x2 s2 ds2 H2 hq2
     cases x2 with
     | normal =>
       obtain ⟨⟨st, pd, ho⟩, nx, ⟨x', hi', rfl⟩, hsub⟩ := hq2
       exact ⟨st, pd, ho, _, HSub.reset hsub, .inl ⟨rfl, x', hi', (ec _ _ _).symm⟩⟩
     | ret => obtain ⟨⟨st, pd, ho⟩, hv⟩ := hq2; exact ⟨st, pd, ho, _, HSub.refl _, .inr ⟨rfl, .done, some .ret, Hp.set_same _ _ _, by simp, by rw [Hp.set_set]; exact hv⟩⟩
     | exit j => obtain ⟨⟨st, pd, ho⟩, hv⟩ := hq2; exact ⟨st, pd, ho, _, HSub.refl _, .inr ⟨rfl, .done, some (.exit j), Hp.set_same _ _ _, by simp, by rw [Hp.set_set]; exact hv⟩⟩
     | pan v => exact hq2.elim
   | _ => exact hq.elim
  ·simp only [jumpQ, G, Hp.set_set]
   exact fin x hi lid did lo h1 h2 h3
 ·rintro r H' ⟨⟨v, rfl⟩, st, pend, ho, hst, hj⟩
  exact ⟨st, pend, ho, hst, hj⟩
end
end Go.V
end
section
set_option linter.unusedVariables false
set_option linter.unusedSimpArgs false
set_option maxHeartbeats 4000000
set_option maxRecDepth 100000
namespace Go.Proofs.YtkcgocmjaggdiaaGreat
open Go.V Wl
/-- The pump in another truth: a copy. -/
def inR (p : Pu) (b : Bool) (m : Int) (H : Hp) : Res → Hp → Prop := fun r H' => ∃ id, H id = none ∧ r = .ret (.ref id 0 9 0 0) ∧ H' = H.set id (.box 9 1 fun _ => pmC p b m)
theorem in_tri (p : Pu) (b c : Bool) (m : Int) (H : Hp) : Tri Tryz.prog (fnA 46) [.agg (pmC p b m), .iface (trT c) (.agg [])] H (inR p c m H) := by
 refine tri_v0 (mset [2]) Tryz.func46 (by kernel_rfl) rfl (by simp only [List.length_append, List.length_cons, List.length_nil, Tryz.ntmps46]; decide) ?_
 simp only [vsAll, fieldAddrA, cellA, cellsA, opA, boxMutA, newCells, okCells, storeObj, dstOk, nilSliceOp, resA, argFr, retA.eq_1, Nat.reduceAdd, Nat.reduceLT, Nat.reduceLeDiff, Nat.reduceEqDiff, Nat.reduceBEq, ↓reduceIte, eq_self, wtAll, Tryz.ntmps46, Tryz.results46]
 intro i2 hh_i2; (try simp only [Hp.set_none, ite_none] at hh_i2)
 rw [Hp.set_set]
 exact ⟨i2, hh_i2, rfl, rfl⟩
/-- What a run yields, hour after hour. -/
abbrev runF (l : List Int) (id : Nat) : AV := .func (.func 67) [] [.rptr 1 1 (fun _ => [.ref id 0 9 0 0]) 0 0, .rptr 1 1 (fun _ => [intsAV l]) 0 0]
theorem run_tri (p : Pu) (l : List Int) (id : Nat) (H : Hp) : PTri Tryz.prog (fnA 47) [.ref id 0 9 0 0, intsAV l] H (runF l id) := by
 refine tri_v0 (fun _ => false) Tryz.func47 (by kernel_rfl) rfl (by simp only [List.length_append, List.length_cons, List.length_nil, Tryz.ntmps47]; decide) ?_
 simp only [vsAll, boxA, boxZ, cellA, okAll, stAll, opsA, opA, dstOk, nilSliceOp, resA, argFr, retA.eq_1, Nat.reduceLT, Nat.reduceEqDiff, ↓reduceIte, eq_self, wtAll, Tryz.ntmps47, Tryz.results47]
def runL (p : Pu) (l : List Int) (b : Bool) (m : Int) : List (List AV) := (List.range l.length).map fun i : Nat => [i64 (i : Int), .agg (dkC p l b m (i + 1))]
theorem runL_drop (p : Pu) (l : List Int) (b : Bool) (m : Int) {i : Nat} (hi : i < l.length) : (runL p l b m).drop i = [i64 i, .agg (dkC p l b m (i + 1))] :: (runL p l b m).drop (i + 1) := by
 rw [List.drop_eq_getElem_cons (by simpa [runL] using hi)]
 simp [runL]
theorem run1_tri (p : Pu) (l : List Int) (b : Bool) (m : Int) (id : Nat) (k : Ok p) (hA : 0 < (allA p.ho).length) (hl : FirstP p l) (hn : l.length ≤ p.fl.length) (hm : 0 ≤ m ∧ m ≤ 40) (yf : Fn) (H : Hp) (K : Hp → Prop)
 (hit : IterB Tryz.prog (.func yf [] []) (PmAt p b m id) (runL p l b m) H K) (ho : PmAt p b m id H) :
 Tri Tryz.prog (runF l id) [.func yf [] []] H fun r H' => (∃ v, r = .ret v) ∧ K H' := by
 have hll := hl.len
 refine Tri.drop ?_
 refine tri_v0 (fun _ => false) Tryz.func67 (by kernel_rfl) rfl (by simp only [List.length_append, List.length_cons, List.length_nil, Tryz.ntmps67]; decide) ?_
 skip
 simp only [vsAll, loadA, loadRow, partA, partOk, okAll, stAll, opsA, opA, dstOk, argFr, Nat.reduceLT, ↓reduceIte, eq_self, wtAll, Tryz.ntmps67]
 refine callK_pure (begin_tri p l b m id _ ho) ?_
 simp only [vsAll, loadA, loadRow, partA, partOk, lenA, cellA, opA, allocA, newCells, okCells, storeObj, dstOk, nilSliceOp, argFr, Nat.reduceAdd, Nat.reduceLT, Nat.reduceEqDiff, ↓reduceIte, eq_self, wtAll]
 intro i4 hh_i4; (try simp only [Hp.set_none, ite_none] at hh_i4)
 rw [Hp.set_set]
 refine vs_loop (σ := Nat × Hp) (fun x => x.1 ≤ l.length ∧ x.2 i4 = none ∧ IterB Tryz.prog (.func yf [] []) (PmAt p b m id) ((runL p l b m).drop x.1) x.2 K)
  (fun x => [(0, .func yf [] []), (1, .rptr 1 1 (fun _ => [.ref id 0 9 0 0]) 0 0), (4, .ref i4 0 8 0 0), (5, .func (.func 33) [] []), (10, intsAV l), (11, i64 l.length), (12, i64 x.1)]) (fun x => x.2.set i4 (.box 8 1 fun _ => dkC p l b m x.1)) (fun x => l.length - x.1) (0, H) ⟨Nat.zero_le _, hh_i4, hit⟩ ?_ (HSub.refl _) fun x hx => ?_
 ·simp only [vsAll, argFr, Nat.reduceEqDiff, ↓reduceIte, reduceCtorEq, eq_self, Int.natCast_zero]
 ·obtain ⟨i, H1⟩ := x
  obtain ⟨hi, hn4, hx⟩ := hx
  simp only [] at hi hn4 hx
  simp only [vsAll, binA, binLitA, intA, opA, dstOk, Nat.reduceLT, Nat.reduceEqDiff, ↓reduceIte, reduceCtorEq, eq_self]
  refine condD (fun hd => ?_) (fun hd => ?_)
  ·have his : i < l.length := by ((try clear ho); (try clear hh_i4); omega)
   rw [runL_drop p l b m his] at hx
   obtain ⟨hpre, hx⟩ := hx
   have hne := ne_some hn4 hpre
   have hp2 : ∀ X, PmAt p b m id (H1.set i4 X) := fun X => by
    show (H1.set i4 X) id = _
    rw [Hp.set_ne _ _ hne.2]; exact hpre
   have hat := hl.at_ i his
   have e0 : l.getD i 0 = l.getD i (-1) := by simp [List.getD_eq_getElem?_getD, his]
   skip
   simp only [vsAll, loadA, loadRow, partA, partOk, indexAddrA, okAll, stAll, opsA, opA, dstOk, nilSliceOp, Nat.reduceLT, Nat.reduceEqDiff, Int.reduceNeg, ↓reduceIte, reduceCtorEq, eq_self, wtAll, intF_at, e0]
   refine ⟨⟨by ((try clear ho); (try clear hh_i4); (try clear hn4); omega), by ((try clear ho); (try clear hh_i4); (try clear hn4); omega)⟩, his, ?_⟩
   refine callK_pure (next_tri p l b m i (l.getD i (-1)) id _ k hA (hp2 _) (by ((try clear ho); (try clear hh_i4); (try clear hn4); omega)) hat rfl hm) ?_
   simp only [vsAll, loadA, loadRow, partA, partOk, cellA, okAll, stAll, opsA, opA, newCells, okCells, storeObj, dstOk, Nat.reduceAdd, Nat.reduceLT, Nat.reduceEqDiff, Int.reduceNeg, ↓reduceIte, reduceCtorEq, eq_self, wtAll]
   rw [Hp.set_set]
   refine callK (hx i4 _ hn4) ?_
   rintro r H'' (⟨rfl, H2, hn2, rfl, hr⟩ | ⟨rfl, hr⟩)
   ·simp only [vsAll, binA, binLitA, intA, unA, opA, dstOk, Nat.reduceLT, Nat.reduceEqDiff, Int.reduceNeg, ↓reduceIte, reduceCtorEq, eq_self]
    refine ⟨by simp only [InR_i64]; ((try clear ho); (try clear hh_i4); (try clear hn4); omega), loop_next (i + 1, H2) ⟨by simp only []; ((try clear ho); (try clear hh_i4); (try clear hn4); omega), hn2, hr⟩ (by simp only []; ((try clear ho); (try clear hh_i4); (try clear hn4); omega)) ?_ (HSub.refl _)⟩
    simp only [vsAll, Nat.reduceEqDiff, Int.reduceNeg, ↓reduceIte, reduceCtorEq, eq_self, Int.natCast_add, Int.natCast_one]
   ·simp only [vsAll, unA, opA, dstOk, resA, retA.eq_2, Nat.reduceLT, Int.reduceNeg, ↓reduceIte, eq_self, Tryz.results67]
    exact ⟨_, HSub_rfl, ⟨_, rfl⟩, hr⟩
  ·have ei : i = l.length := by ((try clear ho); (try clear hh_i4); omega)
   subst ei
   have : (runL p l b m).drop l.length = [] := List.drop_eq_nil_of_le (by simp [runL])
   rw [this] at hx
   simp only [vsAll, resA, retA.eq_2, ↓reduceIte, eq_self, Tryz.results67]
   exact ⟨H1, HSub_drop2 hn4 HSub_rfl, ⟨_, rfl⟩, hx⟩
end Go.Proofs.YtkcgocmjaggdiaaGreat
end
section
set_option linter.unusedVariables false
set_option linter.unusedSimpArgs false
set_option maxHeartbeats 4000000
set_option maxRecDepth 100000
namespace Go.Proofs.YtkcgocmjaggdiaaGreat
open Go.V Wl
theorem runL_get {p : Pu} {l : List Int} {b : Bool} {m : Int} {i : Nat} {v : List AV} (h : (runL p l b m)[i]? = some v) : i < l.length ∧ v = [i64 i, .agg (dkC p l b m (i + 1))] := by
 obtain ⟨h1, h2⟩ := List.getElem?_eq_some_iff.1 h
 have h1 : i < l.length := by simpa [runL] using h1
 refine ⟨h1, ?_⟩
 rw [← h2]
 simp [runL]
theorem runL_len (p : Pu) (l : List Int) (b : Bool) (m : Int) : (runL p l b m).length = l.length := by simp [runL]
theorem lost_first {ca : Int} {L : List Int} {i : Nat} (hi : i < L.length) (h1 : ca < L.getD i 0) (h2 : ∀ j, j < i → ¬ ca < L.getD j 0) : lostV ca L = i := by
 have : (List.range L.length).find? (fun i => decide (ca < L.getD i 0)) = some i := by
  rw [List.find?_range_eq_some]
  exact ⟨by simpa using h1, by simpa using hi, fun j hj => by simpa using h2 j hj⟩
 unfold lostV
 rw [this]
theorem lost_none {ca : Int} {L : List Int} (h : ∀ j, j < L.length → ¬ ca < L.getD j 0) : lostV ca L = -1 := by
 have : (List.range L.length).find? (fun i => decide (ca < L.getD i 0)) = none := by
  rw [List.find?_eq_none]
  intro j hj
  rw [List.mem_range] at hj
  simpa using h j hj
 unfold lostV
 rw [this]
theorem azT118q : azT Tryz.prog 81 = some (1, 1, [.nilFunc]) := by kernel_rfl
theorem lost_tri (p : Pu) (l : List Int) (b : Bool) (m : Int) (id : Nat) (H : Hp) (k : Ok p) (hA : 0 < (allA p.ho).length) (hl : FirstP p l) (hn : l.length ≤ p.fl.length) (hm : 0 ≤ m ∧ m ≤ 40) (ho : PmAt p b m id H) :
 PTri Tryz.prog (fnA 51) [.ref id 0 9 0 0, intsAV l] H (i64 (lostV p.ca (aftL (moreP p m) l b l.length))) := by
 have hll := hl.len
 have hL : (aftL (moreP p m) l b l.length).length = l.length := aft_len _ _ _ _
 have hLa : ∀ j, j < l.length → (aftL (moreP p m) l b l.length).getD j 0 = watV (moreP p m) l b (j + 1) := fun j hj => aft_at _ _ _ hj
 refine Tri.drop ?_
 refine tri_m (m := fun _ => false) Tryz.func51 (by kernel_rfl) rfl (by simp only [List.length_append, List.length_cons, List.length_nil, Tryz.ntmps51]; decide) ?_
 simp only [vsAll, cellA, cellsA, okAll, stAll, opsA, opA, allocA, newCells, okCells, storeObj, dstOk, argFr, Nat.reduceLT, Nat.reduceEqDiff, Int.reduceNeg, ↓reduceIte, reduceCtorEq, eq_self, wtAll, Tryz.ntmps51, azT118q]
 intro i4 hh_i4; (try simp only [Hp.set_none, ite_none] at hh_i4); intro i5 hh_i5; (try simp only [ite_none] at hh_i5)
 have a4 := ne_some hh_i4 ho
 have a5 := ne_some hh_i5.2 ho
 skip
 refine callK_pure (run_tri p l id _) ?_
 simp only [vsAll, Int.reduceNeg]
 refine vs_rangeB (σ := Unit) (runL p l b m) (fun i _ => ∀ j, j < i → ¬ p.ca < watV (moreP p m) l b (j + 1))
  (fun _ _ => (H.set i4 (.box 1 1 fun _ => [i64 0])).set i5 (.box 1 1 fun _ => [.func (.func 34) [.ref id 0 9 0 0] []])) () (PmAt p b m id) Tryz.func67 (by kernel_rfl) rfl (by simp only [vsAll, opA, ↓reduceIte, eq_self]) (by simp only [vsAll, opA, ↓reduceIte, eq_self]) (by decide) (fun v hv => by obtain ⟨q, _, rfl⟩ := List.mem_map.1 hv; rfl)
  (fun yf H K hp hi => run1_tri p l b m id k hA hl hn hm yf H K hi hp) (fun q hq => absurd hq (Nat.not_lt_zero _)) ?_ ?_ ?_ ?_ ?_
 ·(repeat (first | exact HSub_rfl | refine HSub_put_eq (by simp only [vsAll, ↓reduceIte, eq_self, hh_i5]) ?_ | refine HSub_drop2 (by simp only [eq_self, hh_i4, hh_i5]) ?_ | refine HSub_keep_eq (by simp only [vsAll, binA, binLitA, intA, aggA, aggV, boolA, nilA2, isConst, unA, loadA, loadRow, partA, partOk, fieldAddrA, indexAddrA, indexA, fieldA, extractA, lenA, nilCheckA, boxA, boxZ, cellA, cellsA, fillA, okParts, buildSliceA, buildMutA, makeSliceA, partIdx, elemsA, lensA, ifaceA, convA, mmA, pickA, okAll, stAll, opsA, partsA, partsOk, opA, allocA, boxMutA, newCells, okCells, storeObj, appendA, guardV, taA, nM, mapUpA, lookA, sliceA, sliceM, sliceS, boundsA, opO, okO, copyA, dstOk, nilA, quietOk, nilSliceOp, deferV, panA, resA, argFr, retA.eq_1, retA.eq_2, Nat.reduceAdd, Nat.reduceSub, Nat.reduceMul, Nat.reduceLT, Nat.reduceLeDiff, Nat.reduceEqDiff, Nat.reduceBEq, Int.reduceAdd, Int.reduceSub, Int.reduceMul, Int.reduceNeg, Int.reduceLE, Int.reduceLT, Int.reduceEq, Int.reduceNe, Int.reduceToNat, ↓reduceIte, reduceCtorEq, implies_true, forall_const, eq_self, ne_eq, wtAll, Tryz.ntmps51, Tryz.results51, hh_i4, hh_i5, ho, a4, a5]) ?_))
 ·intro j _ _ q; exact Iff.rfl
 ·intro i x hi lid did o1 o2 h1 h2
  simp only [Hp.set_none] at h1 h2
  have b1 := ne_some h1.2.2 ho
  have b2 := ne_some h2.2.2 ho
  show Hp.set (Hp.set (Hp.set (Hp.set H i4 _) i5 _) did _) lid _ id = _
  simp only [vsAll, ↓reduceIte, eq_self, ho, a4, a5, b1, b2]
 ·rintro j o i v ⟨⟩ hv hi hj lid did l' lo h1 h2 h3 h5 h6
  simp only [Hp.set_none] at hj h1 h2
  have h4 : ¬ did = lid := fun e => h3 e.symm
  have h5' : ¬ lid = j := fun e => h5 e.symm
  have h6' : ¬ did = j := fun e => h6 e.symm
  have b1 := ne_some h1.2.2 ho
  have b2 := ne_some h2.2.2 ho
  have b3 := ne_some hj.2.2 ho
  skip
  obtain ⟨his, rfl⟩ := runL_get hv
  simp only [vsAll, loadA, loadRow, partA, partOk, cellA, okAll, stAll, opsA, opA, allocA, newCells, okCells, storeObj, dstOk, quietOk, nilSliceOp, Nat.reduceAdd, Nat.reduceLT, Nat.reduceEqDiff, Int.reduceNeg, ↓reduceIte, eq_self, wtAll, hj, h1, h2]
  intro i7 hh_i7; (try simp only [ite_none] at hh_i7)
  have n7 := ne_some hh_i7.2.2.2.2.2 ho
  skip
  refine ⟨?_, ?_⟩
  ·simp only [↓reduceIte, eq_self, hh_i7]
  simp only [vsAll, Nat.reduceLT, Int.reduceNeg, ↓reduceIte, eq_self, hh_i7]
  have hlen : (allA p.ho).length = (allA p.ho).length := rfl
  refine callK_pure (tri_bound (floats_tri p l b m (i + 1) id _ ?_)) ?_
  ·show Hp.set (Hp.set (Hp.set (Hp.set (Hp.set (Hp.set (Hp.set (Hp.set H i4 _) i5 _) j _) did _) lid _) i7 _) i7 _) lid _ id = _
   simp only [vsAll, ↓reduceIte, eq_self, ho, a4, a5, b3, n7, b1, b2]
  simp only [vsAll, unA, opA, dstOk, Nat.reduceLT, Int.reduceNeg, ↓reduceIte, eq_self]
  refine condV (fun hg => ?_) (fun hg => ?_)
  ·have hg : p.ca < watV (moreP p m) l b (i + 1) := by
    simp only [Bool.not_eq_true', decide_eq_false_iff_not] at hg; ((try clear hh_i4); (try clear hh_i5); (try clear ho); (try clear a4); (try clear a5); (try clear hj); (try clear h1); (try clear h2); (try clear h3); (try clear h4); (try clear h5); (try clear h6); (try clear h5'); (try clear h6'); (try clear b1); (try clear b2); (try clear b3); (try clear hh_i7); (try clear n7); omega)
   simp only [vsAll, loadA, loadRow, partA, partOk, cellA, cellsA, opA, newCells, okCells, storeObj, dstOk, quietOk, resA, retA.eq_1, Nat.reduceLT, Nat.reduceEqDiff, Int.reduceNeg, ↓reduceIte, eq_self, wtAll, Tryz.results51, hh_i5, hj, h1, h2, h4, hh_i7]
   have e : lostV p.ca (aftL (moreP p m) l b l.length) = i := lost_first (by rw [hL]; exact his) (by rw [hLa i his]; exact hg) (fun q hq => by rw [hLa q (Nat.lt_trans hq his)]; exact hi q hq)
   rw [e]
   exact ⟨⟨_, _, rfl⟩, dropR_pure rfl (by (repeat (first | exact HSub_rfl | refine HSub_put_eq (by simp only [vsAll, binA, binLitA, intA, aggA, aggV, boolA, nilA2, isConst, unA, loadA, loadRow, partA, partOk, fieldAddrA, indexAddrA, indexA, fieldA, extractA, lenA, nilCheckA, boxA, boxZ, cellA, cellsA, fillA, okParts, buildSliceA, buildMutA, makeSliceA, partIdx, elemsA, lensA, ifaceA, convA, mmA, pickA, okAll, stAll, opsA, partsA, partsOk, opA, allocA, boxMutA, newCells, okCells, storeObj, appendA, guardV, taA, nM, mapUpA, lookA, sliceA, sliceM, sliceS, boundsA, opO, okO, copyA, dstOk, nilA, quietOk, nilSliceOp, deferV, panA, resA, argFr, retA.eq_1, retA.eq_2, Nat.reduceAdd, Nat.reduceSub, Nat.reduceMul, Nat.reduceLT, Nat.reduceLeDiff, Nat.reduceEqDiff, Nat.reduceBEq, Int.reduceAdd, Int.reduceSub, Int.reduceMul, Int.reduceNeg, Int.reduceLE, Int.reduceLT, Int.reduceEq, Int.reduceNe, Int.reduceToNat, ↓reduceIte, reduceCtorEq, implies_true, forall_const, eq_self, ne_eq, wtAll, Tryz.ntmps51, Tryz.results51, hh_i4, hh_i5, ho, a4, a5, hj, h1, h2, h3, h4, h5, h6, h5', h6', b1, b2, b3, hh_i7, n7]) ?_ | refine HSub_drop2 (by simp only [eq_self, hh_i4, hh_i5, hj, h1, h2, hh_i7]) ?_ | refine HSub_keep_eq (by simp only [vsAll, binA, binLitA, intA, aggA, aggV, boolA, nilA2, isConst, unA, loadA, loadRow, partA, partOk, fieldAddrA, indexAddrA, indexA, fieldA, extractA, lenA, nilCheckA, boxA, boxZ, cellA, cellsA, fillA, okParts, buildSliceA, buildMutA, makeSliceA, partIdx, elemsA, lensA, ifaceA, convA, mmA, pickA, okAll, stAll, opsA, partsA, partsOk, opA, allocA, boxMutA, newCells, okCells, storeObj, appendA, guardV, taA, nM, mapUpA, lookA, sliceA, sliceM, sliceS, boundsA, opO, okO, copyA, dstOk, nilA, quietOk, nilSliceOp, deferV, panA, resA, argFr, retA.eq_1, retA.eq_2, Nat.reduceAdd, Nat.reduceSub, Nat.reduceMul, Nat.reduceLT, Nat.reduceLeDiff, Nat.reduceEqDiff, Nat.reduceBEq, Int.reduceAdd, Int.reduceSub, Int.reduceMul, Int.reduceNeg, Int.reduceLE, Int.reduceLT, Int.reduceEq, Int.reduceNe, Int.reduceToNat, ↓reduceIte, reduceCtorEq, implies_true, forall_const, eq_self, ne_eq, wtAll, Tryz.ntmps51, Tryz.results51, hh_i4, hh_i5, ho, a4, a5, hj, h1, h2, h3, h4, h5, h6, h5', h6', b1, b2, b3, hh_i7, n7]) ?_)))⟩
  ·have hg : ¬ p.ca < watV (moreP p m) l b (i + 1) := by
    simp only [Bool.not_eq_false', decide_eq_true_eq] at hg; ((try clear hh_i4); (try clear hh_i5); (try clear ho); (try clear a4); (try clear a5); (try clear hj); (try clear h1); (try clear h2); (try clear h3); (try clear h4); (try clear h5); (try clear h6); (try clear h5'); (try clear h6'); (try clear b1); (try clear b2); (try clear b3); (try clear hh_i7); (try clear n7); omega)
   simp only [vsAll, Int.reduceNeg, ↓reduceIte, eq_self]
   exact ⟨⟨_, _, rfl⟩, _, ⟨(), fun q hq => by
    rcases Nat.lt_succ_iff_lt_or_eq.1 hq with h | rfl
    ·exact hi q h
    ·exact hg, rfl⟩, by (repeat (first | exact HSub_rfl | refine HSub_put_eq (by simp only [vsAll, ↓reduceIte, eq_self, hh_i5, hj, h1, h2, h4, h5, h6, hh_i7]) ?_ | refine HSub_drop2 (by simp only [eq_self, hh_i4, hh_i5, hj, h1, h2, hh_i7]) ?_ | refine HSub_keep_eq (by simp only [vsAll, binA, binLitA, intA, aggA, aggV, boolA, nilA2, isConst, unA, loadA, loadRow, partA, partOk, fieldAddrA, indexAddrA, indexA, fieldA, extractA, lenA, nilCheckA, boxA, boxZ, cellA, cellsA, fillA, okParts, buildSliceA, buildMutA, makeSliceA, partIdx, elemsA, lensA, ifaceA, convA, mmA, pickA, okAll, stAll, opsA, partsA, partsOk, opA, allocA, boxMutA, newCells, okCells, storeObj, appendA, guardV, taA, nM, mapUpA, lookA, sliceA, sliceM, sliceS, boundsA, opO, okO, copyA, dstOk, nilA, quietOk, nilSliceOp, deferV, panA, resA, argFr, retA.eq_1, retA.eq_2, Nat.reduceAdd, Nat.reduceSub, Nat.reduceMul, Nat.reduceLT, Nat.reduceLeDiff, Nat.reduceEqDiff, Nat.reduceBEq, Int.reduceAdd, Int.reduceSub, Int.reduceMul, Int.reduceNeg, Int.reduceLE, Int.reduceLT, Int.reduceEq, Int.reduceNe, Int.reduceToNat, ↓reduceIte, reduceCtorEq, implies_true, forall_const, eq_self, ne_eq, wtAll, Tryz.ntmps51, Tryz.results51, hh_i4, hh_i5, ho, a4, a5, hj, h1, h2, h3, h4, h5, h6, h5', h6', b1, b2, b3, hh_i7, n7]) ?_))⟩
 ·rintro ⟨⟩ hi lid did lo h1 h2 h3
  simp only [Hp.set_none] at h1 h2
  have h4 : ¬ did = lid := fun e => h3 e.symm
  skip
  rw [runL_len] at hi
  have e : lostV p.ca (aftL (moreP p m) l b l.length) = -1 := lost_none fun j hj => by
   rw [hL] at hj
   rw [hLa j hj]; exact hi j hj
  simp only [vsAll, loadA, loadRow, partA, partOk, cellA, cellsA, opA, newCells, okCells, storeObj, dstOk, resA, retA.eq_1, Nat.reduceLT, Nat.reduceEqDiff, Int.reduceNeg, ↓reduceIte, eq_self, wtAll, Tryz.results51, hh_i5, h1, h2, h4, e]
  exact dropR_pure rfl (by (repeat (first | exact HSub_rfl | refine HSub_put_eq (by simp only [vsAll, binA, binLitA, intA, aggA, aggV, boolA, nilA2, isConst, unA, loadA, loadRow, partA, partOk, fieldAddrA, indexAddrA, indexA, fieldA, extractA, lenA, nilCheckA, boxA, boxZ, cellA, cellsA, fillA, okParts, buildSliceA, buildMutA, makeSliceA, partIdx, elemsA, lensA, ifaceA, convA, mmA, pickA, okAll, stAll, opsA, partsA, partsOk, opA, allocA, boxMutA, newCells, okCells, storeObj, appendA, guardV, taA, nM, mapUpA, lookA, sliceA, sliceM, sliceS, boundsA, opO, okO, copyA, dstOk, nilA, quietOk, nilSliceOp, deferV, panA, resA, argFr, retA.eq_1, retA.eq_2, Nat.reduceAdd, Nat.reduceSub, Nat.reduceMul, Nat.reduceLT, Nat.reduceLeDiff, Nat.reduceEqDiff, Nat.reduceBEq, Int.reduceAdd, Int.reduceSub, Int.reduceMul, Int.reduceNeg, Int.reduceLE, Int.reduceLT, Int.reduceEq, Int.reduceNe, Int.reduceToNat, ↓reduceIte, reduceCtorEq, implies_true, forall_const, eq_self, ne_eq, wtAll, Tryz.ntmps51, Tryz.results51, hh_i4, hh_i5, ho, a4, a5, h1, h2, h3, h4]) ?_ | refine HSub_drop2 (by simp only [eq_self, hh_i4, hh_i5, h1, h2]) ?_ | refine HSub_keep_eq (by simp only [vsAll, binA, binLitA, intA, aggA, aggV, boolA, nilA2, isConst, unA, loadA, loadRow, partA, partOk, fieldAddrA, indexAddrA, indexA, fieldA, extractA, lenA, nilCheckA, boxA, boxZ, cellA, cellsA, fillA, okParts, buildSliceA, buildMutA, makeSliceA, partIdx, elemsA, lensA, ifaceA, convA, mmA, pickA, okAll, stAll, opsA, partsA, partsOk, opA, allocA, boxMutA, newCells, okCells, storeObj, appendA, guardV, taA, nM, mapUpA, lookA, sliceA, sliceM, sliceS, boundsA, opO, okO, copyA, dstOk, nilA, quietOk, nilSliceOp, deferV, panA, resA, argFr, retA.eq_1, retA.eq_2, Nat.reduceAdd, Nat.reduceSub, Nat.reduceMul, Nat.reduceLT, Nat.reduceLeDiff, Nat.reduceEqDiff, Nat.reduceBEq, Int.reduceAdd, Int.reduceSub, Int.reduceMul, Int.reduceNeg, Int.reduceLE, Int.reduceLT, Int.reduceEq, Int.reduceNe, Int.reduceToNat, ↓reduceIte, reduceCtorEq, implies_true, forall_const, eq_self, ne_eq, wtAll, Tryz.ntmps51, Tryz.results51, hh_i4, hh_i5, ho, a4, a5, h1, h2, h3, h4]) ?_)))
end Go.Proofs.YtkcgocmjaggdiaaGreat
end
section
set_option linter.unusedVariables false
set_option linter.unusedSimpArgs false
namespace Go.Proofs.YtkcgocmjaggdiaaGreat
open Go.V Wl
theorem getD_app (l : List Int) (x : List Int) {i : Nat} (hi : i < l.length) : (l ++ x).getD i (-1) = l.getD i (-1) := by
 simp [List.getD_eq_getElem?_getD, List.getElem?_append_left hi]
theorem getD_app_len (l : List Int) (w : Int) : (l ++ [w]).getD l.length (-1) = w := by
 simp [List.getD_eq_getElem?_getD]
theorem done_pre (re : Int) (l x : List Int) (w : Int) : ∀ i, i ≤ l.length → doneW re (l ++ x) w i = doneW re l w i
 | 0, _ => rfl
 | i + 1, h => by
   simp only [doneW]
   rw [done_pre re l x w i (by omega), getD_app l x (by omega)]
theorem worn_pre (p : Pu) (l x : List Int) (w i : Nat) (h : i ≤ l.length) : wornV p (l ++ x) w i = wornV p l w i := by
 unfold wornV; rw [done_pre _ _ _ _ _ h]
theorem men_pre (p : Pu) (l x : List Int) (w i : Nat) (h : i ≤ l.length) : menV p (l ++ x) i w = menV p l i w := by
 unfold menV; rw [done_pre _ _ _ _ _ h]
theorem str_pre (p : Pu) (l x : List Int) (i : Nat) (b : Bool) (h : i < l.length) : strV p (l ++ x) i b = strV p l i b := by
 unfold strV
 rw [getD_app l x h, worn_pre p l x _ i (by omega)]
theorem wat_pre (p : Pu) (l x : List Int) (b : Bool) : ∀ i, i ≤ l.length → watV p (l ++ x) b i = watV p l b i
 | 0, _ => rfl
 | i + 1, h => by
   simp only [watV]
   rw [wat_pre p l x b i (by omega), str_pre p l x i b (by omega)]
theorem deck_pre (p : Pu) (l x : List Int) (b : Bool) (m : Int) (i : Nat) (h : i ≤ l.length) : dkC p (l ++ x) b m i = dkC p l b m i := by
 simp only [dkC, men_pre p l x _ i h, wat_pre _ l x b i h]
/-- How it is after a plan so far: eight numbers. -/
def dkI (p : Pu) (l : List Int) : List Int := [(l.length : Int), ((menV p l l.length 0).1 : Int), ((menV p l l.length 0).2 : Int), ((menV p l l.length 1).1 : Int), ((menV p l l.length 1).2 : Int), ((menV p l l.length 2).1 : Int), ((menV p l l.length 2).2 : Int), watV p l false l.length]
theorem dkI_inj {p : Pu} {l l' : List Int} (h : dkI p l = dkI p l') : l.length = l'.length ∧ (∀ v, v < 3 → menV p l l.length v = menV p l' l'.length v) ∧ watV p l false l.length = watV p l' false l'.length := by
 unfold dkI at h
 simp only [List.cons.injEq, and_true] at h
 obtain ⟨h1, a0, b0, a1, b1, a2, b2, h3⟩ := h
 refine ⟨by omega, fun v hv => ?_, h3⟩
 have : v = 0 ∨ v = 1 ∨ v = 2 := by omega
 rcases this with rfl | rfl | rfl
 ·exact Prod.ext (by omega) (by omega)
 ·exact Prod.ext (by omega) (by omega)
 ·exact Prod.ext (by omega) (by omega)
theorem men_step (p : Pu) (k : Ok p) (l : List Int) (w : Int) {v : Nat} (hv : v < p.ws.length) : menV p (l ++ [w]) (l.length + 1) v = (let s' := if decide (w = (v : Int)) = true then ((menV p l l.length v).1 + 1, 0) else ((menV p l l.length v).1, min ((menV p l l.length v).2 + 1) 4); if (p.wt v).re ≤ (s'.2 : Int) then (0, s'.2) else s') := by
 have hw := (k.w v hv).2.2
 unfold menV
 rw [if_pos hv, if_pos hv]
 simp only [doneW]
 rw [done_pre _ l [w] _ _ (Nat.le_refl _), getD_app_len]
 exact cap_step hw _ _
theorem dk_step {p : Pu} (k : Ok p) {l l' : List Int} (h : dkI p l = dkI p l') (w : Int) (hw : -1 ≤ w ∧ w < p.ws.length) : dkI p (l ++ [w]) = dkI p (l' ++ [w]) := by
 obtain ⟨h1, h2, h3⟩ := dkI_inj h
 have nW := k.nW
 have hm : ∀ v, v < 3 → menV p (l ++ [w]) (l ++ [w]).length v = menV p (l' ++ [w]) (l' ++ [w]).length v := by
  intro v hv
  rw [List.length_append, List.length_singleton, List.length_append, List.length_singleton]
  by_cases hvw : v < p.ws.length
  ·rw [men_step p k l w hvw, men_step p k l' w hvw, h2 v hv]
  ·unfold menV
   rw [if_neg hvw, if_neg hvw]
 have hwat : watV p (l ++ [w]) false (l ++ [w]).length = watV p (l' ++ [w]) false (l' ++ [w]).length := by
  rw [List.length_append, List.length_singleton, List.length_append, List.length_singleton]
  simp only [watV]
  rw [wat_pre p l [w] false _ (Nat.le_refl _), wat_pre p l' [w] false _ (Nat.le_refl _), h3, h1]
  have hs : strV p (l ++ [w]) l'.length false = strV p (l' ++ [w]) l'.length false := by
   unfold strV
   have e1 : (l ++ [w]).getD l'.length (-1) = w := by rw [← h1]; exact getD_app_len l w
   rw [e1, getD_app_len]
   by_cases hn : w < 0
   ·rw [if_pos hn, if_pos hn]
   ·rw [if_neg hn, if_neg hn]
    have hv : w.toNat < p.ws.length := by omega
    have e2 : wornV p (l ++ [w]) w.toNat l'.length = wornV p (l' ++ [w]) w.toNat l'.length := by
     rw [worn_pre p l [w] _ _ (by omega), worn_pre p l' [w] _ _ (Nat.le_refl _)]
     have := congrArg Prod.fst (h2 w.toNat (by omega))
     unfold menV at this
     rw [if_pos hv, if_pos hv, h1] at this
     exact this
    rw [e2]
  rw [hs]
 unfold dkI
 rw [hm 0 (by decide), hm 1 (by decide), hm 2 (by decide), hwat, List.length_append, List.length_append, h1]
def costW (w n : Int) : Int := if 0 ≤ w then n + 1 else n
/-- One watch more is tried. -/
def stepB (p : Pu) (S : Nat) (f : List Int → Option Int) (l : List Int) (acc : Option Int) (w : Int) : Option Int :=
 if (0 ≤ w ∧ S.testBit w.toNat = false) ∨ ¬ watV p (l ++ [w]) false (l.length + 1) ≤ p.ca then acc else
  match f (l ++ [w]) with
  | none => acc
  | some x => match acc with
    | none => some (costW w x)
    | some y => if costW w x < y then some (costW w x) else acc
/-- What is least of the first watches; the first of all is none. -/
def rowB (p : Pu) (S : Nat) (f : List Int → Option Int) (l : List Int) : Nat → Option Int
 | 0 => none
 | j + 1 => stepB p S f l (rowB p S f l j) ((j : Int) - 1)
/-- The least hours of pumping from a plan so far, if it goes on for so many hours. -/
def leastB (p : Pu) (S : Nat) : Nat → List Int → Option Int
 | 0, _ => some 0
 | k + 1, l => rowB p S (leastB p S k) l (p.ws.length + 1)
theorem row_congr {p : Pu} (k : Ok p) (S : Nat) {f : List Int → Option Int} (hf : ∀ l l', dkI p l = dkI p l' → f l = f l') {l l' : List Int} (h : dkI p l = dkI p l') : ∀ j, j ≤ p.ws.length + 1 → rowB p S f l j = rowB p S f l' j
 | 0, _ => rfl
 | j + 1, hj => by
   have hd := dk_step k h ((j : Int) - 1) (by omega)
   have h1 := hf _ _ hd
   have h2 := (dkI_inj hd).2.2
   rw [List.length_append, List.length_singleton, List.length_append, List.length_singleton] at h2
   simp only [rowB, stepB]
   rw [row_congr k S hf h j (by omega), h1, h2]
theorem least_congr {p : Pu} (k : Ok p) (S : Nat) : ∀ n (l l' : List Int), dkI p l = dkI p l' → leastB p S n l = leastB p S n l'
 | 0, _, _, _ => rfl
 | n + 1, l, l', h => row_congr k S (least_congr k S n) h _ (Nat.le_refl _)
/-- It is a number from 0 on. -/
theorem least_rng {p : Pu} (S : Nat) : ∀ n l x, leastB p S n l = some x → 0 ≤ x ∧ x ≤ n := by
 have row : ∀ (n : Nat) (f : List Int → Option Int) l, (∀ l x, f l = some x → 0 ≤ x ∧ x ≤ n) → ∀ j x, rowB p S f l j = some x → 0 ≤ x ∧ x ≤ (n : Int) + 1 := by
  intro n f l hf j
  induction j with
  | zero => intro x h; cases h
  | succ j ih =>
    intro x h
    simp only [rowB, stepB] at h
    have hc : ∀ x, f (l ++ [(j : Int) - 1]) = some x → 0 ≤ costW ((j : Int) - 1) x ∧ costW ((j : Int) - 1) x ≤ (n : Int) + 1 := fun x hx => by
     have := hf _ _ hx
     unfold costW; split <;> omega
    split at h
    ·exact ih x h
    ·split at h
     ·exact ih x h
     ·rename_i y hy
      split at h
      ·simp only [Option.some.injEq] at h; subst h; exact hc _ hy
      ·split at h
       ·simp only [Option.some.injEq] at h; subst h; exact hc _ hy
       ·exact ih x h
 intro n
 induction n with
 | zero => intro l x h; simp only [leastB, Option.some.injEq] at h; omega
 | succ n ih =>
   intro l x h
   have := row n _ l ih _ x h
   omega
end Go.Proofs.YtkcgocmjaggdiaaGreat
end
section
set_option linter.unusedVariables false
set_option linter.unusedSimpArgs false
set_option maxHeartbeats 4000000
set_option maxRecDepth 100000
namespace Go.Proofs.YtkcgocmjaggdiaaGreat
open Go.V Wl
theorem palways_tri (H : Hp) : PTri Tryz.prog (fnA 27) [] H (boo true) := by
 refine tri_v0 (fun _ => false) Tryz.func27 (by kernel_rfl) rfl (by simp only [List.length_append, List.length_nil, Tryz.ntmps27]; decide) ?_
 simp only [vsAll, opA, dstOk, nilSliceOp, resA, retA.eq_1, Nat.reduceLT, ↓reduceIte, eq_self, Tryz.ntmps27, Tryz.results27]
abbrev hoursA : AV := .agg [.func (.func 55) [] [], .func (.func 56) [] []]
theorem hours_tri (H : Hp) : PTri Tryz.prog (fnA 28) [] H hoursA := by
 refine Tri.drop ?_
 refine tri_v0 (fun _ => false) Tryz.func28 (by kernel_rfl) rfl (by simp only [List.length_append, List.length_nil, Tryz.ntmps28]; decide) ?_
 simp only [vsAll, loadA, loadRow, partA, partOk, cellA, cellsA, fillA, okParts, partsA, partsOk, opA, allocA, newCells, okCells, storeObj, dstOk, resA, retA.eq_1, Nat.reduceAdd, Nat.reduceLT, Nat.reduceLeDiff, ↓reduceIte, reduceCtorEq, eq_self, wtAll, Tryz.ntmps28, Tryz.results28]
 intro i0 hh_i0; (try simp only [Hp.set_none, ite_none] at hh_i0)
 exact dropR_pure rfl (by (repeat (first | exact HSub_rfl | refine HSub_put_eq (by simp only [vsAll, binA, binLitA, intA, aggA, aggV, boolA, nilA2, isConst, unA, loadA, loadRow, partA, partOk, fieldAddrA, indexAddrA, indexA, fieldA, extractA, lenA, nilCheckA, boxA, boxZ, cellA, cellsA, fillA, okParts, buildSliceA, buildMutA, makeSliceA, partIdx, elemsA, lensA, ifaceA, convA, mmA, pickA, okAll, stAll, opsA, partsA, partsOk, opA, allocA, boxMutA, newCells, okCells, storeObj, appendA, guardV, taA, nM, mapUpA, lookA, sliceA, sliceM, sliceS, boundsA, opO, okO, copyA, dstOk, nilA, quietOk, nilSliceOp, deferV, panA, resA, argFr, retA.eq_1, retA.eq_2, Nat.reduceAdd, Nat.reduceSub, Nat.reduceMul, Nat.reduceLT, Nat.reduceLeDiff, Nat.reduceEqDiff, Nat.reduceBEq, Int.reduceAdd, Int.reduceSub, Int.reduceMul, Int.reduceNeg, Int.reduceLE, Int.reduceLT, Int.reduceEq, Int.reduceNe, Int.reduceToNat, ↓reduceIte, reduceCtorEq, implies_true, forall_const, eq_self, ne_eq, wtAll, Tryz.ntmps28, Tryz.results28, hh_i0]) ?_ | refine HSub_drop2 (by simp only [eq_self, hh_i0]) ?_ | refine HSub_keep_eq (by simp only [vsAll, binA, binLitA, intA, aggA, aggV, boolA, nilA2, isConst, unA, loadA, loadRow, partA, partOk, fieldAddrA, indexAddrA, indexA, fieldA, extractA, lenA, nilCheckA, boxA, boxZ, cellA, cellsA, fillA, okParts, buildSliceA, buildMutA, makeSliceA, partIdx, elemsA, lensA, ifaceA, convA, mmA, pickA, okAll, stAll, opsA, partsA, partsOk, opA, allocA, boxMutA, newCells, okCells, storeObj, appendA, guardV, taA, nM, mapUpA, lookA, sliceA, sliceM, sliceS, boundsA, opO, okO, copyA, dstOk, nilA, quietOk, nilSliceOp, deferV, panA, resA, argFr, retA.eq_1, retA.eq_2, Nat.reduceAdd, Nat.reduceSub, Nat.reduceMul, Nat.reduceLT, Nat.reduceLeDiff, Nat.reduceEqDiff, Nat.reduceBEq, Int.reduceAdd, Int.reduceSub, Int.reduceMul, Int.reduceNeg, Int.reduceLE, Int.reduceLT, Int.reduceEq, Int.reduceNe, Int.reduceToNat, ↓reduceIte, reduceCtorEq, implies_true, forall_const, eq_self, ne_eq, wtAll, Tryz.ntmps28, Tryz.results28, hh_i0]) ?_)))
theorem every_tri (p : Pu) (b : Bool) (m : Int) (id : Nat) (H : Hp) (k : Ok p) (ho : PmAt p b m id H) : PTri Tryz.prog (fnA 30) [.ref id 0 9 0 0] H (u64 ((2 ^ p.ws.length - 1 : Nat) : Int)) := by
 have nW := k.nW
 refine tri_v0 (fun _ => false) Tryz.func30 (by kernel_rfl) rfl (by simp only [List.length_append, List.length_cons, List.length_nil, Tryz.ntmps30]; decide) ?_
 skip
 simp only [vsAll, binA, binLitA, intA, loadA, loadRow, partA, partOk, fieldAddrA, lenA, nilCheckA, opA, dstOk, nilSliceOp, resA, argFr, retA.eq_1, Nat.reduceLT, ↓reduceIte, reduceCtorEq, eq_self, wtAll, Tryz.ntmps30, Tryz.results30, ho]
 generalize p.ws.length = n at nW ⊢
 have : n = 0 ∨ n = 1 ∨ n = 2 ∨ n = 3 := by ((try clear ho); omega)
 rcases this with rfl | rfl | rfl | rfl <;> exact ⟨⟨by decide, by decide, by simp only [InR_u64]; decide⟩, by simp only [InR_u64]; decide, rfl⟩
theorem of_tri2 (w n : Int) (H : Hp) (hn : -1000 ≤ n ∧ n ≤ 1000) : PTri Tryz.prog (fnA 55) [i64 w, i64 n] H (i64 (costW w n)) := by
 refine tri_v0 (fun _ => false) Tryz.func55 (by kernel_rfl) rfl (by simp only [List.length_append, List.length_cons, List.length_nil, Tryz.ntmps55]; decide) ?_
 simp only [vsAll, binA, binLitA, intA, opA, dstOk, nilSliceOp, argFr, Nat.reduceLT, ↓reduceIte, reduceCtorEq, eq_self, Tryz.ntmps55]
 unfold costW
 refine condD (fun hc => ?_) (fun hc => ?_)
 ·simp only [vsAll, binA, binLitA, intA, opA, dstOk, nilSliceOp, resA, argFr, retA.eq_1, Nat.reduceLT, Nat.reduceEqDiff, ↓reduceIte, eq_self, Tryz.results55]
  refine ⟨by simp only [InR_i64]; omega, ?_⟩
  rw [if_pos hc]
 ·rw [if_neg hc]
  simp only [vsAll, opA, dstOk, nilSliceOp, resA, argFr, retA.eq_1, Nat.reduceLT, Nat.reduceEqDiff, ↓reduceIte, eq_self, Tryz.results55]
theorem less_tri (a b : Int) (H : Hp) : PTri Tryz.prog (fnA 56) [i64 a, i64 b] H (boo (decide (a < b))) := by
 refine tri_v0 (fun _ => false) Tryz.func56 (by kernel_rfl) rfl (by simp only [List.length_append, List.length_cons, List.length_nil, Tryz.ntmps56]; decide) ?_
 simp only [vsAll, binA, binLitA, intA, opA, dstOk, nilSliceOp, resA, argFr, retA.eq_1, Nat.reduceLT, Nat.reduceEqDiff, ↓reduceIte, reduceCtorEq, eq_self, Tryz.ntmps56, Tryz.results56]
end Go.Proofs.YtkcgocmjaggdiaaGreat
end
section
set_option linter.unusedVariables false
set_option linter.unusedSimpArgs false
namespace Go.V
set_option linter.unusedSectionVars false
variable [Inhabited GivT]
theorem kl_arr3s {P : Program} {d c : Nat} {T e : TypeId} {l0 l1 l2 : List Int} (hu : P.underlying T = some (.array 3 e)) (hc : P.cellsOf T = 3 * c) (hce : P.cellsOf e = c) (h0 : l0.length = c) (h1 : l1.length = c) (h2 : l2.length = c)
 (k0 : P.keyLits d e (l0.map (Value.int .i64)) = some (l0.map (Lit.int .i64))) (k1 : P.keyLits d e (l1.map (Value.int .i64)) = some (l1.map (Lit.int .i64))) (k2 : P.keyLits d e (l2.map (Value.int .i64)) = some (l2.map (Lit.int .i64))) :
 P.keyLits (d + 1) T (l0.map (Value.int .i64) ++ l1.map (Value.int .i64) ++ l2.map (Value.int .i64)) = some (l0.map (Lit.int .i64) ++ l1.map (Lit.int .i64) ++ l2.map (Lit.int .i64)) := by
 rw [Program.keyLits]
 rotate_left 3
 ·exact hu
 rw [if_pos (by simp only [List.length_append, List.length_map, hc, h0, h1, h2]; omega), hce, show List.range 3 = [0, 1, 2] from rfl]
 have e0 : (List.take c (List.drop (0 * c) (l0.map (Value.int .i64) ++ l1.map (Value.int .i64) ++ l2.map (Value.int .i64)))) = l0.map (Value.int .i64) := by
  rw [Nat.zero_mul, List.drop_zero, List.append_assoc, List.take_append_of_le_length (by rw [List.length_map, h0]; exact Nat.le_refl _), List.take_of_length_le (by rw [List.length_map, h0]; exact Nat.le_refl _)]
 have e1 : (List.take c (List.drop (1 * c) (l0.map (Value.int .i64) ++ l1.map (Value.int .i64) ++ l2.map (Value.int .i64)))) = l1.map (Value.int .i64) := by
  rw [Nat.one_mul, List.append_assoc, List.drop_append_of_le_length (by rw [List.length_map, h0]; exact Nat.le_refl _), List.drop_of_length_le (by rw [List.length_map, h0]; exact Nat.le_refl _), List.nil_append, List.take_append_of_le_length (by rw [List.length_map, h1]; exact Nat.le_refl _), List.take_of_length_le (by rw [List.length_map, h1]; exact Nat.le_refl _)]
 have e2 : (List.take c (List.drop (2 * c) (l0.map (Value.int .i64) ++ l1.map (Value.int .i64) ++ l2.map (Value.int .i64)))) = l2.map (Value.int .i64) := by
  have : 2 * c = (l0.map (Value.int .i64) ++ l1.map (Value.int .i64)).length := by simp only [List.length_append, List.length_map, h0, h1]; omega
  rw [this, List.drop_left, List.take_of_length_le (by rw [List.length_map, h2]; exact Nat.le_refl _)]
 simp only [List.mapM_cons, List.mapM_nil, e0, e1, e2, k0, k1, k2]
 simp
theorem kl_three {P : Program} {d : Nat} {T : TypeId} {fs : Array Field} {f0 f1 f2 : Field} {v0 v2 : Value} {r : List Value} {L0 L1 L2 : List Lit} (hu : P.underlying T = some (.struct fs)) (hf : fs.toList = [f0, f1, f2]) (hn : f0.name ≠ "_" ∧ f1.name ≠ "_" ∧ f2.name ≠ "_") (hc : P.cellsOf T = r.length + 2)
 (h0 : f0.offset = 0 ∧ P.cellsOf f0.type = 1) (h1 : f1.offset = 1 ∧ P.cellsOf f1.type = r.length) (h2 : f2.offset = r.length + 1 ∧ P.cellsOf f2.type = 1) (k0 : P.keyLits d f0.type [v0] = some L0) (k1 : P.keyLits d f1.type r = some L1) (k2 : P.keyLits d f2.type [v2] = some L2) :
 P.keyLits (d + 1) T (v0 :: (r ++ [v2])) = some (L0 ++ L1 ++ L2) := by
 have hall : fs.all (fun f => f.name != "_") = true := by
  rw [Array.all_eq_true_iff_forall_mem]
  intro f hf'
  have : f ∈ fs.toList := by simpa using hf'
  rw [hf] at this
  rcases List.mem_cons.1 this with rfl | this
  ·simpa using hn.1
  ·rcases List.mem_cons.1 this with rfl | this
   ·simpa using hn.2.1
   ·have := List.mem_singleton.1 this
    subst this; simpa using hn.2.2
 have g1 : List.take r.length (r ++ [v2]) = r := List.take_left
 have g2 : List.drop r.length (r ++ [v2]) = [v2] := List.drop_left
 simp only [Program.keyLits, hu, List.length_cons, List.length_append, List.length_nil, hc, hall, and_self, if_true, hf, List.mapM_cons, List.mapM_nil, h0.1, h0.2, h1.1, h1.2, h2.1, h2.2, List.drop_zero, List.take_succ_cons, List.take_zero, List.drop_succ_cons, g1, g2, k0, k1, k2]
 simp
end Go.V
end
section
set_option linter.unusedVariables false
set_option linter.unusedSimpArgs false
set_option maxHeartbeats 4000000
set_option maxRecDepth 100000
namespace Go.Proofs.YtkcgocmjaggdiaaGreat
open Go.V Wl
theorem mapZ141q : mapZ Tryz.prog 105 = some (.agg #[.int .i64 0, .bool false]) := by kernel_rfl
theorem und141q : Program.underlying Tryz.prog 105 = some (.map 75 107) := by kernel_rfl
theorem key87q : Maps.Keyed Tryz.prog 75 := Maps.Keyed.of_law (deep_law_laid (by kernel_rfl) (m := 10) (by decide) (by decide +kernel) (by kernel_rfl) (by kernel_rfl))
/-- A deck, as a key. -/
abbrev dkV (a b c d e f g i : Int) : Value := .agg #[.int .i64 a, .int .i64 b, .int .i64 c, .int .i64 d, .int .i64 e, .int .i64 f, .int .i64 g, .int .i64 i]
theorem dkK {a b c d e f g i : Int} (h : ∀ x ∈ [a, b, c, d, e, f, g, i], -1000000 ≤ x ∧ x ≤ 1000000) : ∃ s, keyOf Tryz.prog 75 (dkV a b c d e f g i) = some s := by
 have hw : ∀ x ∈ [a, b, c, d, e, f, g, i], (Lit.int .i64 x).wf = true := fun x hx => wf_i64 (by
  have := h x hx
  simp only [InR_i64]; omega)
 have hsz : Tryz.prog.types.size + 1 = (Tryz.prog.types.size - 4) + 5 := by
  have : 4 ≤ Tryz.prog.types.size := by decide +kernel
  omega
 have hsz2 : (Tryz.prog.fieldsOf 75).toList.length = 3 := by decide +kernel
 have hu : Program.underlying Tryz.prog 75 = some (.struct (Tryz.prog.fieldsOf 75)) := by kernel_rfl
 obtain ⟨f0, e0⟩ : ∃ f0, f0 = (Tryz.prog.fieldsOf 75).toList[0]'(by rw [hsz2]; decide) := ⟨_, rfl⟩
 obtain ⟨f1, e1⟩ : ∃ f1, f1 = (Tryz.prog.fieldsOf 75).toList[1]'(by rw [hsz2]; decide) := ⟨_, rfl⟩
 obtain ⟨f2, e2⟩ : ∃ f2, f2 = (Tryz.prog.fieldsOf 75).toList[2]'(by rw [hsz2]; decide) := ⟨_, rfl⟩
 have hf : (Tryz.prog.fieldsOf 75).toList = [f0, f1, f2] := by
  rw [e0, e1, e2]
  generalize (Tryz.prog.fieldsOf 75).toList = L at hsz2 ⊢
  match L, hsz2 with
  | [x, y, z], _ => rfl
 have hn : f0.name ≠ "_" ∧ f1.name ≠ "_" ∧ f2.name ≠ "_" := by
  have h : (Tryz.prog.fieldsOf 75).toList.map (fun f => decide (f.name ≠ "_")) = [true, true, true] := by decide +kernel
  rw [hf] at h
  simpa using h
 have t0 : f0.type = 3 := by rw [e0]; kernel_rfl
 have t1 : f1.type = 73 := by rw [e1]; kernel_rfl
 have t2 : f2.type = 3 := by rw [e2]; kernel_rfl
 have o0 : f0.offset = 0 := by rw [e0]; kernel_rfl
 have o1 : f1.offset = 1 := by rw [e1]; kernel_rfl
 have o2 : f2.offset = 7 := by rw [e2]; kernel_rfl
 have k0 : Tryz.prog.keyLits (Tryz.prog.types.size - 4 + 4) f0.type [.int .i64 a] = some [.int .i64 a] := by
  rw [t0]; exact kl_int (by kernel_rfl) (hw _ (by simp))
 have k2 : Tryz.prog.keyLits (Tryz.prog.types.size - 4 + 4) f2.type [.int .i64 i] = some [.int .i64 i] := by
  rw [t2]; exact kl_int (by kernel_rfl) (hw _ (by simp))
 have hm : ∀ x y : Int, (Lit.int .i64 x).wf = true → (Lit.int .i64 y).wf = true → Tryz.prog.keyLits (Tryz.prog.types.size - 4 + 3) 72 ([x, y].map (Value.int .i64)) = some ([x, y].map (Lit.int .i64)) := fun x y hx hy =>
  (keyJ_spec (P := Tryz.prog) 3 72 2 (by kernel_rfl)).2 _ (by omega) [x, y] rfl (by
   intro z hz
   rcases List.mem_cons.1 hz with rfl | hz
   ·exact hx
   ·rw [List.mem_singleton] at hz; subst hz; exact hy)
 have k1 : Tryz.prog.keyLits (Tryz.prog.types.size - 4 + 4) f1.type [.int .i64 b, .int .i64 c, .int .i64 d, .int .i64 e, .int .i64 f, .int .i64 g] = some [.int .i64 b, .int .i64 c, .int .i64 d, .int .i64 e, .int .i64 f, .int .i64 g] := by
  rw [t1]
  exact kl_arr3s (c := 2) (e := 72) (l0 := [b, c]) (l1 := [d, e]) (l2 := [f, g]) (by kernel_rfl) (by kernel_rfl) (by kernel_rfl) rfl rfl rfl (hm _ _ (hw _ (by simp)) (hw _ (by simp))) (hm _ _ (hw _ (by simp)) (hw _ (by simp))) (hm _ _ (hw _ (by simp)) (hw _ (by simp)))
 have hk := kl_three hu hf hn (r := [.int .i64 b, .int .i64 c, .int .i64 d, .int .i64 e, .int .i64 f, .int .i64 g]) (by kernel_rfl) ⟨o0, by rw [t0]; kernel_rfl⟩ ⟨o1, by rw [t1]; kernel_rfl⟩ ⟨o2, by rw [t2]; kernel_rfl⟩ k0 k1 k2
 unfold keyOf
 rw [hu]
 have hg : (Tryz.prog.keyType 75 && (dkV a b c d e f g i).formed Tryz.prog 75) = true := by kernel_rfl
 simp only [hg, if_true, hsz, Value.cells, List.toList_toArray]
 have hk' : Tryz.prog.keyLits (Tryz.prog.types.size - 4 + 5) 75 [.int .i64 a, .int .i64 b, .int .i64 c, .int .i64 d, .int .i64 e, .int .i64 f, .int .i64 g, .int .i64 i] = some _ := hk
 rw [hk']
 exact ⟨_, rfl⟩
/-- What is known of a deck. -/
abbrev knV (o : Option Int) : Value := .agg #[.int .i64 (o.getD 0), .bool o.isSome]
abbrev knA (o : Option Int) : AV := .tuple [i64 (o.getD 0), boo o.isSome]
/-- A plan so far, as a key. -/
abbrev dkP (p : Pu) (l : List Int) : Value := dkV (l.length : Int) (menV p l l.length 0).1 (menV p l l.length 0).2 (menV p l l.length 1).1 (menV p l l.length 1).2 (menV p l l.length 2).1 (menV p l l.length 2).2 (watV p l false l.length)
/-- A plan so far, as it is looked at. -/
structure FirstL (p : Pu) (u : Nat) (l : List Int) : Prop where
 len : l.length ≤ u
 at_ : ∀ i, i < l.length → -1 ≤ l.getD i (-1) ∧ l.getD i (-1) < p.ws.length
def memT (p : Pu) (u S : Nat) : Value → Value → Prop := fun k v => ∃ l, FirstL p u l ∧ k = dkP p l ∧ v = knV (leastB p S (u - l.length) l)
theorem dkP_inj {p : Pu} {l l' : List Int} (h : dkP p l = dkP p l') : dkI p l = dkI p l' := by
 simp only [Value.agg.injEq, Array.mk.injEq, List.cons.injEq, Value.int.injEq, true_and, and_true] at h
 obtain ⟨h1, h2, h3, h4, h5, h6, h7, h8⟩ := h
 unfold dkI
 rw [h1, h2, h3, h4, h5, h6, h7, h8]
theorem FirstL.snoc {p : Pu} {u : Nat} {l : List Int} (h : FirstL p u l) {w : Int} (hu : l.length < u) (hw : -1 ≤ w ∧ w < p.ws.length) : FirstL p u (l ++ [w]) := by
 refine ⟨by rw [List.length_append, List.length_singleton]; omega, fun i hi => ?_⟩
 rw [List.length_append, List.length_singleton] at hi
 by_cases e : i = l.length
 ·subst e; rw [getD_app_len]; exact hw
 ·rw [getD_app l [w] (by omega)]; exact h.at_ i (by omega)
end Go.Proofs.YtkcgocmjaggdiaaGreat
end
section
set_option linter.unusedVariables false
set_option linter.unusedSimpArgs false
set_option maxHeartbeats 4000000
set_option maxRecDepth 100000
namespace Go.Proofs.YtkcgocmjaggdiaaGreat
open Go.V Wl
-- tri_v0 (fun _ => false) Tryz.func25 (by kernel_rfl) rfl (by simp only [List.length_append, List.length_cons, List.length_nil, Tryz.ntmps25]; decide) ?_
theorem ans25 : AnsOk Tryz.prog 25 ⟨101, false⟩ := by
 have hn : (1 : Nat) ≤ Tryz.f25.ntmps := by rw [Tryz.ntmps25]; decide
 refine ⟨fun H id f S vs ho hH ha => ?_, fun H id f c S vs ho hH ha => ?_, fun vs w => by kernel_rfl⟩
 ·refine (ansD (args := [.ref id 0 1 0 0]) (t5 := 5) (t2 := 2) (Q := fun H' => H' = H) (u' := .returning) (rv := .lit .nilIface) (cv := .nilIface) Tryz.func25 rfl rfl hn (fun c₀ cs hu => .inr ⟨by simp [recoverD, hu], rfl, rfl⟩) hH ha (.lit _) ?_ (by rw [Tryz.ntmps25]; decide) (by rw [Tryz.ntmps25]; decide)).mono ?_
  ·refine wps_of_vs (m := fun _ => false) ?_
   simp only [vsAll, binA, binLitA, nilA2, isConst, opA, dstOk, Nat.reduceLT, ↓reduceIte, reduceCtorEq, eq_self, wtAll, Tryz.ntmps25]
  ·rintro e u w ⟨h1, h2, S', H', h3, h4, h5, rfl⟩
   exact ⟨h1, h2, S', h3, h4, h5⟩
 ·refine (ansD (args := [.ref id 0 1 0 0]) (t5 := 5) (t2 := 2) (Q := fun H' => H' = H.set id (.box 1 1 fun _ => [i64 c])) (u' := .panicking [{ v := Go.V.refusal ⟨101, false⟩ c, recovered := true }]) (rv := .iface 101 (i64 c)) (cv := Go.V.refusal ⟨101, false⟩ c) Tryz.func25 rfl rfl hn (fun c₀ cs hu => .inl (by simp [recoverD, hu])) hH ha (.iface (.lit _)) ?_ (by rw [Tryz.ntmps25]; decide) (by rw [Tryz.ntmps25]; decide)).mono ?_
  ·refine wps_of_vs (m := fun _ => false) ?_
   obtain ⟨bb, cc, e, q1, q2, q3, q4⟩ := hH.obj id _ ho
   have q5 := q4.2.1 0 (by omega)
   simp only [vsAll, binA, nilA2, unA, extractA, nilCheckA, cellA, cellsA, opA, newCells, okCells, storeObj, taA, dstOk, nilSliceOp, argFr, Nat.reduceAdd, Nat.reduceLT, Nat.reduceEqDiff, ↓reduceIte, reduceCtorEq, eq_self, wtAll, Tryz.ntmps25, ho]
   have : (f 0).drop 1 = [] := List.drop_eq_nil_of_le (by omega)
   rw [this]
  ·rintro e u w ⟨h1, h2, S', H', h3, h4, h5, rfl⟩
   exact ⟨h1, h2, S', h3, h4, h5⟩
/-- What is asked of a plan. -/
abbrev isPF (p : Pu) (l : List Int) : AV := .func (.func 66) [] [.rptr 1 1 (fun _ => [intsAV l]) 0 0, pptr p]
theorem isPlan_tri (p : Pu) (l : List Int) (H : Hp) : PTri Tryz.prog (fnA 45) [p.av, intsAV l] H (isPF p l) := by
 refine tri_v0 (fun _ => false) Tryz.func45 (by kernel_rfl) rfl (by simp only [List.length_append, List.length_cons, List.length_nil, Tryz.ntmps45]; decide) ?_
 simp only [vsAll, boxA, boxZ, cellA, okAll, stAll, opsA, opA, dstOk, nilSliceOp, resA, argFr, retA.eq_1, Nat.reduceAdd, Nat.reduceLT, Nat.reduceEqDiff, ↓reduceIte, eq_self, wtAll, Tryz.ntmps45, Tryz.results45]
theorem isPlan1_tri (p : Pu) (l : List Int) (H : Hp) (k : Ok p) (hll : l.length ≤ 41) : PTri Tryz.prog (isPF p l) [] H (boo (planB p l)) := by
 have nW := k.nW
 refine tri_v0 (fun _ => false) Tryz.func66 (by kernel_rfl) rfl (by simp only [List.length_append, List.length_cons, List.length_nil, Tryz.ntmps66]; decide) ?_
 simp only [vsAll, loadA, loadRow, partA, partOk, lenA, opA, dstOk, nilSliceOp, argFr, Nat.reduceLT, Int.reduceNeg, ↓reduceIte, reduceCtorEq, eq_self, wtAll, Tryz.ntmps66]
 refine vs_loop (σ := Nat) (fun i => i ≤ l.length ∧ ∀ j, j < i → isW p (l.getD j 0) = true) (fun i => [(0, .rptr 1 1 (fun _ => [intsAV l]) 0 0), (1, pptr p), (5, intsAV l), (6, i64 l.length), (7, i64 i)]) (fun _ => H) (fun i => l.length - i) 0 ⟨Nat.zero_le _, fun j hj => absurd hj (by omega)⟩ ?_ (HSub.refl _) fun i hi => ?_
 ·simp only [vsAll, argFr, Nat.reduceEqDiff, ↓reduceIte, reduceCtorEq, eq_self, Int.natCast_zero]
 ·obtain ⟨hi, hall⟩ := hi
  simp only [vsAll, binA, binLitA, intA, opA, dstOk, Nat.reduceLT, Nat.reduceEqDiff, Int.reduceNeg, ↓reduceIte, reduceCtorEq, eq_self]
  refine condD (fun hd => ?_) (fun hd => ?_)
  ·have hio : i < l.length := by omega
   simp only [vsAll, binA, binLitA, intA, loadA, loadRow, partA, partOk, fieldAddrA, indexAddrA, lenA, okAll, stAll, opsA, opA, dstOk, nilSliceOp, Nat.reduceLT, Nat.reduceEqDiff, Int.reduceNeg, ↓reduceIte, reduceCtorEq, eq_self, wtAll, intF_at]
   refine ⟨⟨by omega, by omega⟩, hio, by simp only [InR_i64]; omega, callK_pure (pin_tri _ _ _ _) ?_⟩
   have ei : (decide (-1 ≤ l.getD i 0) && decide (l.getD i 0 ≤ (p.ws.length : Int) - 1)) = isW p (l.getD i 0) := rfl
   rw [ei]
   simp only [vsAll, unA, opA, dstOk, Nat.reduceLT, Int.reduceNeg, ↓reduceIte, eq_self]
   refine condV (fun hc => ?_) (fun hc => ?_)
   ·have e : planB p l = false := by
     rw [planB, Bool.and_eq_false_iff]
     refine .inl (Bool.eq_false_iff.2 fun h => ?_)
     rw [List.all_eq_true] at h
     have := h _ (mem_getD l i 0 hio)
     rw [this] at hc
     cases hc
    simp only [vsAll, opA, dstOk, nilSliceOp, resA, retA.eq_1, Nat.reduceLT, ↓reduceIte, eq_self, Tryz.results66, e]
   ·simp only [vsAll, binA, binLitA, intA, opA, dstOk, Nat.reduceLT, Nat.reduceEqDiff, ↓reduceIte, reduceCtorEq, eq_self]
    have hc : isW p (l.getD i 0) = true := by simpa using hc
    refine ⟨by simp only [InR_i64]; omega, loop_next (i + 1) ⟨by omega, fun j hj => ?_⟩ (by omega) ?_ HSub_rfl⟩
    ·rcases Nat.lt_succ_iff_lt_or_eq.1 hj with h | rfl
     ·exact hall j h
     ·exact hc
    ·simp only [vsAll, Nat.reduceEqDiff, ↓reduceIte, reduceCtorEq, eq_self, Int.natCast_add, Int.natCast_one]
  ·have e : i = l.length := by omega
   subst e
   simp only [vsAll, binA, binLitA, intA, loadA, loadRow, partA, partOk, fieldAddrA, lenA, opA, dstOk, nilSliceOp, resA, retA.eq_1, Nat.reduceLT, Nat.reduceEqDiff, Int.reduceNeg, ↓reduceIte, reduceCtorEq, eq_self, wtAll, Tryz.results66]
   have e : planB p l = decide ((l.length : Int) = p.fl.length) := by
    have h : l.all (isW p) = true := by
     rw [List.all_eq_true]
     intro x hx
     obtain ⟨j, hj, rfl⟩ := getD_mem 0 hx
     exact hall j hj
    rw [planB, h, Bool.true_and]
    exact decide_eq_decide.2 (by omega)
   simp only [eq_self, e]
/-- What is asked of an hour of a plan. -/
abbrev outF (p : Pu) (l : List Int) (h : Int) : AV := .func (.func 48) [] [pptr p, .rptr 1 1 (fun _ => [intsAV l]) 0 0, .rptr 1 1 (fun _ => [i64 h]) 0 0]
theorem out1_tri (p : Pu) (l : List Int) (h : Int) (H : Hp) (k : Ok p) (hll : l.length ≤ 41) : PTri Tryz.prog (outF p l h) [] H (boo (planB p l && (decide (0 ≤ h) && decide (h ≤ (p.fl.length : Int) - 1)))) := by
 have nF := k.nF
 refine tri_v0 (fun _ => false) Tryz.func48 (by kernel_rfl) rfl (by simp only [List.length_append, List.length_cons, List.length_nil, Tryz.ntmps48]; decide) ?_
 simp only [vsAll, loadA, loadRow, partA, partOk, okAll, stAll, opsA, opA, dstOk, nilSliceOp, argFr, Nat.reduceLT, Nat.reduceEqDiff, ↓reduceIte, reduceCtorEq, eq_self, wtAll, Tryz.ntmps48]
 refine callK_pure (isPlan_tri p l _) ?_
 simp only [vsAll, okAll, stAll, opsA, opA, dstOk, Nat.reduceLT, ↓reduceIte, eq_self]
 refine callK_pure (isPlan1_tri p l _ k hll) ?_
 simp only [vsAll, binA, binLitA, intA, loadA, loadRow, partA, partOk, lenA, opA, guardV, dstOk, argFr, Nat.reduceLT, Nat.reduceEqDiff, ↓reduceIte, implies_true, eq_self, wtAll]
 by_cases hp : planB p l = true
 case neg =>
  rw [Bool.not_eq_true] at hp
  simp only [vsAll, hp]
  refine gcall (boo true) (fun g => by cases g) ?_
  simp only [vsAll, pickA, opA, dstOk, nilSliceOp, resA, retA.eq_1, Nat.reduceLT, Nat.reduceEqDiff, ↓reduceIte, eq_self, Tryz.results48]
 have hl := (planB_iff.1 hp).1
 simp only [vsAll, forall_const, eq_self, hp, hl]
 refine ⟨by simp only [InR_i64]; omega, gcall _ (fun g => ⟨by simp only [vsAll, opA], by simp only [vsAll, okAll, opsA, opA, Nat.reduceEqDiff, ↓reduceIte, eq_self], pin_tri h 0 _ _⟩) ?_⟩
 simp only [vsAll, pickA, opA, dstOk, nilSliceOp, resA, retA.eq_1, Nat.reduceLT, Nat.reduceEqDiff, ↓reduceIte, implies_true, eq_self, Tryz.results48]
end Go.Proofs.YtkcgocmjaggdiaaGreat
end
section
set_option linter.unusedVariables false
set_option linter.unusedSimpArgs false
set_option maxHeartbeats 4000000
set_option maxRecDepth 100000
namespace Go.Proofs.YtkcgocmjaggdiaaGreat
open Go.V Wl
theorem addS_ends (acc : List (Int × Int)) (a : Int) : 0 < (addS acc a).length ∧ ((addS acc a).getD ((addS acc a).length - 1) (0, 0)).2 = a ∧ (acc = [] → ((addS acc a).getD 0 (0, 0)).1 = a) ∧ (0 < acc.length → ((addS acc a).getD 0 (0, 0)).1 = (acc.getD 0 (0, 0)).1) := by
 rcases List.eq_nil_or_concat acc with rfl | ⟨r, q, rfl⟩
 ·simp [addS]
 ·rw [List.concat_eq_append]
  unfold addS
  rw [List.getLast?_append]
  simp only [List.getLast?_singleton, Option.some_or]
  split
  ·rw [List.dropLast_concat]
   refine ⟨by simp, by simp, fun h => by simp at h, fun _ => ?_⟩
   cases r <;> simp
  ·refine ⟨by simp, by simp, fun h => by simp at h, fun _ => ?_⟩
   cases r <;> simp
theorem spansL_ends (l : List Nat) (h : 0 < l.length) : 0 < (spansL l).length ∧ ((spansL l).getD 0 (0, 0)).1 = (l.getD 0 0 : Nat) ∧ ((spansL l).getD ((spansL l).length - 1) (0, 0)).2 = (l.getD (l.length - 1) 0 : Nat) := by
 have key : ∀ (n : Nat) (r : List Nat), r.length = n → (0 < r.length → 0 < (spansL r).length ∧ ((spansL r).getD 0 (0, 0)).1 = (r.getD 0 0 : Nat)) := by
  intro n
  induction n with
  | zero => intro r e h; omega
  | succ n ih =>
    intro r' e h
    rcases List.eq_nil_or_concat r' with rfl | ⟨r, a, rfl⟩
    ·cases h
    rw [List.concat_eq_append] at e ⊢
    rw [List.length_append, List.length_singleton] at e
    have ih := ih r (by omega)
    rw [spansL_snoc]
    obtain ⟨h1, h2, h3, h4⟩ := addS_ends (spansL r) a
    refine ⟨h1, ?_⟩
    rcases Nat.eq_zero_or_pos r.length with e | e
    ·have e : r = [] := List.eq_nil_of_length_eq_zero e
     subst e
     exact h3 rfl
    ·obtain ⟨g1, g2⟩ := ih e
     rw [h4 g1, g2]
     cases r with
     | nil => cases e
     | cons x r => rfl
 refine ⟨(key _ l rfl h).1, (key _ l rfl h).2, ?_⟩
 rcases List.eq_nil_or_concat l with rfl | ⟨r, q, rfl⟩
 ·cases h
 ·rw [List.concat_eq_append, spansL_snoc, (addS_ends (spansL r) q).2.1]
  simp
/-- What open says. -/
def openR (p : Pu) (v : Bool) (H : Hp) : Res → Hp → Prop := fun r H' =>
 if errE p v = 0 then ∃ id, H id = none ∧ r = .ret (.ref id 0 9 0 0) ∧ H' = H.set id (.box 9 1 fun _ => pmC p false 0) else r = .pan (.iface 101 (i64 (errE p v))) ∧ H' = H
theorem open_tri (p : Pu) (fv : AV) (v : Bool) (H : Hp) (kn : Near p) (hfv : fv.ok) (hst : fv.st = fv)
 (hq : Ok p → ∀ (H' : Hp), PTri Tryz.prog fv [] H' (boo v)) : Tri Tryz.prog (fnA 26) [p.av, fv] H (openR p v H) := by
 have nF := kn.nF
 have nW := kn.nW
 refine tri_vs (m := mset [93]) Tryz.func26 (by kernel_rfl) rfl (by simp only [List.length_append, List.length_cons, List.length_nil, Tryz.ntmps26]; decide) ?_
 have no : ∀ {r}, ¬ Ok p → r = .pan (.iface 101 (i64 1)) → openR p v H r H := fun hno e => by
  unfold openR
  rw [errE_no hno, if_neg (by decide)]
  exact ⟨e, rfl⟩
 simp only [vsAll, loadA, loadRow, partA, partOk, fieldAddrA, boxA, boxZ, okAll, stAll, opsA, opA, dstOk, nilSliceOp, argFr, Nat.reduceAdd, Nat.reduceLT, Nat.reduceEqDiff, Nat.reduceBEq, ↓reduceIte, eq_self, wtAll, Tryz.ntmps26]
 refine callK_pure (wwater_tri p.ho _ kn.ho) ?_
 simp only [vsAll, binA, binLitA, intA, loadA, loadRow, partA, partOk, fieldAddrA, extractA, lenA, pickA, opA, guardV, dstOk, nilSliceOp, Nat.reduceAdd, Nat.reduceLT, Nat.reduceEqDiff, Nat.reduceBEq, ↓reduceIte, implies_true, eq_self, wtAll]
 have ew : waterE p.ho = 1 ↔ ¬ HOk p.ho := by
  unfold waterE Wl.errE
  constructor
  ·intro h hk
   rw [if_pos hk, if_pos rfl] at h
   split at h <;> omega
  ·intro h
   rw [if_neg h]
 refine gcall _ (fun g => ⟨by simp only [vsAll, opA], by simp only [vsAll, okAll, opsA, opA, ↓reduceIte, eq_self, g], pin_tri p.ca 0 100 _⟩) ?_
 simp only [vsAll, binA, binLitA, intA, loadA, loadRow, partA, partOk, fieldAddrA, lenA, pickA, okAll, stAll, opsA, opA, guardV, dstOk, Nat.reduceLT, Nat.reduceEqDiff, ↓reduceIte, implies_true, eq_self, wtAll]
 refine pask_call (fun hc => ?_) (fun hc => ?_)
 case refine_2 =>
  have hno : ¬ Ok p := fun k => by
   have h1 := k.ho; have h2 := k.nF; have h3 := k.ca; have h4 := k.nW
   have h5 : ¬ waterE p.ho = 1 := fun e => ew.1 e h1
   simp only [Bool.and_eq_false_iff, decide_eq_false_iff_not, Bool.not_eq_false', decide_eq_true_eq] at hc
   omega
  simp only [vsAll, eq_self]
  exact ⟨H, HSub_rfl, no hno rfl⟩
 have hc' : HOk p.ho ∧ p.fl.length ≤ 8 ∧ (0 ≤ p.ca ∧ p.ca ≤ 100) ∧ p.ws.length ≤ 3 := by
  simp only [Bool.and_eq_true, decide_eq_true_eq, Bool.not_eq_true', decide_eq_false_iff_not] at hc
  obtain ⟨⟨⟨h1, h2⟩, h3⟩, h4⟩ := hc
  exact ⟨Classical.byContradiction fun h => h1 (ew.2 h), by omega, h3, by omega⟩
 simp only [vsAll, loadA, loadRow, partA, partOk, fieldAddrA, lenA, opA, dstOk, Nat.reduceLT, Nat.reduceEqDiff, ↓reduceIte, eq_self, wtAll]
 refine vs_loop (σ := Nat) (fun i => i ≤ p.fl.length ∧ ∀ j, j < i → okF (p.fl.getD j (0, 0))) (fun i => [(1, fv), (2, pptr p), (5, spansAV (waterV p.ho)), (6, i64 (waterE p.ho)), (38, spansAV p.fl), (39, i64 p.fl.length), (40, i64 i)]) (fun _ => H) (fun i => p.fl.length - i) 0 ⟨Nat.zero_le _, fun j hj => absurd hj (Nat.not_lt_zero j)⟩ ?_ HSub_rfl fun i hi => ?_
 ·simp only [vsAll, argFr, Nat.reduceEqDiff, ↓reduceIte, eq_self, Int.natCast_zero]
 ·obtain ⟨hi, hall⟩ := hi
  simp only [vsAll, binA, binLitA, intA, opA, dstOk, Nat.reduceLT, Nat.reduceEqDiff, ↓reduceIte, eq_self]
  refine condD (fun hd => ?_) (fun hd => ?_)
  ·have his : i < p.fl.length := by omega
   simp only [vsAll, loadA, loadRow, partA, partOk, indexAddrA, cellA, okAll, stAll, opsA, opA, allocA, newCells, okCells, storeObj, dstOk, Nat.reduceAdd, Nat.reduceLT, Nat.reduceEqDiff, ↓reduceIte, eq_self, wtAll, spanF_at]
   refine ⟨⟨by omega, by omega⟩, his, ?_⟩
   intro i8 hh_i8; (try simp only [Hp.set_none, ite_none] at hh_i8)
   refine callK_pure (pspan_tri _ _ 40 _) ?_
   simp only [vsAll, okAll, stAll, opsA, opA, dstOk, Nat.reduceLT, ↓reduceIte, eq_self]
   refine pask_call (fun hc2 => ?_) (fun hc2 => ?_)
   case refine_2 =>
    have hno : ¬ Ok p := fun k => by
     have := k.f i his
     unfold okF at this
     simp only [Bool.and_eq_false_iff, decide_eq_false_iff_not] at hc2
     ((try clear hh_i8); omega)
    simp only [vsAll, eq_self]
    exact ⟨H, by (repeat (first | exact HSub_rfl | refine HSub_put_eq (by simp only [vsAll, binA, binLitA, intA, aggA, aggV, boolA, nilA2, isConst, unA, loadA, loadRow, partA, partOk, fieldAddrA, indexAddrA, indexA, fieldA, extractA, lenA, nilCheckA, boxA, boxZ, cellA, cellsA, fillA, okParts, buildSliceA, buildMutA, makeSliceA, partIdx, elemsA, lensA, ifaceA, convA, mmA, pickA, okAll, stAll, opsA, partsA, partsOk, opA, allocA, boxMutA, newCells, okCells, storeObj, appendA, guardV, taA, nM, mapUpA, lookA, sliceA, sliceM, sliceS, boundsA, opO, okO, copyA, dstOk, nilA, quietOk, nilSliceOp, deferV, panA, resA, argFr, retA.eq_1, retA.eq_2, Nat.reduceAdd, Nat.reduceSub, Nat.reduceMul, Nat.reduceLT, Nat.reduceLeDiff, Nat.reduceEqDiff, Nat.reduceBEq, Int.reduceAdd, Int.reduceSub, Int.reduceMul, Int.reduceNeg, Int.reduceLE, Int.reduceLT, Int.reduceEq, Int.reduceNe, Int.reduceToNat, ↓reduceIte, reduceCtorEq, implies_true, forall_const, eq_self, ne_eq, wtAll, Tryz.ntmps26, Tryz.results26, hh_i8]) ?_ | refine HSub_drop2 (by simp only [eq_self, hh_i8]) ?_ | refine HSub_keep_eq (by simp only [vsAll, binA, binLitA, intA, aggA, aggV, boolA, nilA2, isConst, unA, loadA, loadRow, partA, partOk, fieldAddrA, indexAddrA, indexA, fieldA, extractA, lenA, nilCheckA, boxA, boxZ, cellA, cellsA, fillA, okParts, buildSliceA, buildMutA, makeSliceA, partIdx, elemsA, lensA, ifaceA, convA, mmA, pickA, okAll, stAll, opsA, partsA, partsOk, opA, allocA, boxMutA, newCells, okCells, storeObj, appendA, guardV, taA, nM, mapUpA, lookA, sliceA, sliceM, sliceS, boundsA, opO, okO, copyA, dstOk, nilA, quietOk, nilSliceOp, deferV, panA, resA, argFr, retA.eq_1, retA.eq_2, Nat.reduceAdd, Nat.reduceSub, Nat.reduceMul, Nat.reduceLT, Nat.reduceLeDiff, Nat.reduceEqDiff, Nat.reduceBEq, Int.reduceAdd, Int.reduceSub, Int.reduceMul, Int.reduceNeg, Int.reduceLE, Int.reduceLT, Int.reduceEq, Int.reduceNe, Int.reduceToNat, ↓reduceIte, reduceCtorEq, implies_true, forall_const, eq_self, ne_eq, wtAll, Tryz.ntmps26, Tryz.results26, hh_i8]) ?_)), no hno rfl⟩
   simp only [vsAll, binA, binLitA, intA, opA, dstOk, Nat.reduceLT, Nat.reduceEqDiff, ↓reduceIte, eq_self]
   refine ⟨by simp only [InR_i64]; ((try clear hh_i8); omega), loop_next (i + 1) ⟨by ((try clear hh_i8); omega), fun j hj => ?_⟩ (by ((try clear hh_i8); omega)) ?_ (by (repeat (first | exact HSub_rfl | refine HSub_put_eq (by simp only [vsAll, binA, binLitA, intA, aggA, aggV, boolA, nilA2, isConst, unA, loadA, loadRow, partA, partOk, fieldAddrA, indexAddrA, indexA, fieldA, extractA, lenA, nilCheckA, boxA, boxZ, cellA, cellsA, fillA, okParts, buildSliceA, buildMutA, makeSliceA, partIdx, elemsA, lensA, ifaceA, convA, mmA, pickA, okAll, stAll, opsA, partsA, partsOk, opA, allocA, boxMutA, newCells, okCells, storeObj, appendA, guardV, taA, nM, mapUpA, lookA, sliceA, sliceM, sliceS, boundsA, opO, okO, copyA, dstOk, nilA, quietOk, nilSliceOp, deferV, panA, resA, argFr, retA.eq_1, retA.eq_2, Nat.reduceAdd, Nat.reduceSub, Nat.reduceMul, Nat.reduceLT, Nat.reduceLeDiff, Nat.reduceEqDiff, Nat.reduceBEq, Int.reduceAdd, Int.reduceSub, Int.reduceMul, Int.reduceNeg, Int.reduceLE, Int.reduceLT, Int.reduceEq, Int.reduceNe, Int.reduceToNat, ↓reduceIte, reduceCtorEq, implies_true, forall_const, eq_self, ne_eq, wtAll, Tryz.ntmps26, Tryz.results26, hh_i8]) ?_ | refine HSub_drop2 (by simp only [eq_self, hh_i8]) ?_ | refine HSub_keep_eq (by simp only [vsAll, binA, binLitA, intA, aggA, aggV, boolA, nilA2, isConst, unA, loadA, loadRow, partA, partOk, fieldAddrA, indexAddrA, indexA, fieldA, extractA, lenA, nilCheckA, boxA, boxZ, cellA, cellsA, fillA, okParts, buildSliceA, buildMutA, makeSliceA, partIdx, elemsA, lensA, ifaceA, convA, mmA, pickA, okAll, stAll, opsA, partsA, partsOk, opA, allocA, boxMutA, newCells, okCells, storeObj, appendA, guardV, taA, nM, mapUpA, lookA, sliceA, sliceM, sliceS, boundsA, opO, okO, copyA, dstOk, nilA, quietOk, nilSliceOp, deferV, panA, resA, argFr, retA.eq_1, retA.eq_2, Nat.reduceAdd, Nat.reduceSub, Nat.reduceMul, Nat.reduceLT, Nat.reduceLeDiff, Nat.reduceEqDiff, Nat.reduceBEq, Int.reduceAdd, Int.reduceSub, Int.reduceMul, Int.reduceNeg, Int.reduceLE, Int.reduceLT, Int.reduceEq, Int.reduceNe, Int.reduceToNat, ↓reduceIte, reduceCtorEq, implies_true, forall_const, eq_self, ne_eq, wtAll, Tryz.ntmps26, Tryz.results26, hh_i8]) ?_)))⟩
   ·by_cases e : j = i
    ·subst e
     unfold okF
     simp only [Bool.and_eq_true, decide_eq_true_eq] at hc2
     ((try clear hh_i8); omega)
    ·exact hall j (by ((try clear hh_i8); omega))
   ·simp only [vsAll, Nat.reduceEqDiff, ↓reduceIte, eq_self, Int.natCast_add, Int.natCast_one]
  ·have ei : i = p.fl.length := by omega
   subst ei
   simp only [vsAll, loadA, loadRow, partA, partOk, fieldAddrA, lenA, opA, dstOk, Nat.reduceLT, Nat.reduceEqDiff, ↓reduceIte, eq_self, wtAll]
   refine vs_loop (σ := Nat) (fun i => i ≤ p.ws.length ∧ ∀ j, j < i → okW (p.ws.getD j wt0)) (fun i => [(1, fv), (2, pptr p), (5, spansAV (waterV p.ho)), (6, i64 (waterE p.ho)), (49, wsAV p.ws), (50, i64 p.ws.length), (51, i64 i)]) (fun _ => H) (fun i => p.ws.length - i) 0 ⟨Nat.zero_le _, fun j hj => absurd hj (Nat.not_lt_zero j)⟩ ?_ HSub_rfl fun i hi => ?_
   ·simp only [vsAll, Nat.reduceEqDiff, ↓reduceIte, eq_self, Int.natCast_zero]
   ·obtain ⟨hi, hallw⟩ := hi
    simp only [vsAll, binA, binLitA, intA, opA, dstOk, Nat.reduceLT, Nat.reduceEqDiff, ↓reduceIte, eq_self]
    refine condD (fun hd2 => ?_) (fun hd2 => ?_)
    ·have his : i < p.ws.length := by omega
     simp only [vsAll, loadA, loadRow, partA, partOk, fieldAddrA, indexAddrA, cellA, okAll, stAll, opsA, opA, allocA, newCells, okCells, storeObj, dstOk, Nat.reduceAdd, Nat.reduceLT, Nat.reduceLeDiff, Nat.reduceEqDiff, ↓reduceIte, eq_self, wtAll, wsF_at]
     refine ⟨⟨by omega, by omega⟩, his, ?_⟩
     intro i10 hh_i10; (try simp only [Hp.set_none, ite_none] at hh_i10)
     refine callK_pure (pspan_tri _ _ 40 _) ?_
     simp only [vsAll, loadA, loadRow, partA, partOk, fieldAddrA, opA, guardV, dstOk, Nat.reduceLT, Nat.reduceEqDiff, ↓reduceIte, implies_true, eq_self, wtAll]
     refine gcall _ (fun g => ⟨by simp only [vsAll, opA], by simp only [vsAll, okAll, opsA, opA, ↓reduceIte, eq_self, g], pin_tri _ 0 20 _⟩) ?_
     simp only [vsAll, loadA, loadRow, partA, partOk, fieldAddrA, pickA, opA, guardV, dstOk, Nat.reduceLT, Nat.reduceEqDiff, ↓reduceIte, implies_true, eq_self, wtAll]
     refine gcall _ (fun g => ⟨by simp only [vsAll, opA], by simp only [vsAll, okAll, opsA, opA, ↓reduceIte, eq_self, g], pin_tri _ 0 4 _⟩) ?_
     simp only [vsAll, pickA, okAll, stAll, opsA, opA, dstOk, Nat.reduceLT, Nat.reduceEqDiff, ↓reduceIte, implies_true, eq_self]
     refine pask_call (fun hc2 => ?_) (fun hc2 => ?_)
     case refine_2 =>
      have hno : ¬ Ok p := fun k => by
       have := k.w i his
       unfold okW at this
       obtain ⟨⟨a1, a2, a3⟩, ⟨a4, a5⟩, a6, a7⟩ := this
       rw [decide_eq_true a1, decide_eq_true a2, decide_eq_true a3, decide_eq_true a4, decide_eq_true a5, decide_eq_true a6, decide_eq_true a7] at hc2
       cases hc2
      simp only [vsAll, eq_self]
      exact ⟨H, by (repeat (first | exact HSub_rfl | refine HSub_put_eq (by simp only [vsAll, binA, binLitA, intA, aggA, aggV, boolA, nilA2, isConst, unA, loadA, loadRow, partA, partOk, fieldAddrA, indexAddrA, indexA, fieldA, extractA, lenA, nilCheckA, boxA, boxZ, cellA, cellsA, fillA, okParts, buildSliceA, buildMutA, makeSliceA, partIdx, elemsA, lensA, ifaceA, convA, mmA, pickA, okAll, stAll, opsA, partsA, partsOk, opA, allocA, boxMutA, newCells, okCells, storeObj, appendA, guardV, taA, nM, mapUpA, lookA, sliceA, sliceM, sliceS, boundsA, opO, okO, copyA, dstOk, nilA, quietOk, nilSliceOp, deferV, panA, resA, argFr, retA.eq_1, retA.eq_2, Nat.reduceAdd, Nat.reduceSub, Nat.reduceMul, Nat.reduceLT, Nat.reduceLeDiff, Nat.reduceEqDiff, Nat.reduceBEq, Int.reduceAdd, Int.reduceSub, Int.reduceMul, Int.reduceNeg, Int.reduceLE, Int.reduceLT, Int.reduceEq, Int.reduceNe, Int.reduceToNat, ↓reduceIte, reduceCtorEq, implies_true, forall_const, eq_self, ne_eq, wtAll, Tryz.ntmps26, Tryz.results26, hh_i10]) ?_ | refine HSub_drop2 (by simp only [eq_self, hh_i10]) ?_ | refine HSub_keep_eq (by simp only [vsAll, binA, binLitA, intA, aggA, aggV, boolA, nilA2, isConst, unA, loadA, loadRow, partA, partOk, fieldAddrA, indexAddrA, indexA, fieldA, extractA, lenA, nilCheckA, boxA, boxZ, cellA, cellsA, fillA, okParts, buildSliceA, buildMutA, makeSliceA, partIdx, elemsA, lensA, ifaceA, convA, mmA, pickA, okAll, stAll, opsA, partsA, partsOk, opA, allocA, boxMutA, newCells, okCells, storeObj, appendA, guardV, taA, nM, mapUpA, lookA, sliceA, sliceM, sliceS, boundsA, opO, okO, copyA, dstOk, nilA, quietOk, nilSliceOp, deferV, panA, resA, argFr, retA.eq_1, retA.eq_2, Nat.reduceAdd, Nat.reduceSub, Nat.reduceMul, Nat.reduceLT, Nat.reduceLeDiff, Nat.reduceEqDiff, Nat.reduceBEq, Int.reduceAdd, Int.reduceSub, Int.reduceMul, Int.reduceNeg, Int.reduceLE, Int.reduceLT, Int.reduceEq, Int.reduceNe, Int.reduceToNat, ↓reduceIte, reduceCtorEq, implies_true, forall_const, eq_self, ne_eq, wtAll, Tryz.ntmps26, Tryz.results26, hh_i10]) ?_)), no hno rfl⟩
     simp only [vsAll, binA, binLitA, intA, opA, dstOk, Nat.reduceLT, Nat.reduceEqDiff, ↓reduceIte, eq_self]
     refine ⟨by simp only [InR_i64]; ((try clear hh_i10); omega), loop_next (i + 1) ⟨by ((try clear hh_i10); omega), fun j hj => ?_⟩ (by ((try clear hh_i10); omega)) ?_ (by (repeat (first | exact HSub_rfl | refine HSub_put_eq (by simp only [vsAll, binA, binLitA, intA, aggA, aggV, boolA, nilA2, isConst, unA, loadA, loadRow, partA, partOk, fieldAddrA, indexAddrA, indexA, fieldA, extractA, lenA, nilCheckA, boxA, boxZ, cellA, cellsA, fillA, okParts, buildSliceA, buildMutA, makeSliceA, partIdx, elemsA, lensA, ifaceA, convA, mmA, pickA, okAll, stAll, opsA, partsA, partsOk, opA, allocA, boxMutA, newCells, okCells, storeObj, appendA, guardV, taA, nM, mapUpA, lookA, sliceA, sliceM, sliceS, boundsA, opO, okO, copyA, dstOk, nilA, quietOk, nilSliceOp, deferV, panA, resA, argFr, retA.eq_1, retA.eq_2, Nat.reduceAdd, Nat.reduceSub, Nat.reduceMul, Nat.reduceLT, Nat.reduceLeDiff, Nat.reduceEqDiff, Nat.reduceBEq, Int.reduceAdd, Int.reduceSub, Int.reduceMul, Int.reduceNeg, Int.reduceLE, Int.reduceLT, Int.reduceEq, Int.reduceNe, Int.reduceToNat, ↓reduceIte, reduceCtorEq, implies_true, forall_const, eq_self, ne_eq, wtAll, Tryz.ntmps26, Tryz.results26, hh_i10]) ?_ | refine HSub_drop2 (by simp only [eq_self, hh_i10]) ?_ | refine HSub_keep_eq (by simp only [vsAll, binA, binLitA, intA, aggA, aggV, boolA, nilA2, isConst, unA, loadA, loadRow, partA, partOk, fieldAddrA, indexAddrA, indexA, fieldA, extractA, lenA, nilCheckA, boxA, boxZ, cellA, cellsA, fillA, okParts, buildSliceA, buildMutA, makeSliceA, partIdx, elemsA, lensA, ifaceA, convA, mmA, pickA, okAll, stAll, opsA, partsA, partsOk, opA, allocA, boxMutA, newCells, okCells, storeObj, appendA, guardV, taA, nM, mapUpA, lookA, sliceA, sliceM, sliceS, boundsA, opO, okO, copyA, dstOk, nilA, quietOk, nilSliceOp, deferV, panA, resA, argFr, retA.eq_1, retA.eq_2, Nat.reduceAdd, Nat.reduceSub, Nat.reduceMul, Nat.reduceLT, Nat.reduceLeDiff, Nat.reduceEqDiff, Nat.reduceBEq, Int.reduceAdd, Int.reduceSub, Int.reduceMul, Int.reduceNeg, Int.reduceLE, Int.reduceLT, Int.reduceEq, Int.reduceNe, Int.reduceToNat, ↓reduceIte, reduceCtorEq, implies_true, forall_const, eq_self, ne_eq, wtAll, Tryz.ntmps26, Tryz.results26, hh_i10]) ?_)))⟩
     ·by_cases e : j = i
      ·subst e
       unfold okW
       simp only [Bool.and_eq_true, decide_eq_true_eq] at hc2
       obtain ⟨⟨⟨⟨a1, a2⟩, a3⟩, a4⟩, a5⟩ := hc2
       exact ⟨⟨a1, a2, a3⟩, a4, a5⟩
      ·exact hallw j (by ((try clear hh_i10); omega))
     ·simp only [vsAll, Nat.reduceEqDiff, ↓reduceIte, eq_self, Int.natCast_add, Int.natCast_one]
    ·have ei : i = p.ws.length := by omega
     have k : Ok p := (ok_iff p).2 ⟨hc', hall, fun j hj => hallw j (by omega)⟩
     subst ei
     simp only [vsAll, okAll, stAll, opsA, opA, dstOk, Nat.reduceLT, Nat.reduceEqDiff, ↓reduceIte, eq_self, hfv, hst]
     refine callK_pure (hq k _) ?_
     simp only [vsAll, okAll, stAll, opsA, opA, dstOk, Nat.reduceLT, ↓reduceIte, eq_self]
     refine pask_call (fun hv => ?_) (fun hv => ?_)
     case refine_2 =>
      subst hv
      simp only [vsAll, eq_self]
      refine ⟨H, by (repeat (first | exact HSub_rfl | refine HSub_put_eq (by simp only [vsAll, binA, binLitA, intA, aggA, aggV, boolA, nilA2, isConst, unA, loadA, loadRow, partA, partOk, fieldAddrA, indexAddrA, indexA, fieldA, extractA, lenA, nilCheckA, boxA, boxZ, cellA, cellsA, fillA, okParts, buildSliceA, buildMutA, makeSliceA, partIdx, elemsA, lensA, ifaceA, convA, mmA, pickA, okAll, stAll, opsA, partsA, partsOk, opA, allocA, boxMutA, newCells, okCells, storeObj, appendA, guardV, taA, nM, mapUpA, lookA, sliceA, sliceM, sliceS, boundsA, opO, okO, copyA, dstOk, nilA, quietOk, nilSliceOp, deferV, panA, resA, argFr, retA.eq_1, retA.eq_2, Nat.reduceAdd, Nat.reduceSub, Nat.reduceMul, Nat.reduceLT, Nat.reduceLeDiff, Nat.reduceEqDiff, Nat.reduceBEq, Int.reduceAdd, Int.reduceSub, Int.reduceMul, Int.reduceNeg, Int.reduceLE, Int.reduceLT, Int.reduceEq, Int.reduceNe, Int.reduceToNat, ↓reduceIte, reduceCtorEq, implies_true, forall_const, eq_self, ne_eq, wtAll, Tryz.ntmps26, Tryz.results26]) ?_ | refine HSub_drop2 (by simp only [vsAll, binA, binLitA, intA, aggA, aggV, boolA, nilA2, isConst, unA, loadA, loadRow, partA, partOk, fieldAddrA, indexAddrA, indexA, fieldA, extractA, lenA, nilCheckA, boxA, boxZ, cellA, cellsA, fillA, okParts, buildSliceA, buildMutA, makeSliceA, partIdx, elemsA, lensA, ifaceA, convA, mmA, pickA, okAll, stAll, opsA, partsA, partsOk, opA, allocA, boxMutA, newCells, okCells, storeObj, appendA, guardV, taA, nM, mapUpA, lookA, sliceA, sliceM, sliceS, boundsA, opO, okO, copyA, dstOk, nilA, quietOk, nilSliceOp, deferV, panA, resA, argFr, retA.eq_1, retA.eq_2, Nat.reduceAdd, Nat.reduceSub, Nat.reduceMul, Nat.reduceLT, Nat.reduceLeDiff, Nat.reduceEqDiff, Nat.reduceBEq, Int.reduceAdd, Int.reduceSub, Int.reduceMul, Int.reduceNeg, Int.reduceLE, Int.reduceLT, Int.reduceEq, Int.reduceNe, Int.reduceToNat, ↓reduceIte, reduceCtorEq, implies_true, forall_const, eq_self, ne_eq, wtAll, Tryz.ntmps26, Tryz.results26]) ?_ | refine HSub_keep_eq (by simp only [vsAll, binA, binLitA, intA, aggA, aggV, boolA, nilA2, isConst, unA, loadA, loadRow, partA, partOk, fieldAddrA, indexAddrA, indexA, fieldA, extractA, lenA, nilCheckA, boxA, boxZ, cellA, cellsA, fillA, okParts, buildSliceA, buildMutA, makeSliceA, partIdx, elemsA, lensA, ifaceA, convA, mmA, pickA, okAll, stAll, opsA, partsA, partsOk, opA, allocA, boxMutA, newCells, okCells, storeObj, appendA, guardV, taA, nM, mapUpA, lookA, sliceA, sliceM, sliceS, boundsA, opO, okO, copyA, dstOk, nilA, quietOk, nilSliceOp, deferV, panA, resA, argFr, retA.eq_1, retA.eq_2, Nat.reduceAdd, Nat.reduceSub, Nat.reduceMul, Nat.reduceLT, Nat.reduceLeDiff, Nat.reduceEqDiff, Nat.reduceBEq, Int.reduceAdd, Int.reduceSub, Int.reduceMul, Int.reduceNeg, Int.reduceLE, Int.reduceLT, Int.reduceEq, Int.reduceNe, Int.reduceToNat, ↓reduceIte, reduceCtorEq, implies_true, forall_const, eq_self, ne_eq, wtAll, Tryz.ntmps26, Tryz.results26]) ?_)), ?_⟩
      unfold openR
      rw [errE_bad k, if_neg (by decide)]
      exact ⟨rfl, rfl⟩
     subst hv
     simp only [vsAll, binA, binLitA, intA, okAll, stAll, opsA, opA, dstOk, Nat.reduceLT, Nat.reduceEqDiff, ↓reduceIte, eq_self]
     have ew2 : waterE p.ho = errE p true := by
      unfold waterE Wl.errE errE
      rw [if_pos hc'.1, if_pos rfl, if_pos k, if_pos rfl]
      have : (True ∧ (allA p.ho).length = 0) = ((allA p.ho).length = 0) := by simp
      simp only [true_and]
     refine pask_call (fun hc2 => ?_) (fun hc2 => ?_)
     case refine_2 =>
      have := of_decide_eq_false hc2
      simp only [vsAll, eq_self]
      refine ⟨H, by (repeat (first | exact HSub_rfl | refine HSub_put_eq (by simp only [vsAll, binA, binLitA, intA, aggA, aggV, boolA, nilA2, isConst, unA, loadA, loadRow, partA, partOk, fieldAddrA, indexAddrA, indexA, fieldA, extractA, lenA, nilCheckA, boxA, boxZ, cellA, cellsA, fillA, okParts, buildSliceA, buildMutA, makeSliceA, partIdx, elemsA, lensA, ifaceA, convA, mmA, pickA, okAll, stAll, opsA, partsA, partsOk, opA, allocA, boxMutA, newCells, okCells, storeObj, appendA, guardV, taA, nM, mapUpA, lookA, sliceA, sliceM, sliceS, boundsA, opO, okO, copyA, dstOk, nilA, quietOk, nilSliceOp, deferV, panA, resA, argFr, retA.eq_1, retA.eq_2, Nat.reduceAdd, Nat.reduceSub, Nat.reduceMul, Nat.reduceLT, Nat.reduceLeDiff, Nat.reduceEqDiff, Nat.reduceBEq, Int.reduceAdd, Int.reduceSub, Int.reduceMul, Int.reduceNeg, Int.reduceLE, Int.reduceLT, Int.reduceEq, Int.reduceNe, Int.reduceToNat, ↓reduceIte, reduceCtorEq, implies_true, forall_const, eq_self, ne_eq, wtAll, Tryz.ntmps26, Tryz.results26]) ?_ | refine HSub_drop2 (by simp only [vsAll, binA, binLitA, intA, aggA, aggV, boolA, nilA2, isConst, unA, loadA, loadRow, partA, partOk, fieldAddrA, indexAddrA, indexA, fieldA, extractA, lenA, nilCheckA, boxA, boxZ, cellA, cellsA, fillA, okParts, buildSliceA, buildMutA, makeSliceA, partIdx, elemsA, lensA, ifaceA, convA, mmA, pickA, okAll, stAll, opsA, partsA, partsOk, opA, allocA, boxMutA, newCells, okCells, storeObj, appendA, guardV, taA, nM, mapUpA, lookA, sliceA, sliceM, sliceS, boundsA, opO, okO, copyA, dstOk, nilA, quietOk, nilSliceOp, deferV, panA, resA, argFr, retA.eq_1, retA.eq_2, Nat.reduceAdd, Nat.reduceSub, Nat.reduceMul, Nat.reduceLT, Nat.reduceLeDiff, Nat.reduceEqDiff, Nat.reduceBEq, Int.reduceAdd, Int.reduceSub, Int.reduceMul, Int.reduceNeg, Int.reduceLE, Int.reduceLT, Int.reduceEq, Int.reduceNe, Int.reduceToNat, ↓reduceIte, reduceCtorEq, implies_true, forall_const, eq_self, ne_eq, wtAll, Tryz.ntmps26, Tryz.results26]) ?_ | refine HSub_keep_eq (by simp only [vsAll, binA, binLitA, intA, aggA, aggV, boolA, nilA2, isConst, unA, loadA, loadRow, partA, partOk, fieldAddrA, indexAddrA, indexA, fieldA, extractA, lenA, nilCheckA, boxA, boxZ, cellA, cellsA, fillA, okParts, buildSliceA, buildMutA, makeSliceA, partIdx, elemsA, lensA, ifaceA, convA, mmA, pickA, okAll, stAll, opsA, partsA, partsOk, opA, allocA, boxMutA, newCells, okCells, storeObj, appendA, guardV, taA, nM, mapUpA, lookA, sliceA, sliceM, sliceS, boundsA, opO, okO, copyA, dstOk, nilA, quietOk, nilSliceOp, deferV, panA, resA, argFr, retA.eq_1, retA.eq_2, Nat.reduceAdd, Nat.reduceSub, Nat.reduceMul, Nat.reduceLT, Nat.reduceLeDiff, Nat.reduceEqDiff, Nat.reduceBEq, Int.reduceAdd, Int.reduceSub, Int.reduceMul, Int.reduceNeg, Int.reduceLE, Int.reduceLT, Int.reduceEq, Int.reduceNe, Int.reduceToNat, ↓reduceIte, reduceCtorEq, implies_true, forall_const, eq_self, ne_eq, wtAll, Tryz.ntmps26, Tryz.results26]) ?_)), ?_⟩
      unfold openR
      rw [← ew2, if_neg this]
      exact ⟨rfl, rfl⟩
     have he := of_decide_eq_true hc2
     have hA : 0 < (allA p.ho).length := (errE_zero (ew2.symm.trans he)).2.2
     obtain ⟨g1, g2, g3⟩ := spansL_ends _ hA
     have ewv : waterV p.ho = spansL (allA p.ho) := if_pos he
     rw [← ewv] at g1 g2 g3
     have g2' : startV p true = ((waterV p.ho).getD 0 (0, 0)).1 := g2.symm
     have hwl : (waterV p.ho).length ≤ 102 := by
      have h1 := spansL_len (allA p.ho)
      have h2 : (allA p.ho).length ≤ 101 := by
       rw [← told_filter]
       exact Nat.le_trans (List.length_filter_le _ _) (by rw [List.length_range]; exact Nat.le_refl _)
      rw [ewv]
      omega
     have g3' : startV p false = ((waterV p.ho).getD ((waterV p.ho).length - 1) (0, 0)).2 := g3.symm
     simp only [vsAll]
     refine vs_draw2 [0, 0, 0, 0, 0, 0, 0, 0, 0, 0, 0, 0, 0, 0, 0, 0, 1, 2] [([0, 1, 2, 3, 4, 5, 6, 7, 8, 9, 10, 11, 12, 13, 14, 15], [], 16)] [17] (by decide +kernel) ?_
     simp only [vsAll, binA, binLitA, intA, loadA, loadRow, partA, partOk, fieldAddrA, indexAddrA, lenA, cellA, cellsA, fillA, okParts, ifaceA, partsA, partsOk, opA, boxMutA, dstOk, Nat.reduceAdd, Nat.reduceLT, Nat.reduceLeDiff, Nat.reduceEqDiff, Nat.reduceBEq, Int.reduceLE, Int.reduceToNat, ↓reduceIte, eq_self, wtAll, spanF_at]
     refine ⟨by omega, g1, by simp only [InR_i64]; omega, ⟨by omega, by omega⟩, by omega, ?_⟩
     have en : (((waterV p.ho).length : Int) - 1).toNat = (waterV p.ho).length - 1 := by omega
     rw [en, ← g2', ← g3']
     intro id hh_id; (try simp only [Hp.set_none, ite_none] at hh_id)
     refine ret0 ?_
     simp only [vsAll, resA, retA.eq_1, ↓reduceIte, eq_self, Tryz.results26]
     refine ⟨_, HSub_rfl, ?_⟩
     unfold openR
     rw [← ew2, if_pos he]
     exact ⟨id, hh_id, rfl, rfl⟩
/-- A call of open. -/
theorem open_call {p : Pu} {fv : AV} {v : Bool} {H : Hp} {K : AV → Hp → Prop} {Kp : AV → Hp → Prop} (ht : Tri Tryz.prog (fnA 26) [p.av, fv] H (openR p v H))
 (h1 : ¬ errE p v = 0 → Kp (.iface 101 (i64 (errE p v))) H) (h2 : Ok p → v = true → 0 < (allA p.ho).length → ∀ id, H id = none → K (.ref id 0 9 0 0) (H.set id (.box 9 1 fun _ => pmC p false 0))) : CallK Tryz.prog (fnA 26) [p.av, fv] H K Kp := by
 refine ⟨_, ht, fun r H' hr => ?_⟩
 unfold openR at hr
 split at hr
 ·rename_i he
  obtain ⟨id, hid, rfl, rfl⟩ := hr
  obtain ⟨k1, k2, k3⟩ := errE_zero he
  exact h2 k1 k2 k3 id hid
 ·rename_i he
  obtain ⟨rfl, rfl⟩ := hr
  exact h1 he
end Go.Proofs.YtkcgocmjaggdiaaGreat
end
section
set_option linter.unusedVariables false
set_option linter.unusedSimpArgs false
set_option maxHeartbeats 4000000
set_option maxRecDepth 100000
namespace Go.Proofs.YtkcgocmjaggdiaaGreat
open Go.V Wl
theorem firstP_of {p : Pu} {l : List Int} (k : Ok p) (h : planB p l = true) : FirstP p l := by
 obtain ⟨h1, h2⟩ := planB_iff.1 h
 exact ⟨by have := k.nF; omega, h2⟩
theorem moreP_zero (p : Pu) : moreP p 0 = p := by
 unfold moreP
 have : (p.fl.map fun x : Int × Int => (x.1 + 0, x.2 + 0)) = p.fl := by
  rw [show (fun x : Int × Int => (x.1 + 0, x.2 + 0)) = id from by funext x; simp]
  exact List.map_id _
 rw [this]
theorem los_tri (p : Pu) (l : List Int) (H : Hp) (kn : Near p) (hl : l.length ≤ 41) : PTri Tryz.prog (fnA 21) [p.av, intsAV l] H (.tuple [i64 (losV p l), i64 (losE p l)]) := by
 refine Tri.drop ?_
 refine tri_am (m := fun _ => false) ans25 Tryz.func21 (by kernel_rfl) rfl (by simp only [List.length_append, List.length_cons, List.length_nil, Tryz.ntmps21]; decide) ?_
 simp only [vsAll, boxA, boxZ, okAll, stAll, opsA, opA, allocA, dstOk, nilSliceOp, argFr, Nat.reduceAdd, Nat.reduceLT, ↓reduceIte, eq_self, wtAll, Tryz.ntmps21]
 intro i5 hh_i5; (try simp only [Hp.set_none, ite_none] at hh_i5)
 refine vs_draw2 [0, 0, 0, 0, 1, 0, 2, 2] [([0, 1, 2, 3, 5], [], 4)] [6, 7] (by decide +kernel) ?_
 simp only [vsAll, loadA, loadRow, partA, partOk, opA, dstOk, argFr, Nat.reduceLT, Nat.reduceEqDiff, ↓reduceIte, eq_self, wtAll]
 refine qcall _ ⟨trivial, by simp only [vsAll, okAll, opsA, opA, Nat.reduceEqDiff, ↓reduceIte, eq_self], isPlan_tri p l _⟩ ?_
 simp only [vsAll, okAll, stAll, opsA, opA, dstOk, argFr, Nat.reduceLT, Nat.reduceEqDiff, ↓reduceIte, eq_self]
 refine open_call (open_tri p _ (planB p l) _ kn trivial rfl (fun k H' => isPlan1_tri p l H' k hl)) (fun he => ?_) (fun k hv hA id hid => ?_)
 ·have e : losE p l = errE p (planB p l) := if_neg he
  have e2 : losV p l = 0 := if_neg (by rw [e]; exact he)
  simp only [vsAll, loadA, loadRow, partA, partOk, resA, retA.eq_2, Nat.reduceEqDiff, ↓reduceIte, eq_self, wtAll, Tryz.results21]
  refine ⟨errE p (planB p l), i5, _, rfl, rfl, by simp only [↓reduceIte, eq_self]; try rfl, ?_⟩
  simp only [vsAll, Nat.reduceLT, ↓reduceIte, eq_self]
  refine dropR_pure ?_ (by (repeat (first | exact HSub_rfl | refine HSub_put_eq (by simp only [vsAll, binA, binLitA, intA, aggA, aggV, boolA, nilA2, isConst, unA, loadA, loadRow, partA, partOk, fieldAddrA, indexAddrA, indexA, fieldA, extractA, lenA, nilCheckA, boxA, boxZ, cellA, cellsA, fillA, okParts, buildSliceA, buildMutA, makeSliceA, partIdx, elemsA, lensA, ifaceA, convA, mmA, pickA, okAll, stAll, opsA, partsA, partsOk, opA, allocA, boxMutA, newCells, okCells, storeObj, appendA, guardV, taA, nM, mapUpA, lookA, sliceA, sliceM, sliceS, boundsA, opO, okO, copyA, dstOk, nilA, quietOk, nilSliceOp, deferV, panA, resA, argFr, retA.eq_1, retA.eq_2, Nat.reduceAdd, Nat.reduceSub, Nat.reduceMul, Nat.reduceLT, Nat.reduceLeDiff, Nat.reduceEqDiff, Nat.reduceBEq, Int.reduceAdd, Int.reduceSub, Int.reduceMul, Int.reduceNeg, Int.reduceLE, Int.reduceLT, Int.reduceEq, Int.reduceNe, Int.reduceToNat, ↓reduceIte, reduceCtorEq, implies_true, forall_const, eq_self, ne_eq, wtAll, Tryz.ntmps21, Tryz.results21, hh_i5]) ?_ | refine HSub_drop2 (by simp only [eq_self, hh_i5]) ?_ | refine HSub_keep_eq (by simp only [vsAll, binA, binLitA, intA, aggA, aggV, boolA, nilA2, isConst, unA, loadA, loadRow, partA, partOk, fieldAddrA, indexAddrA, indexA, fieldA, extractA, lenA, nilCheckA, boxA, boxZ, cellA, cellsA, fillA, okParts, buildSliceA, buildMutA, makeSliceA, partIdx, elemsA, lensA, ifaceA, convA, mmA, pickA, okAll, stAll, opsA, partsA, partsOk, opA, allocA, boxMutA, newCells, okCells, storeObj, appendA, guardV, taA, nM, mapUpA, lookA, sliceA, sliceM, sliceS, boundsA, opO, okO, copyA, dstOk, nilA, quietOk, nilSliceOp, deferV, panA, resA, argFr, retA.eq_1, retA.eq_2, Nat.reduceAdd, Nat.reduceSub, Nat.reduceMul, Nat.reduceLT, Nat.reduceLeDiff, Nat.reduceEqDiff, Nat.reduceBEq, Int.reduceAdd, Int.reduceSub, Int.reduceMul, Int.reduceNeg, Int.reduceLE, Int.reduceLT, Int.reduceEq, Int.reduceNe, Int.reduceToNat, ↓reduceIte, reduceCtorEq, implies_true, forall_const, eq_self, ne_eq, wtAll, Tryz.ntmps21, Tryz.results21, hh_i5]) ?_)))
  simp only [eq_self, e, e2]
 ·have he : playE p l = 0 := by
   show errE p (planB p l) = 0
   rw [hv]; exact errE_ok k (by ((try clear hh_i5); omega))
  have hF := firstP_of k hv
  have hn : l.length ≤ p.fl.length := by have := (planB_iff.1 hv).1; ((try clear hh_i5); omega)
  have hid' := hid
  simp only [Hp.set_none] at hid
  skip
  simp only [vsAll, dstOk, Nat.reduceLT, eq_self]
  refine qcall _ ⟨trivial, by simp only [vsAll, okAll, opsA, opA, Nat.reduceEqDiff, ↓reduceIte, eq_self], lost_tri p l false 0 id _ k hA hF hn (by ((try clear hh_i5); (try clear hid); omega)) (Hp.set_same _ _ _)⟩ ?_
  rw [moreP_zero]
  simp only [vsAll, binA, binLitA, intA, okAll, stAll, opsA, opA, dstOk, Nat.reduceLT, ↓reduceIte, eq_self]
  refine pask_call (fun hc => ?_) (fun hc => ?_)
  ·have hc := of_decide_eq_true hc
   have hs : ¬ safeB p l = true := fun h => by
    have := of_decide_eq_true h
    ((try clear hh_i5); (try clear hid); omega)
   have e : losE p l = 0 := by rw [losE, if_pos he, if_neg hs]
   have ev : losV p l = lostV p.ca (aftL p l false l.length) := if_pos e
   simp only [vsAll, loadA, loadRow, partA, partOk, cellA, cellsA, opA, newCells, okCells, storeObj, dstOk, nilSliceOp, resA, retA.eq_2, Nat.reduceLT, Nat.reduceEqDiff, ↓reduceIte, eq_self, wtAll, Tryz.results21, hid]
   refine ⟨i5, _, rfl, by simp only [↓reduceIte, eq_self]; try rfl, ?_⟩
   refine dropR_pure ?_ (by (repeat (first | exact HSub_rfl | refine HSub_put_eq (by simp only [vsAll, binA, binLitA, intA, aggA, aggV, boolA, nilA2, isConst, unA, loadA, loadRow, partA, partOk, fieldAddrA, indexAddrA, indexA, fieldA, extractA, lenA, nilCheckA, boxA, boxZ, cellA, cellsA, fillA, okParts, buildSliceA, buildMutA, makeSliceA, partIdx, elemsA, lensA, ifaceA, convA, mmA, pickA, okAll, stAll, opsA, partsA, partsOk, opA, allocA, boxMutA, newCells, okCells, storeObj, appendA, guardV, taA, nM, mapUpA, lookA, sliceA, sliceM, sliceS, boundsA, opO, okO, copyA, dstOk, nilA, quietOk, nilSliceOp, deferV, panA, resA, argFr, retA.eq_1, retA.eq_2, Nat.reduceAdd, Nat.reduceSub, Nat.reduceMul, Nat.reduceLT, Nat.reduceLeDiff, Nat.reduceEqDiff, Nat.reduceBEq, Int.reduceAdd, Int.reduceSub, Int.reduceMul, Int.reduceNeg, Int.reduceLE, Int.reduceLT, Int.reduceEq, Int.reduceNe, Int.reduceToNat, ↓reduceIte, reduceCtorEq, implies_true, forall_const, eq_self, ne_eq, wtAll, Tryz.ntmps21, Tryz.results21, hh_i5, hid]) ?_ | refine HSub_drop2 (by simp only [eq_self, hh_i5, hid]) ?_ | refine HSub_keep_eq (by simp only [vsAll, binA, binLitA, intA, aggA, aggV, boolA, nilA2, isConst, unA, loadA, loadRow, partA, partOk, fieldAddrA, indexAddrA, indexA, fieldA, extractA, lenA, nilCheckA, boxA, boxZ, cellA, cellsA, fillA, okParts, buildSliceA, buildMutA, makeSliceA, partIdx, elemsA, lensA, ifaceA, convA, mmA, pickA, okAll, stAll, opsA, partsA, partsOk, opA, allocA, boxMutA, newCells, okCells, storeObj, appendA, guardV, taA, nM, mapUpA, lookA, sliceA, sliceM, sliceS, boundsA, opO, okO, copyA, dstOk, nilA, quietOk, nilSliceOp, deferV, panA, resA, argFr, retA.eq_1, retA.eq_2, Nat.reduceAdd, Nat.reduceSub, Nat.reduceMul, Nat.reduceLT, Nat.reduceLeDiff, Nat.reduceEqDiff, Nat.reduceBEq, Int.reduceAdd, Int.reduceSub, Int.reduceMul, Int.reduceNeg, Int.reduceLE, Int.reduceLT, Int.reduceEq, Int.reduceNe, Int.reduceToNat, ↓reduceIte, reduceCtorEq, implies_true, forall_const, eq_self, ne_eq, wtAll, Tryz.ntmps21, Tryz.results21, hh_i5, hid]) ?_)))
   simp only [eq_self, e, ev]
  ·have hc := of_decide_eq_false hc
   have hs : safeB p l = true := decide_eq_true (by ((try clear hh_i5); (try clear hid); omega))
   have e : losE p l = 4 := by rw [losE, if_pos he, if_pos hs]
   have ev : losV p l = 0 := if_neg (by rw [e]; decide)
   simp only [vsAll, loadA, loadRow, partA, partOk, resA, retA.eq_2, Nat.reduceEqDiff, ↓reduceIte, eq_self, wtAll, Tryz.results21, hid]
   refine ⟨4, i5, _, rfl, rfl, by simp only [↓reduceIte, eq_self, hid]; try rfl, ?_⟩
   simp only [vsAll, Nat.reduceLT, ↓reduceIte, eq_self]
   refine dropR_pure ?_ (by (repeat (first | exact HSub_rfl | refine HSub_put_eq (by simp only [vsAll, binA, binLitA, intA, aggA, aggV, boolA, nilA2, isConst, unA, loadA, loadRow, partA, partOk, fieldAddrA, indexAddrA, indexA, fieldA, extractA, lenA, nilCheckA, boxA, boxZ, cellA, cellsA, fillA, okParts, buildSliceA, buildMutA, makeSliceA, partIdx, elemsA, lensA, ifaceA, convA, mmA, pickA, okAll, stAll, opsA, partsA, partsOk, opA, allocA, boxMutA, newCells, okCells, storeObj, appendA, guardV, taA, nM, mapUpA, lookA, sliceA, sliceM, sliceS, boundsA, opO, okO, copyA, dstOk, nilA, quietOk, nilSliceOp, deferV, panA, resA, argFr, retA.eq_1, retA.eq_2, Nat.reduceAdd, Nat.reduceSub, Nat.reduceMul, Nat.reduceLT, Nat.reduceLeDiff, Nat.reduceEqDiff, Nat.reduceBEq, Int.reduceAdd, Int.reduceSub, Int.reduceMul, Int.reduceNeg, Int.reduceLE, Int.reduceLT, Int.reduceEq, Int.reduceNe, Int.reduceToNat, ↓reduceIte, reduceCtorEq, implies_true, forall_const, eq_self, ne_eq, wtAll, Tryz.ntmps21, Tryz.results21, hh_i5, hid]) ?_ | refine HSub_drop2 (by simp only [eq_self, hh_i5, hid]) ?_ | refine HSub_keep_eq (by simp only [vsAll, binA, binLitA, intA, aggA, aggV, boolA, nilA2, isConst, unA, loadA, loadRow, partA, partOk, fieldAddrA, indexAddrA, indexA, fieldA, extractA, lenA, nilCheckA, boxA, boxZ, cellA, cellsA, fillA, okParts, buildSliceA, buildMutA, makeSliceA, partIdx, elemsA, lensA, ifaceA, convA, mmA, pickA, okAll, stAll, opsA, partsA, partsOk, opA, allocA, boxMutA, newCells, okCells, storeObj, appendA, guardV, taA, nM, mapUpA, lookA, sliceA, sliceM, sliceS, boundsA, opO, okO, copyA, dstOk, nilA, quietOk, nilSliceOp, deferV, panA, resA, argFr, retA.eq_1, retA.eq_2, Nat.reduceAdd, Nat.reduceSub, Nat.reduceMul, Nat.reduceLT, Nat.reduceLeDiff, Nat.reduceEqDiff, Nat.reduceBEq, Int.reduceAdd, Int.reduceSub, Int.reduceMul, Int.reduceNeg, Int.reduceLE, Int.reduceLT, Int.reduceEq, Int.reduceNe, Int.reduceToNat, ↓reduceIte, reduceCtorEq, implies_true, forall_const, eq_self, ne_eq, wtAll, Tryz.ntmps21, Tryz.results21, hh_i5, hid]) ?_)))
   simp only [eq_self, e, ev]
theorem flo_tri (p : Pu) (l : List Int) (H : Hp) (kn : Near p) (hl : l.length ≤ 41) : PTri Tryz.prog (fnA 20) [p.av, intsAV l] H (.tuple [i64 (floV p l), i64 (playE p l)]) := by
 refine Tri.drop ?_
 refine tri_am (m := fun _ => false) ans25 Tryz.func20 (by kernel_rfl) rfl (by simp only [List.length_append, List.length_cons, List.length_nil, Tryz.ntmps20]; decide) ?_
 simp only [vsAll, boxA, boxZ, okAll, stAll, opsA, opA, allocA, dstOk, nilSliceOp, argFr, Nat.reduceAdd, Nat.reduceLT, ↓reduceIte, eq_self, wtAll, Tryz.ntmps20]
 intro i5 hh_i5; (try simp only [Hp.set_none, ite_none] at hh_i5)
 refine vs_draw2 [0, 0, 0, 0, 1, 2] [([0, 1, 2, 3], [], 4)] [5] (by decide +kernel) ?_
 simp only [vsAll, loadA, loadRow, partA, partOk, opA, dstOk, argFr, Nat.reduceLT, Nat.reduceEqDiff, ↓reduceIte, eq_self, wtAll]
 refine qcall _ ⟨trivial, by simp only [vsAll, okAll, opsA, opA, Nat.reduceEqDiff, ↓reduceIte, eq_self], isPlan_tri p l _⟩ ?_
 simp only [vsAll, okAll, stAll, opsA, opA, dstOk, Nat.reduceLT, Nat.reduceEqDiff, ↓reduceIte, eq_self]
 refine open_call (open_tri p _ (planB p l) _ kn trivial rfl (fun k H' => isPlan1_tri p l H' k hl)) (fun he => ?_) (fun k hv hA id hid => ?_)
 ·have e2 : floV p l = 0 := if_neg he
  have e : playE p l = errE p (planB p l) := rfl
  simp only [vsAll, loadA, loadRow, partA, partOk, resA, retA.eq_2, Nat.reduceEqDiff, ↓reduceIte, eq_self, wtAll, Tryz.results20]
  refine ⟨errE p (planB p l), i5, _, rfl, rfl, by simp only [↓reduceIte, eq_self]; try rfl, ?_⟩
  simp only [vsAll, Nat.reduceLT, ↓reduceIte, eq_self]
  refine dropR_pure ?_ (by (repeat (first | exact HSub_rfl | refine HSub_put_eq (by simp only [vsAll, binA, binLitA, intA, aggA, aggV, boolA, nilA2, isConst, unA, loadA, loadRow, partA, partOk, fieldAddrA, indexAddrA, indexA, fieldA, extractA, lenA, nilCheckA, boxA, boxZ, cellA, cellsA, fillA, okParts, buildSliceA, buildMutA, makeSliceA, partIdx, elemsA, lensA, ifaceA, convA, mmA, pickA, okAll, stAll, opsA, partsA, partsOk, opA, allocA, boxMutA, newCells, okCells, storeObj, appendA, guardV, taA, nM, mapUpA, lookA, sliceA, sliceM, sliceS, boundsA, opO, okO, copyA, dstOk, nilA, quietOk, nilSliceOp, deferV, panA, resA, argFr, retA.eq_1, retA.eq_2, Nat.reduceAdd, Nat.reduceSub, Nat.reduceMul, Nat.reduceLT, Nat.reduceLeDiff, Nat.reduceEqDiff, Nat.reduceBEq, Int.reduceAdd, Int.reduceSub, Int.reduceMul, Int.reduceNeg, Int.reduceLE, Int.reduceLT, Int.reduceEq, Int.reduceNe, Int.reduceToNat, ↓reduceIte, reduceCtorEq, implies_true, forall_const, eq_self, ne_eq, wtAll, Tryz.ntmps20, Tryz.results20, hh_i5]) ?_ | refine HSub_drop2 (by simp only [eq_self, hh_i5]) ?_ | refine HSub_keep_eq (by simp only [vsAll, binA, binLitA, intA, aggA, aggV, boolA, nilA2, isConst, unA, loadA, loadRow, partA, partOk, fieldAddrA, indexAddrA, indexA, fieldA, extractA, lenA, nilCheckA, boxA, boxZ, cellA, cellsA, fillA, okParts, buildSliceA, buildMutA, makeSliceA, partIdx, elemsA, lensA, ifaceA, convA, mmA, pickA, okAll, stAll, opsA, partsA, partsOk, opA, allocA, boxMutA, newCells, okCells, storeObj, appendA, guardV, taA, nM, mapUpA, lookA, sliceA, sliceM, sliceS, boundsA, opO, okO, copyA, dstOk, nilA, quietOk, nilSliceOp, deferV, panA, resA, argFr, retA.eq_1, retA.eq_2, Nat.reduceAdd, Nat.reduceSub, Nat.reduceMul, Nat.reduceLT, Nat.reduceLeDiff, Nat.reduceEqDiff, Nat.reduceBEq, Int.reduceAdd, Int.reduceSub, Int.reduceMul, Int.reduceNeg, Int.reduceLE, Int.reduceLT, Int.reduceEq, Int.reduceNe, Int.reduceToNat, ↓reduceIte, reduceCtorEq, implies_true, forall_const, eq_self, ne_eq, wtAll, Tryz.ntmps20, Tryz.results20, hh_i5]) ?_)))
  simp only [eq_self, e, e2]
 ·have he : playE p l = 0 := by
   show errE p (planB p l) = 0
   rw [hv]; exact errE_ok k (by ((try clear hh_i5); omega))
  have hF := firstP_of k hv
  have hn : l.length ≤ p.fl.length := by have := (planB_iff.1 hv).1; ((try clear hh_i5); omega)
  have hid' := hid
  simp only [Hp.set_none] at hid
  skip
  simp only [vsAll, okAll, stAll, opsA, opA, dstOk, argFr, Nat.reduceLT, Nat.reduceEqDiff, ↓reduceIte, eq_self]
  refine callK_pure (lost_tri p l false 0 id _ k hA hF hn (by ((try clear hh_i5); (try clear hid); omega)) (Hp.set_same _ _ _)) ?_
  rw [moreP_zero]
  simp only [vsAll, binA, binLitA, intA, opA, dstOk, nilSliceOp, Nat.reduceLT, ↓reduceIte, eq_self]
  refine condD (fun hc => ?_) (fun hc => ?_)
  ·have hs : safeB p l = true := decide_eq_true hc
   have ev : floV p l = 2 := by rw [floV, if_pos he, if_pos hs]
   simp only [vsAll, loadA, loadRow, partA, partOk, cellA, cellsA, opA, newCells, okCells, storeObj, dstOk, nilSliceOp, resA, retA.eq_2, Nat.reduceLT, Nat.reduceEqDiff, ↓reduceIte, eq_self, wtAll, Tryz.results20, hid]
   refine ⟨i5, _, rfl, by simp only [↓reduceIte, eq_self]; try rfl, ?_⟩
   refine dropR_pure ?_ (by (repeat (first | exact HSub_rfl | refine HSub_put_eq (by simp only [vsAll, binA, binLitA, intA, aggA, aggV, boolA, nilA2, isConst, unA, loadA, loadRow, partA, partOk, fieldAddrA, indexAddrA, indexA, fieldA, extractA, lenA, nilCheckA, boxA, boxZ, cellA, cellsA, fillA, okParts, buildSliceA, buildMutA, makeSliceA, partIdx, elemsA, lensA, ifaceA, convA, mmA, pickA, okAll, stAll, opsA, partsA, partsOk, opA, allocA, boxMutA, newCells, okCells, storeObj, appendA, guardV, taA, nM, mapUpA, lookA, sliceA, sliceM, sliceS, boundsA, opO, okO, copyA, dstOk, nilA, quietOk, nilSliceOp, deferV, panA, resA, argFr, retA.eq_1, retA.eq_2, Nat.reduceAdd, Nat.reduceSub, Nat.reduceMul, Nat.reduceLT, Nat.reduceLeDiff, Nat.reduceEqDiff, Nat.reduceBEq, Int.reduceAdd, Int.reduceSub, Int.reduceMul, Int.reduceNeg, Int.reduceLE, Int.reduceLT, Int.reduceEq, Int.reduceNe, Int.reduceToNat, ↓reduceIte, reduceCtorEq, implies_true, forall_const, eq_self, ne_eq, wtAll, Tryz.ntmps20, Tryz.results20, hh_i5, hid]) ?_ | refine HSub_drop2 (by simp only [eq_self, hh_i5, hid]) ?_ | refine HSub_keep_eq (by simp only [vsAll, binA, binLitA, intA, aggA, aggV, boolA, nilA2, isConst, unA, loadA, loadRow, partA, partOk, fieldAddrA, indexAddrA, indexA, fieldA, extractA, lenA, nilCheckA, boxA, boxZ, cellA, cellsA, fillA, okParts, buildSliceA, buildMutA, makeSliceA, partIdx, elemsA, lensA, ifaceA, convA, mmA, pickA, okAll, stAll, opsA, partsA, partsOk, opA, allocA, boxMutA, newCells, okCells, storeObj, appendA, guardV, taA, nM, mapUpA, lookA, sliceA, sliceM, sliceS, boundsA, opO, okO, copyA, dstOk, nilA, quietOk, nilSliceOp, deferV, panA, resA, argFr, retA.eq_1, retA.eq_2, Nat.reduceAdd, Nat.reduceSub, Nat.reduceMul, Nat.reduceLT, Nat.reduceLeDiff, Nat.reduceEqDiff, Nat.reduceBEq, Int.reduceAdd, Int.reduceSub, Int.reduceMul, Int.reduceNeg, Int.reduceLE, Int.reduceLT, Int.reduceEq, Int.reduceNe, Int.reduceToNat, ↓reduceIte, reduceCtorEq, implies_true, forall_const, eq_self, ne_eq, wtAll, Tryz.ntmps20, Tryz.results20, hh_i5, hid]) ?_)))
   simp only [eq_self, he, ev]
  have hs : ¬ safeB p l = true := fun h => hc (of_decide_eq_true h)
  simp only [vsAll, loadA, loadRow, partA, partOk, nilCheckA, fillA, okParts, ifaceA, okAll, stAll, opsA, partsA, partsOk, opA, dstOk, Nat.reduceLT, Nat.reduceEqDiff, ↓reduceIte, eq_self, wtAll]
  refine ⟨_, in_tri p false true 0 _, fun r H' hr => ?_⟩
  obtain ⟨j, hj, rfl, rfl⟩ := hr
  simp only [Hp.set_none] at hj
  have hj' := hj
  skip
  simp only [vsAll, okAll, stAll, opsA, opA, dstOk, argFr, Nat.reduceLT, Nat.reduceEqDiff, ↓reduceIte, eq_self]
  refine callK_pure (lost_tri p l true 0 j _ k hA hF hn (by ((try clear hh_i5); (try clear hid); (try clear hj'); omega)) (Hp.set_same _ _ _)) ?_
  rw [moreP_zero]
  simp only [vsAll, binA, binLitA, intA, opA, dstOk, nilSliceOp, Nat.reduceLT, ↓reduceIte, eq_self]
  refine condD (fun hc2 => ?_) (fun hc2 => ?_)
  ·have ev : floV p l = 0 := by rw [floV, if_pos he, if_neg hs, if_pos hc2]
   simp only [vsAll, loadA, loadRow, partA, partOk, cellA, cellsA, opA, newCells, okCells, storeObj, dstOk, nilSliceOp, resA, retA.eq_2, Nat.reduceLT, Nat.reduceEqDiff, ↓reduceIte, eq_self, wtAll, Tryz.results20, hid, hj']
   refine ⟨i5, _, rfl, by simp only [↓reduceIte, eq_self]; try rfl, ?_⟩
   refine dropR_pure ?_ (by (repeat (first | exact HSub_rfl | refine HSub_put_eq (by simp only [vsAll, binA, binLitA, intA, aggA, aggV, boolA, nilA2, isConst, unA, loadA, loadRow, partA, partOk, fieldAddrA, indexAddrA, indexA, fieldA, extractA, lenA, nilCheckA, boxA, boxZ, cellA, cellsA, fillA, okParts, buildSliceA, buildMutA, makeSliceA, partIdx, elemsA, lensA, ifaceA, convA, mmA, pickA, okAll, stAll, opsA, partsA, partsOk, opA, allocA, boxMutA, newCells, okCells, storeObj, appendA, guardV, taA, nM, mapUpA, lookA, sliceA, sliceM, sliceS, boundsA, opO, okO, copyA, dstOk, nilA, quietOk, nilSliceOp, deferV, panA, resA, argFr, retA.eq_1, retA.eq_2, Nat.reduceAdd, Nat.reduceSub, Nat.reduceMul, Nat.reduceLT, Nat.reduceLeDiff, Nat.reduceEqDiff, Nat.reduceBEq, Int.reduceAdd, Int.reduceSub, Int.reduceMul, Int.reduceNeg, Int.reduceLE, Int.reduceLT, Int.reduceEq, Int.reduceNe, Int.reduceToNat, ↓reduceIte, reduceCtorEq, implies_true, forall_const, eq_self, ne_eq, wtAll, Tryz.ntmps20, Tryz.results20, hh_i5, hid, hj']) ?_ | refine HSub_drop2 (by simp only [eq_self, hh_i5, hid, hj']) ?_ | refine HSub_keep_eq (by simp only [vsAll, binA, binLitA, intA, aggA, aggV, boolA, nilA2, isConst, unA, loadA, loadRow, partA, partOk, fieldAddrA, indexAddrA, indexA, fieldA, extractA, lenA, nilCheckA, boxA, boxZ, cellA, cellsA, fillA, okParts, buildSliceA, buildMutA, makeSliceA, partIdx, elemsA, lensA, ifaceA, convA, mmA, pickA, okAll, stAll, opsA, partsA, partsOk, opA, allocA, boxMutA, newCells, okCells, storeObj, appendA, guardV, taA, nM, mapUpA, lookA, sliceA, sliceM, sliceS, boundsA, opO, okO, copyA, dstOk, nilA, quietOk, nilSliceOp, deferV, panA, resA, argFr, retA.eq_1, retA.eq_2, Nat.reduceAdd, Nat.reduceSub, Nat.reduceMul, Nat.reduceLT, Nat.reduceLeDiff, Nat.reduceEqDiff, Nat.reduceBEq, Int.reduceAdd, Int.reduceSub, Int.reduceMul, Int.reduceNeg, Int.reduceLE, Int.reduceLT, Int.reduceEq, Int.reduceNe, Int.reduceToNat, ↓reduceIte, reduceCtorEq, implies_true, forall_const, eq_self, ne_eq, wtAll, Tryz.ntmps20, Tryz.results20, hh_i5, hid, hj']) ?_)))
   simp only [eq_self, he, ev]
  ·have ev : floV p l = 1 := by rw [floV, if_pos he, if_neg hs, if_neg hc2]
   simp only [vsAll, loadA, loadRow, partA, partOk, cellA, cellsA, opA, newCells, okCells, storeObj, dstOk, nilSliceOp, resA, retA.eq_2, Nat.reduceLT, Nat.reduceEqDiff, ↓reduceIte, eq_self, wtAll, Tryz.results20, hid, hj']
   refine ⟨i5, _, rfl, by simp only [↓reduceIte, eq_self]; try rfl, ?_⟩
   refine dropR_pure ?_ (by (repeat (first | exact HSub_rfl | refine HSub_put_eq (by simp only [vsAll, binA, binLitA, intA, aggA, aggV, boolA, nilA2, isConst, unA, loadA, loadRow, partA, partOk, fieldAddrA, indexAddrA, indexA, fieldA, extractA, lenA, nilCheckA, boxA, boxZ, cellA, cellsA, fillA, okParts, buildSliceA, buildMutA, makeSliceA, partIdx, elemsA, lensA, ifaceA, convA, mmA, pickA, okAll, stAll, opsA, partsA, partsOk, opA, allocA, boxMutA, newCells, okCells, storeObj, appendA, guardV, taA, nM, mapUpA, lookA, sliceA, sliceM, sliceS, boundsA, opO, okO, copyA, dstOk, nilA, quietOk, nilSliceOp, deferV, panA, resA, argFr, retA.eq_1, retA.eq_2, Nat.reduceAdd, Nat.reduceSub, Nat.reduceMul, Nat.reduceLT, Nat.reduceLeDiff, Nat.reduceEqDiff, Nat.reduceBEq, Int.reduceAdd, Int.reduceSub, Int.reduceMul, Int.reduceNeg, Int.reduceLE, Int.reduceLT, Int.reduceEq, Int.reduceNe, Int.reduceToNat, ↓reduceIte, reduceCtorEq, implies_true, forall_const, eq_self, ne_eq, wtAll, Tryz.ntmps20, Tryz.results20, hh_i5, hid, hj']) ?_ | refine HSub_drop2 (by simp only [eq_self, hh_i5, hid, hj']) ?_ | refine HSub_keep_eq (by simp only [vsAll, binA, binLitA, intA, aggA, aggV, boolA, nilA2, isConst, unA, loadA, loadRow, partA, partOk, fieldAddrA, indexAddrA, indexA, fieldA, extractA, lenA, nilCheckA, boxA, boxZ, cellA, cellsA, fillA, okParts, buildSliceA, buildMutA, makeSliceA, partIdx, elemsA, lensA, ifaceA, convA, mmA, pickA, okAll, stAll, opsA, partsA, partsOk, opA, allocA, boxMutA, newCells, okCells, storeObj, appendA, guardV, taA, nM, mapUpA, lookA, sliceA, sliceM, sliceS, boundsA, opO, okO, copyA, dstOk, nilA, quietOk, nilSliceOp, deferV, panA, resA, argFr, retA.eq_1, retA.eq_2, Nat.reduceAdd, Nat.reduceSub, Nat.reduceMul, Nat.reduceLT, Nat.reduceLeDiff, Nat.reduceEqDiff, Nat.reduceBEq, Int.reduceAdd, Int.reduceSub, Int.reduceMul, Int.reduceNeg, Int.reduceLE, Int.reduceLT, Int.reduceEq, Int.reduceNe, Int.reduceToNat, ↓reduceIte, reduceCtorEq, implies_true, forall_const, eq_self, ne_eq, wtAll, Tryz.ntmps20, Tryz.results20, hh_i5, hid, hj']) ?_)))
   simp only [eq_self, he, ev]
end Go.Proofs.YtkcgocmjaggdiaaGreat
end
section
set_option linter.unusedVariables false
set_option linter.unusedSimpArgs false
set_option maxHeartbeats 4000000
set_option maxRecDepth 100000
namespace Go.Proofs.YtkcgocmjaggdiaaGreat
open Go.V Wl
theorem spa_tri (p : Pu) (l : List Int) (H : Hp) (kn : Near p) (hl : l.length ≤ 41) : PTri Tryz.prog (fnA 22) [p.av, intsAV l] H (.tuple [i64 (spaV p l), i64 (spaE p l)]) := by
 refine Tri.drop ?_
 refine tri_am (m := fun _ => false) ans25 Tryz.func22 (by kernel_rfl) rfl (by simp only [List.length_append, List.length_cons, List.length_nil, Tryz.ntmps22]; decide) ?_
 simp only [vsAll, boxA, boxZ, okAll, stAll, opsA, opA, allocA, dstOk, nilSliceOp, argFr, Nat.reduceAdd, Nat.reduceLT, ↓reduceIte, eq_self, wtAll, Tryz.ntmps22]
 intro i5 hh_i5; (try simp only [Hp.set_none, ite_none] at hh_i5)
 refine vs_draw2 [0, 0, 0, 0, 1, 2] [([0, 1, 2, 3], [], 4)] [5] (by decide +kernel) ?_
 simp only [vsAll, loadA, loadRow, partA, partOk, opA, dstOk, argFr, Nat.reduceLT, Nat.reduceEqDiff, ↓reduceIte, eq_self, wtAll]
 refine qcall _ ⟨trivial, by simp only [vsAll, okAll, opsA, opA, Nat.reduceEqDiff, ↓reduceIte, eq_self], isPlan_tri p l _⟩ ?_
 simp only [vsAll, okAll, stAll, opsA, opA, dstOk, Nat.reduceLT, Nat.reduceEqDiff, ↓reduceIte, eq_self]
 refine open_call (open_tri p _ (planB p l) _ kn trivial rfl (fun k H' => isPlan1_tri p l H' k hl)) (fun he => ?_) (fun k hv hA id hid => ?_)
 ·have e : spaE p l = errE p (planB p l) := if_neg he
  have e3 : losE p l = errE p (planB p l) := if_neg he
  have h4 : ¬ errE p (planB p l) = 4 := by
   unfold errE
   split
   ·split
    ·split <;> decide
    ·decide
   ·decide
  have e2 : spaV p l = 0 := if_neg (by rw [e3]; exact h4)
  simp only [vsAll, loadA, loadRow, partA, partOk, resA, retA.eq_2, Nat.reduceEqDiff, ↓reduceIte, eq_self, wtAll, Tryz.results22]
  refine ⟨errE p (planB p l), i5, _, rfl, rfl, by simp only [↓reduceIte, eq_self]; try rfl, ?_⟩
  simp only [vsAll, Nat.reduceLT, ↓reduceIte, eq_self]
  refine dropR_pure ?_ (by (repeat (first | exact HSub_rfl | refine HSub_put_eq (by simp only [vsAll, binA, binLitA, intA, aggA, aggV, boolA, nilA2, isConst, unA, loadA, loadRow, partA, partOk, fieldAddrA, indexAddrA, indexA, fieldA, extractA, lenA, nilCheckA, boxA, boxZ, cellA, cellsA, fillA, okParts, buildSliceA, buildMutA, makeSliceA, partIdx, elemsA, lensA, ifaceA, convA, mmA, pickA, okAll, stAll, opsA, partsA, partsOk, opA, allocA, boxMutA, newCells, okCells, storeObj, appendA, guardV, taA, nM, mapUpA, lookA, sliceA, sliceM, sliceS, boundsA, opO, okO, copyA, dstOk, nilA, quietOk, nilSliceOp, deferV, panA, resA, argFr, retA.eq_1, retA.eq_2, Nat.reduceAdd, Nat.reduceSub, Nat.reduceMul, Nat.reduceLT, Nat.reduceLeDiff, Nat.reduceEqDiff, Nat.reduceBEq, Int.reduceAdd, Int.reduceSub, Int.reduceMul, Int.reduceNeg, Int.reduceLE, Int.reduceLT, Int.reduceEq, Int.reduceNe, Int.reduceToNat, ↓reduceIte, reduceCtorEq, implies_true, forall_const, eq_self, ne_eq, wtAll, Tryz.ntmps22, Tryz.results22, hh_i5]) ?_ | refine HSub_drop2 (by simp only [eq_self, hh_i5]) ?_ | refine HSub_keep_eq (by simp only [vsAll, binA, binLitA, intA, aggA, aggV, boolA, nilA2, isConst, unA, loadA, loadRow, partA, partOk, fieldAddrA, indexAddrA, indexA, fieldA, extractA, lenA, nilCheckA, boxA, boxZ, cellA, cellsA, fillA, okParts, buildSliceA, buildMutA, makeSliceA, partIdx, elemsA, lensA, ifaceA, convA, mmA, pickA, okAll, stAll, opsA, partsA, partsOk, opA, allocA, boxMutA, newCells, okCells, storeObj, appendA, guardV, taA, nM, mapUpA, lookA, sliceA, sliceM, sliceS, boundsA, opO, okO, copyA, dstOk, nilA, quietOk, nilSliceOp, deferV, panA, resA, argFr, retA.eq_1, retA.eq_2, Nat.reduceAdd, Nat.reduceSub, Nat.reduceMul, Nat.reduceLT, Nat.reduceLeDiff, Nat.reduceEqDiff, Nat.reduceBEq, Int.reduceAdd, Int.reduceSub, Int.reduceMul, Int.reduceNeg, Int.reduceLE, Int.reduceLT, Int.reduceEq, Int.reduceNe, Int.reduceToNat, ↓reduceIte, reduceCtorEq, implies_true, forall_const, eq_self, ne_eq, wtAll, Tryz.ntmps22, Tryz.results22, hh_i5]) ?_)))
  simp only [eq_self, e, e2]
 ·have he : playE p l = 0 := by
   show errE p (planB p l) = 0
   rw [hv]; exact errE_ok k (by ((try clear hh_i5); omega))
  have hF := firstP_of k hv
  have hn : l.length ≤ p.fl.length := by have := (planB_iff.1 hv).1; ((try clear hh_i5); omega)
  have hid' := hid
  simp only [Hp.set_none] at hid
  skip
  simp only [vsAll, okAll, stAll, opsA, opA, dstOk, argFr, Nat.reduceLT, Nat.reduceEqDiff, ↓reduceIte, eq_self]
  refine callK_pure (lost_tri p l false 0 id _ k hA hF hn (by ((try clear hh_i5); (try clear hid); omega)) (Hp.set_same _ _ _)) ?_
  rw [moreP_zero]
  simp only [vsAll, binA, binLitA, intA, okAll, stAll, opsA, opA, dstOk, Nat.reduceLT, ↓reduceIte, eq_self]
  refine pask_call (fun hc => ?_) (fun hc => ?_)
  case refine_2 =>
   have hs : ¬ safeB p l = true := fun h => by
    have := of_decide_eq_true h
    exact of_decide_eq_false hc this
   have e0 : losE p l = 0 := by rw [losE, if_pos he, if_neg hs]
   have e : spaE p l = 4 := by rw [spaE, if_pos he, if_neg hs]
   have ev : spaV p l = 0 := if_neg (by rw [e0]; decide)
   simp only [vsAll, loadA, loadRow, partA, partOk, resA, retA.eq_2, Nat.reduceEqDiff, ↓reduceIte, eq_self, wtAll, Tryz.results22, hid]
   refine ⟨4, i5, _, rfl, rfl, by simp only [↓reduceIte, eq_self, hid]; try rfl, ?_⟩
   simp only [vsAll, Nat.reduceLT, ↓reduceIte, eq_self]
   refine dropR_pure ?_ (by (repeat (first | exact HSub_rfl | refine HSub_put_eq (by simp only [vsAll, binA, binLitA, intA, aggA, aggV, boolA, nilA2, isConst, unA, loadA, loadRow, partA, partOk, fieldAddrA, indexAddrA, indexA, fieldA, extractA, lenA, nilCheckA, boxA, boxZ, cellA, cellsA, fillA, okParts, buildSliceA, buildMutA, makeSliceA, partIdx, elemsA, lensA, ifaceA, convA, mmA, pickA, okAll, stAll, opsA, partsA, partsOk, opA, allocA, boxMutA, newCells, okCells, storeObj, appendA, guardV, taA, nM, mapUpA, lookA, sliceA, sliceM, sliceS, boundsA, opO, okO, copyA, dstOk, nilA, quietOk, nilSliceOp, deferV, panA, resA, argFr, retA.eq_1, retA.eq_2, Nat.reduceAdd, Nat.reduceSub, Nat.reduceMul, Nat.reduceLT, Nat.reduceLeDiff, Nat.reduceEqDiff, Nat.reduceBEq, Int.reduceAdd, Int.reduceSub, Int.reduceMul, Int.reduceNeg, Int.reduceLE, Int.reduceLT, Int.reduceEq, Int.reduceNe, Int.reduceToNat, ↓reduceIte, reduceCtorEq, implies_true, forall_const, eq_self, ne_eq, wtAll, Tryz.ntmps22, Tryz.results22, hh_i5, hid]) ?_ | refine HSub_drop2 (by simp only [eq_self, hh_i5, hid]) ?_ | refine HSub_keep_eq (by simp only [vsAll, binA, binLitA, intA, aggA, aggV, boolA, nilA2, isConst, unA, loadA, loadRow, partA, partOk, fieldAddrA, indexAddrA, indexA, fieldA, extractA, lenA, nilCheckA, boxA, boxZ, cellA, cellsA, fillA, okParts, buildSliceA, buildMutA, makeSliceA, partIdx, elemsA, lensA, ifaceA, convA, mmA, pickA, okAll, stAll, opsA, partsA, partsOk, opA, allocA, boxMutA, newCells, okCells, storeObj, appendA, guardV, taA, nM, mapUpA, lookA, sliceA, sliceM, sliceS, boundsA, opO, okO, copyA, dstOk, nilA, quietOk, nilSliceOp, deferV, panA, resA, argFr, retA.eq_1, retA.eq_2, Nat.reduceAdd, Nat.reduceSub, Nat.reduceMul, Nat.reduceLT, Nat.reduceLeDiff, Nat.reduceEqDiff, Nat.reduceBEq, Int.reduceAdd, Int.reduceSub, Int.reduceMul, Int.reduceNeg, Int.reduceLE, Int.reduceLT, Int.reduceEq, Int.reduceNe, Int.reduceToNat, ↓reduceIte, reduceCtorEq, implies_true, forall_const, eq_self, ne_eq, wtAll, Tryz.ntmps22, Tryz.results22, hh_i5, hid]) ?_)))
   simp only [eq_self, e, ev]
  have hs : safeB p l = true := hc
  have e : spaE p l = 0 := by rw [spaE, if_pos he, if_pos hs]
  have e0 : losE p l = 4 := by rw [losE, if_pos he, if_pos hs]
  have ev : spaV p l = (spareN p l 40 0 : Nat) := if_pos e0
  simp only [vsAll]
  refine vs_loop (σ := Nat) (fun n => n ≤ 40 ∧ spareN p l (40 - n) n = spareN p l 40 0) (fun n => [(1, intsAV l), (5, .ref i5 0 1 0 0), (6, .ref id 0 9 0 0)])
   (fun n => (H.set i5 (.box 1 1 fun _ => [i64 0])).set id (.box 9 1 fun _ => pmC p false n)) (fun n => 40 - n) 0 ⟨Nat.zero_le _, rfl⟩ ?_ ?_ fun n hn' => ?_
  ·simp only [vsAll, argFr, Nat.reduceEqDiff, ↓reduceIte, eq_self]
  ·(repeat (first | exact HSub_rfl | refine HSub_put_eq (by simp only [vsAll, binA, binLitA, intA, aggA, aggV, boolA, nilA2, isConst, unA, loadA, loadRow, partA, partOk, fieldAddrA, indexAddrA, indexA, fieldA, extractA, lenA, nilCheckA, boxA, boxZ, cellA, cellsA, fillA, okParts, buildSliceA, buildMutA, makeSliceA, partIdx, elemsA, lensA, ifaceA, convA, mmA, pickA, okAll, stAll, opsA, partsA, partsOk, opA, allocA, boxMutA, newCells, okCells, storeObj, appendA, guardV, taA, nM, mapUpA, lookA, sliceA, sliceM, sliceS, boundsA, opO, okO, copyA, dstOk, nilA, quietOk, nilSliceOp, deferV, panA, resA, argFr, retA.eq_1, retA.eq_2, Nat.reduceAdd, Nat.reduceSub, Nat.reduceMul, Nat.reduceLT, Nat.reduceLeDiff, Nat.reduceEqDiff, Nat.reduceBEq, Int.reduceAdd, Int.reduceSub, Int.reduceMul, Int.reduceNeg, Int.reduceLE, Int.reduceLT, Int.reduceEq, Int.reduceNe, Int.reduceToNat, ↓reduceIte, reduceCtorEq, implies_true, forall_const, eq_self, ne_eq, wtAll, Tryz.ntmps22, Tryz.results22, hh_i5, hid]) ?_ | refine HSub_drop2 (by simp only [vsAll, binA, binLitA, intA, aggA, aggV, boolA, nilA2, isConst, unA, loadA, loadRow, partA, partOk, fieldAddrA, indexAddrA, indexA, fieldA, extractA, lenA, nilCheckA, boxA, boxZ, cellA, cellsA, fillA, okParts, buildSliceA, buildMutA, makeSliceA, partIdx, elemsA, lensA, ifaceA, convA, mmA, pickA, okAll, stAll, opsA, partsA, partsOk, opA, allocA, boxMutA, newCells, okCells, storeObj, appendA, guardV, taA, nM, mapUpA, lookA, sliceA, sliceM, sliceS, boundsA, opO, okO, copyA, dstOk, nilA, quietOk, nilSliceOp, deferV, panA, resA, argFr, retA.eq_1, retA.eq_2, Nat.reduceAdd, Nat.reduceSub, Nat.reduceMul, Nat.reduceLT, Nat.reduceLeDiff, Nat.reduceEqDiff, Nat.reduceBEq, Int.reduceAdd, Int.reduceSub, Int.reduceMul, Int.reduceNeg, Int.reduceLE, Int.reduceLT, Int.reduceEq, Int.reduceNe, Int.reduceToNat, ↓reduceIte, reduceCtorEq, implies_true, forall_const, eq_self, ne_eq, wtAll, Tryz.ntmps22, Tryz.results22, hh_i5, hid]) ?_ | refine HSub_keep_eq (by simp only [vsAll, binA, binLitA, intA, aggA, aggV, boolA, nilA2, isConst, unA, loadA, loadRow, partA, partOk, fieldAddrA, indexAddrA, indexA, fieldA, extractA, lenA, nilCheckA, boxA, boxZ, cellA, cellsA, fillA, okParts, buildSliceA, buildMutA, makeSliceA, partIdx, elemsA, lensA, ifaceA, convA, mmA, pickA, okAll, stAll, opsA, partsA, partsOk, opA, allocA, boxMutA, newCells, okCells, storeObj, appendA, guardV, taA, nM, mapUpA, lookA, sliceA, sliceM, sliceS, boundsA, opO, okO, copyA, dstOk, nilA, quietOk, nilSliceOp, deferV, panA, resA, argFr, retA.eq_1, retA.eq_2, Nat.reduceAdd, Nat.reduceSub, Nat.reduceMul, Nat.reduceLT, Nat.reduceLeDiff, Nat.reduceEqDiff, Nat.reduceBEq, Int.reduceAdd, Int.reduceSub, Int.reduceMul, Int.reduceNeg, Int.reduceLE, Int.reduceLT, Int.reduceEq, Int.reduceNe, Int.reduceToNat, ↓reduceIte, reduceCtorEq, implies_true, forall_const, eq_self, ne_eq, wtAll, Tryz.ntmps22, Tryz.results22, hh_i5, hid]) ?_))
  ·obtain ⟨hn1, hn2⟩ := hn'
   simp only [vsAll, binA, binLitA, intA, loadA, loadRow, partA, partOk, fieldAddrA, nilCheckA, opA, dstOk, Nat.reduceLT, Nat.reduceEqDiff, ↓reduceIte, eq_self, wtAll]
   refine condD (fun hd => ?_) (fun hd => ?_)
   case refine_2 =>
    have h40 : n = 40 := by ((try clear hh_i5); (try clear hid); omega)
    subst h40
    have hfin : spareN p l 40 0 = 40 := hn2.symm
    rw [hfin] at ev
    simp only [vsAll, loadA, loadRow, partA, partOk, fieldAddrA, nilCheckA, cellA, cellsA, opA, newCells, okCells, storeObj, dstOk, nilSliceOp, resA, retA.eq_2, Nat.reduceLT, Nat.reduceEqDiff, ↓reduceIte, eq_self, wtAll, Tryz.results22, hid]
    refine ⟨i5, _, rfl, by simp only [↓reduceIte, eq_self]; try rfl, ?_⟩
    refine dropR_pure ?_ (by (repeat (first | exact HSub_rfl | refine HSub_put_eq (by simp only [vsAll, binA, binLitA, intA, aggA, aggV, boolA, nilA2, isConst, unA, loadA, loadRow, partA, partOk, fieldAddrA, indexAddrA, indexA, fieldA, extractA, lenA, nilCheckA, boxA, boxZ, cellA, cellsA, fillA, okParts, buildSliceA, buildMutA, makeSliceA, partIdx, elemsA, lensA, ifaceA, convA, mmA, pickA, okAll, stAll, opsA, partsA, partsOk, opA, allocA, boxMutA, newCells, okCells, storeObj, appendA, guardV, taA, nM, mapUpA, lookA, sliceA, sliceM, sliceS, boundsA, opO, okO, copyA, dstOk, nilA, quietOk, nilSliceOp, deferV, panA, resA, argFr, retA.eq_1, retA.eq_2, Nat.reduceAdd, Nat.reduceSub, Nat.reduceMul, Nat.reduceLT, Nat.reduceLeDiff, Nat.reduceEqDiff, Nat.reduceBEq, Int.reduceAdd, Int.reduceSub, Int.reduceMul, Int.reduceNeg, Int.reduceLE, Int.reduceLT, Int.reduceEq, Int.reduceNe, Int.reduceToNat, ↓reduceIte, reduceCtorEq, implies_true, forall_const, eq_self, ne_eq, wtAll, Tryz.ntmps22, Tryz.results22, hh_i5, hid]) ?_ | refine HSub_drop2 (by simp only [eq_self, hh_i5, hid]) ?_ | refine HSub_keep_eq (by simp only [vsAll, binA, binLitA, intA, aggA, aggV, boolA, nilA2, isConst, unA, loadA, loadRow, partA, partOk, fieldAddrA, indexAddrA, indexA, fieldA, extractA, lenA, nilCheckA, boxA, boxZ, cellA, cellsA, fillA, okParts, buildSliceA, buildMutA, makeSliceA, partIdx, elemsA, lensA, ifaceA, convA, mmA, pickA, okAll, stAll, opsA, partsA, partsOk, opA, allocA, boxMutA, newCells, okCells, storeObj, appendA, guardV, taA, nM, mapUpA, lookA, sliceA, sliceM, sliceS, boundsA, opO, okO, copyA, dstOk, nilA, quietOk, nilSliceOp, deferV, panA, resA, argFr, retA.eq_1, retA.eq_2, Nat.reduceAdd, Nat.reduceSub, Nat.reduceMul, Nat.reduceLT, Nat.reduceLeDiff, Nat.reduceEqDiff, Nat.reduceBEq, Int.reduceAdd, Int.reduceSub, Int.reduceMul, Int.reduceNeg, Int.reduceLE, Int.reduceLT, Int.reduceEq, Int.reduceNe, Int.reduceToNat, ↓reduceIte, reduceCtorEq, implies_true, forall_const, eq_self, ne_eq, wtAll, Tryz.ntmps22, Tryz.results22, hh_i5, hid]) ?_)))
    simp only [eq_self, e, ev]
   simp only [vsAll, binA, binLitA, intA, loadA, loadRow, partA, partOk, fieldAddrA, nilCheckA, cellA, cellsA, okAll, stAll, opsA, opA, newCells, okCells, storeObj, dstOk, Nat.reduceAdd, Nat.reduceLT, Nat.reduceEqDiff, ↓reduceIte, eq_self, wtAll]
   have en : ((n : Int) + 1 - 1) = (n : Int) := by ((try clear hh_i5); (try clear hid); omega)
   refine ⟨by simp only [InR_i64]; ((try clear hh_i5); (try clear hid); omega), callK_pure (lost_tri p l false ((n : Int) + 1) id _ k hA hF hn (by ((try clear hh_i5); (try clear hid); omega)) (Hp.set_same _ _ _)) ?_⟩
   simp only [vsAll, binA, binLitA, intA, opA, dstOk, Nat.reduceLT, ↓reduceIte, eq_self]
   refine condD (fun hc2 => ?_) (fun hc2 => ?_)
   ·have hns : ¬ safeB (moreP p ((n : Int) + 1)) l = true := fun h => by
     have := of_decide_eq_true h
     exact absurd hc2 (Int.not_le.2 this)
    have hfin : spareN p l 40 0 = n := by
     rw [← hn2, show 40 - n = (40 - (n + 1)) + 1 by ((try clear hh_i5); (try clear hid); omega), spareN, if_neg hns]
    rw [hfin] at ev
    simp only [vsAll, binA, binLitA, intA, loadA, loadRow, partA, partOk, fieldAddrA, nilCheckA, cellA, cellsA, opA, newCells, okCells, storeObj, dstOk, nilSliceOp, resA, retA.eq_2, Nat.reduceAdd, Nat.reduceLT, Nat.reduceEqDiff, ↓reduceIte, reduceCtorEq, eq_self, wtAll, Tryz.results22, hid, en]
    refine ⟨by simp only [InR_i64]; ((try clear hh_i5); (try clear hid); omega), i5, _, rfl, by simp only [↓reduceIte, eq_self]; try rfl, ?_⟩
    refine dropR_pure ?_ (by (repeat (first | exact HSub_rfl | refine HSub_put_eq (by simp only [vsAll, binA, binLitA, intA, aggA, aggV, boolA, nilA2, isConst, unA, loadA, loadRow, partA, partOk, fieldAddrA, indexAddrA, indexA, fieldA, extractA, lenA, nilCheckA, boxA, boxZ, cellA, cellsA, fillA, okParts, buildSliceA, buildMutA, makeSliceA, partIdx, elemsA, lensA, ifaceA, convA, mmA, pickA, okAll, stAll, opsA, partsA, partsOk, opA, allocA, boxMutA, newCells, okCells, storeObj, appendA, guardV, taA, nM, mapUpA, lookA, sliceA, sliceM, sliceS, boundsA, opO, okO, copyA, dstOk, nilA, quietOk, nilSliceOp, deferV, panA, resA, argFr, retA.eq_1, retA.eq_2, Nat.reduceAdd, Nat.reduceSub, Nat.reduceMul, Nat.reduceLT, Nat.reduceLeDiff, Nat.reduceEqDiff, Nat.reduceBEq, Int.reduceAdd, Int.reduceSub, Int.reduceMul, Int.reduceNeg, Int.reduceLE, Int.reduceLT, Int.reduceEq, Int.reduceNe, Int.reduceToNat, ↓reduceIte, reduceCtorEq, implies_true, forall_const, eq_self, ne_eq, wtAll, Tryz.ntmps22, Tryz.results22, hh_i5, hid]) ?_ | refine HSub_drop2 (by simp only [eq_self, hh_i5, hid]) ?_ | refine HSub_keep_eq (by simp only [vsAll, binA, binLitA, intA, aggA, aggV, boolA, nilA2, isConst, unA, loadA, loadRow, partA, partOk, fieldAddrA, indexAddrA, indexA, fieldA, extractA, lenA, nilCheckA, boxA, boxZ, cellA, cellsA, fillA, okParts, buildSliceA, buildMutA, makeSliceA, partIdx, elemsA, lensA, ifaceA, convA, mmA, pickA, okAll, stAll, opsA, partsA, partsOk, opA, allocA, boxMutA, newCells, okCells, storeObj, appendA, guardV, taA, nM, mapUpA, lookA, sliceA, sliceM, sliceS, boundsA, opO, okO, copyA, dstOk, nilA, quietOk, nilSliceOp, deferV, panA, resA, argFr, retA.eq_1, retA.eq_2, Nat.reduceAdd, Nat.reduceSub, Nat.reduceMul, Nat.reduceLT, Nat.reduceLeDiff, Nat.reduceEqDiff, Nat.reduceBEq, Int.reduceAdd, Int.reduceSub, Int.reduceMul, Int.reduceNeg, Int.reduceLE, Int.reduceLT, Int.reduceEq, Int.reduceNe, Int.reduceToNat, ↓reduceIte, reduceCtorEq, implies_true, forall_const, eq_self, ne_eq, wtAll, Tryz.ntmps22, Tryz.results22, hh_i5, hid]) ?_)))
    simp only [eq_self, e, ev]
   ·have hss : safeB (moreP p ((n : Int) + 1)) l = true := decide_eq_true (Int.not_le.1 hc2)
    have hsp2 : spareN p l (40 - (n + 1)) (n + 1) = spareN p l 40 0 := by
     rw [← hn2, show 40 - n = (40 - (n + 1)) + 1 by ((try clear hh_i5); (try clear hid); omega), spareN, if_pos hss]
    simp only [vsAll]
    refine loop_next (n + 1) ⟨by ((try clear hh_i5); (try clear hid); omega), hsp2⟩ (by ((try clear hh_i5); (try clear hid); omega)) ?_ ?_
    ·simp only [vsAll, Nat.reduceEqDiff, ↓reduceIte, eq_self]
    ·show Go.V.HSub _ ((H.set i5 (.box 1 1 fun _ => [i64 0])).set id (.box 9 1 fun _ => pmC p false ((n : Int) + 1)))
     (repeat (first | exact HSub_rfl | refine HSub_put_eq (by simp only [vsAll, ↓reduceIte, eq_self, hid]) ?_ | refine HSub_drop2 (by simp only [eq_self, hh_i5, hid]) ?_ | refine HSub_keep_eq (by simp only [vsAll, binA, binLitA, intA, aggA, aggV, boolA, nilA2, isConst, unA, loadA, loadRow, partA, partOk, fieldAddrA, indexAddrA, indexA, fieldA, extractA, lenA, nilCheckA, boxA, boxZ, cellA, cellsA, fillA, okParts, buildSliceA, buildMutA, makeSliceA, partIdx, elemsA, lensA, ifaceA, convA, mmA, pickA, okAll, stAll, opsA, partsA, partsOk, opA, allocA, boxMutA, newCells, okCells, storeObj, appendA, guardV, taA, nM, mapUpA, lookA, sliceA, sliceM, sliceS, boundsA, opO, okO, copyA, dstOk, nilA, quietOk, nilSliceOp, deferV, panA, resA, argFr, retA.eq_1, retA.eq_2, Nat.reduceAdd, Nat.reduceSub, Nat.reduceMul, Nat.reduceLT, Nat.reduceLeDiff, Nat.reduceEqDiff, Nat.reduceBEq, Int.reduceAdd, Int.reduceSub, Int.reduceMul, Int.reduceNeg, Int.reduceLE, Int.reduceLT, Int.reduceEq, Int.reduceNe, Int.reduceToNat, ↓reduceIte, reduceCtorEq, implies_true, forall_const, eq_self, ne_eq, wtAll, Tryz.ntmps22, Tryz.results22, hh_i5, hid]) ?_))
end Go.Proofs.YtkcgocmjaggdiaaGreat
end
