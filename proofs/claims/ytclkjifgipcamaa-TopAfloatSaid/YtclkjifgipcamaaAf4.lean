/- Helper lemmas of this claim, part 4. -/
import Derived.Test.YtclkjifgipcamaaAf3
section
set_option linter.unusedVariables false
set_option linter.unusedSimpArgs false
set_option maxHeartbeats 4000000
set_option maxRecDepth 100000
namespace Go.Proofs.Ytclkjifgipcamaa.Wl
open Go.V
def byN (h : Hd) (S : Nat) : Nat → Nat → Bool
 | 0 => fun _ => true
 | i + 1 => fun w => byN h S i w && okc h w S i
theorem byN_iff (h : Hd) (S n w : Nat) : byN h S n w = true ↔ ∀ i, i < n → okc h w S i = true := by
 induction n with
 | zero => simp [byN]
 | succ n ih =>
   simp only [byN, Bool.and_eq_true, ih]
   constructor
   ·rintro ⟨h1, h2⟩ i hi
    by_cases e : i = n
    ·subst e; exact h2
    ·exact h1 i (by omega)
   ·exact fun h1 => ⟨fun i hi => h1 i (by omega), h1 n (by omega)⟩
theorem byN_can (h : Hd) (S w : Nat) : byN h S h.m w = canB h w S := by
 have := byN_iff h S h.m w
 rw [Bool.eq_iff_iff, this]
 simp [canB]
theorem by_tri (h : Hd) (id S : Nat) (H : Hp) (k : HOk h) (ho : H id = some (.memo (memoF h))) (hS : S < 2 ^ 60) :
  PTri Try.prog (fnA 83) [hdP h id, u64 S] H (amAV (byN h S h.m)) := by
 have hm := k.m
 refine tri_vs (m := fun _ => false) Try.func83 (by kernel_rfl) rfl (by simp only [List.length_append, List.length_cons, List.length_nil, Try.ntmps83]; decide) ?_
 simp only [vsAll, okAll, stAll, opsA, opA, allocA, dstOk, Nat.reduceLT, eq_self, wtAll, Try.ntmps83]
 intro i4 h4
 have n4 : i4 ≠ id := fun e => by rw [e, ho] at h4; cases h4
 have m4 : ¬ id = i4 := fun e => n4 e.symm
 refine callK_pure (wall_tri _) ?_
 simp only [vsAll, loadA, loadRow, partA, partOk, fieldAddrA, lenA, nilCheckA, opA, allocA, storeObj, dstOk, argFr, Nat.reduceMul, Nat.reduceLT, Nat.reduceEqDiff, ↓reduceIte, reduceCtorEq, eq_self, wtAll]
 intro i5 h5
 have n54 : i5 ≠ i4 := fun e => by rw [if_pos e] at h5; cases h5
 rw [if_neg n54] at h5
 have n5 : i5 ≠ id := fun e => by rw [e, ho] at h5; cases h5
 have m5 : ¬ id = i5 := fun e => n5 e.symm
 have m54 : ¬ i4 = i5 := fun e => n54 e.symm
 refine ⟨fun j hj => by simp [amF, okCells, cellA], ?_⟩
 refine vs_loop (σ := Nat) (fun i => i ≤ h.m) (fun i => [(0, hdP h id), (1, u64 S), (4, .ref i4 0 1 0 0), (5, .ref i5 0 1 0 0), (13, sdAV h.m h.sd), (14, i64 h.m), (15, i64 i)])
  (fun i => (H.set i4 (.box 1 101 fun _ => [boo false])).set i5 (.box 1 101 (amF (byN h S i)))) (fun i => h.m - i) 0 (by omega) ?_ ?_ fun i hi => ?_
 ·simp only [vsAll, argFr, Nat.reduceEqDiff, ↓reduceIte, reduceCtorEq, eq_self, Int.natCast_zero]
 ·rw [Hp.set_set]
  simp only [byN, HSub_refl]
 ·simp only [vsAll, binA, binLitA, intA, opA, dstOk, Nat.reduceLT, Nat.reduceEqDiff, ↓reduceIte, reduceCtorEq, eq_self]
  refine condD (fun hd => ?_) (fun hd => ?_)
  ·simp only [vsAll, binA, binLitA, intA, loadA, loadRow, partA, partOk, indexAddrA, cellA, opA, allocA, newCells, okCells, storeObj, dstOk, nilSliceOp, Nat.reduceAdd, Nat.reduceLT, Nat.reduceEqDiff, Int.reduceLE, Int.reduceToNat, ↓reduceIte, reduceCtorEq, eq_self, wtAll]
   refine ⟨by omega, by omega, ?_⟩
   intro i7 h7
   have n75 : i7 ≠ i5 := fun e => by rw [if_pos e] at h7; cases h7
   rw [if_neg n75] at h7
   have n74 : i7 ≠ i4 := fun e => by rw [if_pos e] at h7; cases h7
   rw [if_neg n74] at h7
   have n7 : i7 ≠ id := fun e => by rw [e, ho] at h7; cases h7
   have m7 : ¬ id = i7 := fun e => n7 e.symm
   have m75 : ¬ i5 = i7 := fun e => n75 e.symm
   have hlt : S / 2 ^ i ≤ S := Nat.div_le_self _ _
   have e0 : (S : Int) / 2 ^ i = ((S / 2 ^ i : Nat) : Int) := by simp
   have eb := bit_eq S i
   have drop : ∀ X Y : Go.V.Obj, ∀ Z : Go.V.Obj, Z = X → Go.V.HSub ((((H.set i4 (.box 1 101 fun _ => [boo false])).set i5 Z).set i7 Y)) ((H.set i4 (.box 1 101 fun _ => [boo false])).set i5 X) := by
    intro X Y Z e j x hx
    subst e
    by_cases e7 : j = i7
    ·subst e7
     rw [Hp.set_ne _ _ n75, Hp.set_ne _ _ n74, h7] at hx; cases hx
    ·exact ⟨x, by rw [Hp.set_ne _ _ e7]; exact hx, .refl _⟩
   simp only [Hp.set_set]
   have eb' : decide (((((S : Int) / 2 ^ i).toNat &&& 1 : Nat) : Int) = 1) = S.testBit i := eb
   refine ⟨⟨by omega, by omega, rfl⟩, ⟨by rw [e0]; exact Int.natCast_nonneg _, by rw [e0, InR_u64]; generalize S / 2 ^ i = q at *; omega, by simp only [InR_u64]; omega⟩, ?_⟩
   refine condV (fun hc => ?_) (fun hc => ?_)
   ·rw [eb'] at hc
    simp only [vsAll, loadA, loadRow, partA, partOk, cellsA, fillA, okParts, ifaceA, okAll, stAll, opsA, partsA, partsOk, opA, dstOk, Nat.reduceAdd, Nat.reduceLT, Nat.reduceEqDiff, ↓reduceIte, reduceCtorEq, eq_self, wtAll, m75]
    refine callK_pure (left_tri h id 217 (.agg (h.sd i).cs) (byN h S i) (fun w => anyN h (h.sd i) w 5) _ k (by rw [Hp.set_ne _ _ m7, Hp.set_ne _ _ m5, Hp.set_ne _ _ m4]; exact ho)
     (fun H' w hH' hw => tri_meth meth217 (sounded_tri h id (h.sd i) w H' k hH' (by omega) (k.w i (by omega)) (k.l i (by omega))))) ?_
    have en : (fun w => byN h S i w && anyN h (h.sd i) w 5) = byN h S (i + 1) := by
     funext w; simp only [byN, okc, hc, Bool.not_true, Bool.false_or]
    rw [en]
    simp only [vsAll, binA, binLitA, intA, opA, storeObj, dstOk, Nat.reduceMul, Nat.reduceLT, Nat.reduceEqDiff, ↓reduceIte, reduceCtorEq, eq_self, wtAll, m75]
    refine ⟨fun j hj => by simp [amF, okCells, cellA], by simp only [InR_i64]; omega, loop_next (i + 1) (by omega) (by omega) ?_ ?_⟩
    ·simp only [vsAll, Nat.reduceEqDiff, ↓reduceIte, reduceCtorEq, eq_self, Int.natCast_add, Int.natCast_one]
    ·intro j x hx
     by_cases e5 : j = i5
     ·subst e5
      rw [Hp.set_same] at hx
      exact ⟨x, by rw [Hp.set_same]; exact hx, .refl _⟩
     ·rw [Hp.set_ne _ _ e5] at hx
      by_cases e7 : j = i7
      ·subst e7; rw [Hp.set_ne _ _ n74, h7] at hx; cases hx
      ·exact ⟨x, by rw [Hp.set_ne _ _ e5, Hp.set_ne _ _ e7, Hp.set_ne _ _ e5]; exact hx, .refl _⟩
   ·rw [eb'] at hc
    have en : byN h S (i + 1) = byN h S i := by
     funext w; simp only [byN, okc, hc, Bool.not_false, Bool.true_or, Bool.and_true]
    simp only [vsAll, binA, binLitA, intA, opA, dstOk, Nat.reduceLT, Nat.reduceEqDiff, ↓reduceIte, reduceCtorEq, eq_self]
    refine ⟨by simp only [InR_i64]; omega, loop_next (i + 1) (by omega) (by omega) ?_ ?_⟩
    ·simp only [vsAll, Nat.reduceEqDiff, ↓reduceIte, reduceCtorEq, eq_self, Int.natCast_add, Int.natCast_one]
    ·rw [en]; exact drop _ _ _ rfl
  ·have e : i = h.m := by omega
   subst e
   simp only [vsAll, loadA, loadRow, cellA, opA, okCells, storeObj, dstOk, Nat.reduceMul, Nat.reduceLT, Nat.reduceEqDiff, ↓reduceIte, reduceCtorEq, implies_true, eq_self, wtAll, amF_at, m54]
   refine ret0 ?_
   simp only [vsAll, loadA, loadRow, resA, retA.eq_1, Nat.reduceEqDiff, ↓reduceIte, reduceCtorEq, eq_self, wtAll, Try.results83]
   refine dropR_pure rfl ?_
   intro j x hx
   have e4 : j ≠ i4 := fun e => by rw [e, h4] at hx; cases hx
   have e5 : j ≠ i5 := fun e => by rw [e, h5] at hx; cases hx
   exact ⟨x, by rw [Hp.set_ne _ _ e4, Hp.set_ne _ _ e5, Hp.set_ne _ _ e4]; exact hx, .refl _⟩

end Go.Proofs.Ytclkjifgipcamaa.Wl
end
section
set_option linter.unusedVariables false
set_option linter.unusedSimpArgs false
set_option maxHeartbeats 4000000
set_option maxRecDepth 100000
namespace Go.Proofs.Ytclkjifgipcamaa.Wl
open Go.V
/-- All amounts, on the program's side. -/
def toldB (h : Hd) : Nat → Bool := byN h (2 ^ h.m - 1) h.m

theorem told_tri (h : Hd) (id : Nat) (H : Hp) (k : HOk h) (ho : H id = some (.memo (memoF h))) :
  Tri Try.prog (fnA 39) [hdP h id] H fun r H' => (r = if someB (toldB h) then .ret (amAV (toldB h)) else .pan (.iface 150 (i64 10))) ∧ H' = H := by
 have hm := k.m
 have h1 : 2 ^ h.m ≤ 2 ^ 6 := Nat.pow_le_pow_right (by omega) hm
 refine tri_vs (m := fun _ => false) Try.func39 (by kernel_rfl) rfl (by simp only [List.length_append, List.length_cons, List.length_nil, Try.ntmps39]; decide) ?_
 simp only [vsAll, okAll, stAll, opsA, opA, allocA, dstOk, argFr, Nat.reduceLT, ↓reduceIte, reduceCtorEq, eq_self, wtAll, Try.ntmps39]
 intro i2 h2
 have n2 : i2 ≠ id := fun e => by rw [e, ho] at h2; cases h2
 have m2 : ¬ id = i2 := fun e => n2 e.symm
 refine callK_pure (every_tri h id _ k) ?_
 simp only [vsAll, okAll, stAll, opsA, opA, dstOk, Nat.reduceLT, Nat.reduceEqDiff, ↓reduceIte, eq_self]
 refine callK_pure (by_tri h id (2 ^ h.m - 1) _ k (by rw [Hp.set_ne _ _ m2]; exact ho) (by omega)) ?_
 simp only [vsAll, loadA, loadRow, okAll, stAll, opsA, opA, allocA, storeObj, dstOk, nilSliceOp, Nat.reduceMul, Nat.reduceLT, Nat.reduceEqDiff, ↓reduceIte, eq_self, wtAll]
 intro i3 h3
 have n32 : i3 ≠ i2 := fun e => by rw [if_pos e] at h3; cases h3
 rw [if_neg n32] at h3
 have m32 : ¬ i2 = i3 := fun e => n32 e.symm
 refine ⟨fun j hj => by simp [amF, okCells, cellA], ?_⟩
 refine callK_pure (some_tri (byN h (2 ^ h.m - 1) h.m) _) ?_
 simp only [vsAll, okAll, stAll, opsA, opA, dstOk, Nat.reduceLT, ↓reduceIte, eq_self]
 refine ask_call (fun hb => ?_) (fun hb => ?_)
 ·simp only [vsAll, loadA, loadRow, opA, storeObj, dstOk, Nat.reduceMul, Nat.reduceLT, Nat.reduceEqDiff, ↓reduceIte, eq_self, wtAll, m32]
  refine ⟨fun j hj => by simp [amF, okCells, cellA], ret0 ?_⟩
  simp only [vsAll, loadA, loadRow, resA, retA.eq_1, Nat.reduceEqDiff, ↓reduceIte, eq_self, wtAll, Try.results39]
  refine ⟨H, ?_, ?_, rfl⟩
  ·intro j x hx
   have e2 : j ≠ i2 := fun e => by rw [e, h2] at hx; cases hx
   have e3 : j ≠ i3 := fun e => by rw [e, h3] at hx; cases hx
   exact ⟨x, by rw [Hp.set_ne _ _ e2, Hp.set_ne _ _ e3, Hp.set_ne _ _ e3, Hp.set_ne _ _ e2]; exact hx, .refl _⟩
  ·rw [toldB, hb]; rfl
 ·simp only [vsAll, eq_self]
  refine ⟨H, ?_, ?_, rfl⟩
  ·intro j x hx
   have e2 : j ≠ i2 := fun e => by rw [e, h2] at hx; cases hx
   have e3 : j ≠ i3 := fun e => by rw [e, h3] at hx; cases hx
   exact ⟨x, by rw [Hp.set_ne _ _ e3, Hp.set_ne _ _ e3, Hp.set_ne _ _ e2]; exact hx, .refl _⟩
  ·rw [toldB, hb]; rfl

end Go.Proofs.Ytclkjifgipcamaa.Wl
end
section
set_option linter.unusedVariables false
set_option linter.unusedSimpArgs false
set_option maxHeartbeats 4000000
set_option maxRecDepth 100000
namespace Go.Proofs.Ytclkjifgipcamaa.Wl
open Go.V
theorem wps_of_vs {P : Program} {m : Option Tmp → Bool} {n : Nat} {c : Code} {s : Fr} {ds : List AD} {H : Hp} {Q : Post} (h : VS none P m n [.code c] s ds H Q) : WPS none P n c s ds H Q := vcC_sound c h
abbrev rT : RefT := ⟨150, false⟩
/-- What answer does. -/
-- tri_v0 (fun _ => false) Try.func25 (by kernel_rfl) rfl (by simp only [List.length_append, List.length_cons, List.length_nil, Try.ntmps25]; decide) ?_
theorem ans25 : AnsOk Try.prog 25 rT := by
 have hn : (1 : Nat) ≤ Try.f25.ntmps := by rw [Try.ntmps25]; decide
 refine ⟨fun H id f S vs ho hH ha => ?_, fun H id f c S vs ho hH ha => ?_, fun vs w => by kernel_rfl⟩
 ·refine (ansD (args := [.ref id 0 1 0 0]) (t5 := 5) (t2 := 2) (Q := fun H' => H' = H) (u' := .returning) (rv := .lit .nilIface) (cv := .nilIface) Try.func25 rfl rfl hn (fun c₀ cs hu => .inr ⟨by simp [recoverD, hu], rfl, rfl⟩) hH ha (.lit _) ?_ (by rw [Try.ntmps25]; decide) (by rw [Try.ntmps25]; decide)).mono ?_
  ·refine wps_of_vs (m := fun _ => false) ?_
   simp only [vsAll, binA, binLitA, nilA2, isConst, opA, dstOk, Nat.reduceLT, ↓reduceIte, reduceCtorEq, eq_self, wtAll, Try.ntmps25]
  ·rintro e u w ⟨h1, h2, S', H', h3, h4, h5, rfl⟩
   exact ⟨h1, h2, S', h3, h4, h5⟩
 ·refine (ansD (args := [.ref id 0 1 0 0]) (t5 := 5) (t2 := 2) (Q := fun H' => H' = H.set id (.box 1 1 fun _ => [i64 c])) (u' := .panicking [{ v := Go.V.refusal rT c, recovered := true }]) (rv := .iface 150 (i64 c)) (cv := Go.V.refusal rT c) Try.func25 rfl rfl hn (fun c₀ cs hu => .inl (by simp [recoverD, hu])) hH ha (.iface (.lit _)) ?_ (by rw [Try.ntmps25]; decide) (by rw [Try.ntmps25]; decide)).mono ?_
  ·refine wps_of_vs (m := fun _ => false) ?_
   obtain ⟨bb, cc, e, q1, q2, q3, q4⟩ := hH.obj id _ ho
   have q5 := q4.2.1 0 (by omega)
   simp only [vsAll, binA, nilA2, unA, extractA, nilCheckA, cellA, cellsA, opA, newCells, okCells, storeObj, taA, dstOk, nilSliceOp, argFr, Nat.reduceAdd, Nat.reduceLT, Nat.reduceEqDiff, ↓reduceIte, reduceCtorEq, eq_self, wtAll, Try.ntmps25, ho]
   have : (f 0).drop 1 = [] := List.drop_eq_nil_of_le (by omega)
   rw [this]
  ·rintro e u w ⟨h1, h2, S', H', h3, h4, h5, rfl⟩
   exact ⟨h1, h2, S', h3, h4, h5⟩

end Go.Proofs.Ytclkjifgipcamaa.Wl
end
section
set_option linter.unusedVariables false
set_option linter.unusedSimpArgs false
set_option maxHeartbeats 4000000
set_option maxRecDepth 100000
namespace Go.Proofs.Ytclkjifgipcamaa.Wl
open Go.V
/-- What comes of opening a hold. -/
def openR (h : Hd) (v : Bool) (H : Hp) : Res → Hp → Prop := fun r H' =>
 if HOk h then (if v = true then ∃ id, H id = none ∧ r = .ret (hdP h id) ∧ H' = H.set id (.memo (memoF h)) else r = .pan (.iface 150 (i64 2)) ∧ H' = H)
 else r = .pan (.iface 150 (i64 1)) ∧ H' = H

theorem open_tri (h : Hd) (fv : AV) (v : Bool) (H : Hp) (k : Near h) (hfv : fv.ok) (hst : fv.st = fv)
  (hq : HOk h → ∀ (H' : Hp) (id : Nat), H' id = some (.memo (memoF h)) → PTri Try.prog fv [hdP h id] H' (boo v)) :
  Tri Try.prog (fnA 26) [h.av, fv] H (openR h v H) := by
 have hn := k.n
 have hm := k.m
 refine tri_vs (m := fun _ => false) Try.func26 (by kernel_rfl) rfl (by simp only [List.length_append, List.length_cons, List.length_nil, Try.ntmps26]; decide) ?_
 simp only [vsAll, binA, binLitA, intA, loadA, loadRow, partA, partOk, fieldAddrA, lenA, boxA, boxZ, opA, guardV, dstOk, nilSliceOp, argFr, Nat.reduceAdd, Nat.reduceLT, Nat.reduceEqDiff, Int.reduceEq, ↓reduceIte, implies_true, eq_self, ne_eq, wtAll, Try.ntmps26]
 refine gcall _ (fun hg => ⟨trivial, by simp only [vsAll, okAll, opsA, opA, ↓reduceIte, eq_self, hg], within_tri h.n 3 7 H⟩) ?_
 simp only [vsAll, binA, binLitA, intA, loadA, loadRow, partA, partOk, fieldAddrA, lenA, pickA, okAll, stAll, opsA, opA, guardV, dstOk, Nat.reduceLT, Nat.reduceEqDiff, ↓reduceIte, implies_true, eq_self, wtAll]
 have et : (h.n : Int).tmod 2 = (h.n : Int) % 2 := Int.tmod_eq_emod_of_nonneg (by omega)
 refine ask_call (fun hb => ?_) (fun hb => ?_)
 case refine_2 =>
  have hno : ¬ HOk h := fun q => by
   have q1 := q.n
   have q2 := q.m
   simp only [Bool.and_eq_false_iff, decide_eq_false_iff_not, et] at hb
   omega
  simp only [vsAll, eq_self]
  exact ⟨H, by simp only [HSub_refl], by unfold openR; rw [if_neg hno]; exact ⟨rfl, rfl⟩⟩
 simp only [Bool.and_eq_true, decide_eq_true_eq, et] at hb
 have hn3 : h.n = 3 ∨ h.n = 5 ∨ h.n = 7 := by omega
 have hm6 : h.m ≤ 6 := by omega
 simp only [vsAll, loadA, loadRow, partA, partOk, fieldAddrA, lenA, opA, dstOk, Nat.reduceLT, Nat.reduceEqDiff, ↓reduceIte, eq_self, wtAll]
 refine vs_loop (σ := Nat) (fun i => i ≤ h.n ∧ ∀ j, j < i → 0 ≤ h.fl j ∧ h.fl j ≤ 9) (fun i => [(1, fv), (2, .rptr 1 2 (fun _ => h.cs) 0 0), (29, flAV h.n h.fl), (30, i64 h.n), (31, i64 i)]) (fun _ => H) (fun i => h.n - i) 0 ⟨Nat.zero_le _, fun j hj => absurd hj (by omega)⟩ ?_ ?_ fun i hi => ?_
 ·simp only [vsAll, argFr, Nat.reduceEqDiff, ↓reduceIte, eq_self, Int.natCast_zero]
 ·simp only [HSub_refl]
 ·obtain ⟨hi, hall⟩ := hi
  simp only [vsAll, binA, binLitA, intA, opA, dstOk, Nat.reduceLT, Nat.reduceEqDiff, ↓reduceIte, eq_self]
  refine condD (fun hd => ?_) (fun hd => ?_)
  ·simp only [vsAll, loadA, loadRow, partA, partOk, indexAddrA, okAll, stAll, opsA, opA, dstOk, nilSliceOp, Nat.reduceLT, Nat.reduceEqDiff, ↓reduceIte, eq_self, wtAll]
   refine ⟨by omega, by omega, callK_pure (within_tri (h.fl i) 0 9 H) ?_⟩
   simp only [vsAll, okAll, stAll, opsA, opA, dstOk, Nat.reduceLT, ↓reduceIte, eq_self]
   refine ask_call (fun hc => ?_) (fun hc => ?_)
   ·simp only [Bool.and_eq_true, decide_eq_true_eq] at hc
    simp only [vsAll, binA, binLitA, intA, opA, dstOk, Nat.reduceLT, Nat.reduceEqDiff, ↓reduceIte, eq_self]
    refine ⟨by simp only [InR_i64]; omega, loop_next (i + 1) ⟨by omega, fun j hj => ?_⟩ (by omega) ?_ ?_⟩
    ·by_cases e : j = i
     ·subst e; exact hc
     ·exact hall j (by omega)
    ·simp only [vsAll, Nat.reduceEqDiff, ↓reduceIte, eq_self, Int.natCast_add, Int.natCast_one]
    ·simp only [HSub_refl]
   ·have hno : ¬ HOk h := fun q => by
     have := q.f i (by omega)
     simp only [Bool.and_eq_false_iff, decide_eq_false_iff_not] at hc
     omega
    simp only [vsAll, eq_self]
    exact ⟨H, by simp only [HSub_refl], by unfold openR; rw [if_neg hno]; exact ⟨rfl, rfl⟩⟩
  ·have ei : i = h.n := by omega
   subst ei
   simp only [vsAll, loadA, loadRow, partA, partOk, fieldAddrA, lenA, boxA, boxZ, cellA, cellsA, fillA, okParts, partsA, partsOk, opA, nM, dstOk, nilSliceOp, Nat.reduceAdd, Nat.reduceLT, Nat.reduceLeDiff, Nat.reduceEqDiff, ↓reduceIte, eq_self, wtAll]
   intro id hid
   refine vs_loop (σ := Nat) (fun i => i ≤ h.m ∧ ∀ j, j < i → (0 ≤ (h.sd j).w ∧ (h.sd j).w < h.n) ∧ (-2 ≤ (h.sd j).a ∧ (h.sd j).a ≤ (h.sd j).b ∧ (h.sd j).b ≤ 2) ∧ (0 ≤ (h.sd j).c ∧ (h.sd j).c ≤ (h.sd j).d ∧ (h.sd j).d ≤ 40))
    (fun i => [(1, fv), (8, hdP h id), (44, sdAV h.m h.sd), (45, i64 h.m), (46, i64 i)]) (fun _ => H.set id (.memo (memoF h))) (fun i => h.m - i) 0 ⟨Nat.zero_le _, fun j hj => absurd hj (by omega)⟩ ?_ ?_ fun i hi => ?_
   ·simp only [vsAll, Nat.reduceEqDiff, ↓reduceIte, eq_self, Int.natCast_zero]
   ·exact HSub_set (memo_le (by simp) (by simp))
   ·obtain ⟨hi, hall2⟩ := hi
    simp only [vsAll, binA, binLitA, intA, opA, dstOk, Nat.reduceLT, Nat.reduceEqDiff, Int.reduceNeg, ↓reduceIte, eq_self]
    refine condD (fun hd => ?_) (fun hd => ?_)
    ·simp only [vsAll, loadA, loadRow, partA, partOk, fieldAddrA, indexAddrA, cellA, okAll, stAll, opsA, opA, allocA, newCells, okCells, storeObj, dstOk, Nat.reduceAdd, Nat.reduceLT, Nat.reduceEqDiff, Int.reduceNeg, ↓reduceIte, eq_self, wtAll]
     refine ⟨by omega, by omega, fun i10 h10 => ?_⟩
     have n10 : i10 ≠ id := fun e => by rw [if_pos e] at h10; cases h10
     rw [if_neg n10] at h10
     have hsub : ∀ X Y : Go.V.Obj, Go.V.HSub (((H.set id (.memo (memoF h))).set i10 X).set i10 Y) (H.set id (.memo (memoF h))) := fun X Y => by
      rw [Hp.set_set]
      exact HSub_drop (by rw [Hp.set_ne _ _ n10]; exact h10)
     have hbad : ∀ (c : Int) X Y, ¬ HOk h → dropR (openR h v H) (.pan (.iface 150 (i64 1))) (((H.set id (.memo (memoF h))).set i10 X).set i10 Y) := fun c X Y hno => by
      refine ⟨H, ?_, by unfold openR; rw [if_neg hno]; exact ⟨rfl, rfl⟩⟩
      intro j x hx
      have e1 : j ≠ id := fun e => by rw [e, hid] at hx; cases hx
      have e2 : j ≠ i10 := fun e => by rw [e, h10] at hx; cases hx
      exact ⟨x, by rw [Hp.set_ne _ _ e2, Hp.set_ne _ _ e2, Hp.set_ne _ _ e1]; exact hx, .refl _⟩
     refine callK_pure (isPart_tri h id (h.sd i).w _ k) ?_
     simp only [vsAll, okAll, stAll, opsA, opA, dstOk, Nat.reduceLT, Int.reduceNeg, ↓reduceIte, eq_self]
     refine ask_call (fun c1 => ?_) (fun c1 => ?_)
     case refine_2 =>
      simp only [vsAll, Int.reduceNeg, eq_self]
      exact hbad 0 _ _ fun q => by
       have := q.w i (by omega)
       rw [(partB_iff h _).2 this] at c1; cases c1
     rw [partB_iff] at c1
     simp only [vsAll, loadA, loadRow, partA, partOk, fieldAddrA, okAll, stAll, opsA, opA, dstOk, Nat.reduceLT, Nat.reduceEqDiff, Int.reduceNeg, ↓reduceIte, eq_self, wtAll]
     refine callK_pure (isList_tri (h.sd i).a _) ?_
     simp only [vsAll, loadA, loadRow, partA, partOk, fieldAddrA, opA, guardV, dstOk, Nat.reduceAdd, Nat.reduceLT, Nat.reduceEqDiff, Int.reduceNeg, ↓reduceIte, implies_true, eq_self, wtAll]
     apply gcall
     ·exact fun hg => ⟨trivial, by simp only [vsAll, okAll, opsA, opA, ↓reduceIte, eq_self, hg], isList_tri (h.sd i).b _⟩
     simp only [vsAll, binA, binLitA, intA, loadA, loadRow, partA, partOk, fieldAddrA, pickA, okAll, stAll, opsA, opA, guardV, dstOk, Nat.reduceAdd, Nat.reduceLT, Nat.reduceEqDiff, Int.reduceNeg, ↓reduceIte, implies_true, eq_self, wtAll]
     refine ask_call (fun c2 => ?_) (fun c2 => ?_)
     case refine_2 =>
      simp only [vsAll, Int.reduceNeg, eq_self]
      exact hbad 0 _ _ fun q => by
       have := q.l i (by omega)
       have h1 := (tiltB_iff (h.sd i).a).2 (by omega)
       have h2 := (tiltB_iff (h.sd i).b).2 (by omega)
       rw [h1, h2] at c2
       simp only [Bool.and_self, Bool.true_and, decide_eq_false_iff_not] at c2
       omega
     simp only [Bool.and_eq_true, tiltB_iff, decide_eq_true_eq] at c2
     simp only [vsAll, binA, binLitA, intA, loadA, loadRow, partA, partOk, fieldAddrA, pickA, okAll, stAll, opsA, opA, guardV, dstOk, Nat.reduceAdd, Nat.reduceLT, Nat.reduceEqDiff, Int.reduceNeg, ↓reduceIte, implies_true, eq_self, wtAll]
     refine ask_call (fun c3 => ?_) (fun c3 => ?_)
     case refine_2 =>
      simp only [vsAll, Int.reduceNeg, eq_self]
      exact hbad 0 _ _ fun q => by
       have := q.r i (by omega)
       simp only [Bool.and_eq_false_iff, decide_eq_false_iff_not] at c3
       omega
     simp only [Bool.and_eq_true, decide_eq_true_eq] at c3
     simp only [vsAll, binA, binLitA, intA, opA, dstOk, Nat.reduceLT, Nat.reduceEqDiff, Int.reduceNeg, ↓reduceIte, eq_self]
     refine ⟨by simp only [InR_i64]; omega, loop_next (i + 1) ⟨by omega, fun j hj => ?_⟩ (by omega) ?_ ?_⟩
     ·by_cases e : j = i
      ·subst e; omega
      ·exact hall2 j (by omega)
     ·simp only [vsAll, Nat.reduceEqDiff, ↓reduceIte, eq_self, Int.natCast_add, Int.natCast_one]
     ·exact hsub _ _
    ·have ei : i = h.m := by omega
     subst ei
     have hk : HOk h := ⟨hn3, hm6, hall, fun i hi => (hall2 i hi).1, fun i hi => (hall2 i hi).2.1, fun i hi => (hall2 i hi).2.2⟩
     have hback : Go.V.HSub (H.set id (.memo (memoF h))) H := HSub_drop hid
     simp only [vsAll, okAll, stAll, opsA, opA, dstOk, Nat.reduceLT, Nat.reduceEqDiff, Int.reduceNeg, ↓reduceIte, eq_self, hst, hfv]
     refine callK_pure (hq hk _ id (Hp.set_same _ _ _)) ?_
     simp only [vsAll, okAll, stAll, opsA, opA, dstOk, Nat.reduceLT, ↓reduceIte, eq_self]
     refine ask_call (fun c4 => ?_) (fun c4 => ?_)
     ·simp only [vsAll, opA, dstOk, nilSliceOp, Nat.reduceLT, Nat.reduceEqDiff, ↓reduceIte, eq_self]
      refine ret0 ?_
      simp only [vsAll, resA, retA.eq_1, ↓reduceIte, eq_self, Try.results26]
      refine ⟨H.set id (.memo (memoF h)), by simp only [HSub_refl], ?_⟩
      unfold openR
      rw [if_pos hk, if_pos c4]
      exact ⟨id, hid, rfl, rfl⟩
     ·simp only [vsAll, eq_self]
      refine ⟨H, hback, ?_⟩
      unfold openR
      rw [if_pos hk, if_neg (by rw [c4]; decide)]
      exact ⟨rfl, rfl⟩

end Go.Proofs.Ytclkjifgipcamaa.Wl
end
section
set_option linter.unusedVariables false
set_option linter.unusedSimpArgs false
set_option maxHeartbeats 4000000
set_option maxRecDepth 100000
namespace Go.Proofs.Ytclkjifgipcamaa.Wl
open Go.V
def waterE (h : Hd) : Int := errE h true true
def waterV (h : Hd) : List (Int × Int) := if waterE h = 0 then spansL (allA h) else []

end Go.Proofs.Ytclkjifgipcamaa.Wl
end
section
set_option linter.unusedVariables false
set_option linter.unusedSimpArgs false
set_option maxHeartbeats 4000000
set_option maxRecDepth 100000
namespace Go.Proofs.Ytclkjifgipcamaa.Wl
open Go.V
theorem errE_no {h : Hd} (hno : ¬ HOk h) (v t : Bool) : errE h v t = 1 := by unfold errE; rw [if_neg hno]

theorem open_call {h : Hd} {fv : AV} {v : Bool} {H : Hp} {K : AV → Hp → Prop} {Kp : AV → Hp → Prop} (ht : Tri Try.prog (fnA 26) [h.av, fv] H (openR h v H))
  (h1 : ¬ HOk h → Kp (.iface 150 (i64 1)) H) (h2 : HOk h → v = false → Kp (.iface 150 (i64 2)) H)
  (h3 : HOk h → v = true → ∀ id, H id = none → K (hdP h id) (H.set id (.memo (memoF h)))) : CallK Try.prog (fnA 26) [h.av, fv] H K Kp := by
 refine ⟨_, ht, fun r H' hr => ?_⟩
 unfold openR at hr
 split at hr
 ·rename_i hk
  split at hr
  ·rename_i hv
   obtain ⟨id, hid, rfl, rfl⟩ := hr
   exact h3 hk hv id hid
  ·rename_i hv
   obtain ⟨rfl, rfl⟩ := hr
   exact h2 hk (by simpa using hv)
 ·rename_i hk
  obtain ⟨rfl, rfl⟩ := hr
  exact h1 hk


theorem always_tri (x : AV) (H : Hp) : PTri Try.prog (fnA 38) [x] H (boo true) := by
 refine tri_v0 (fun _ => false) Try.func38 (by kernel_rfl) rfl (by simp only [List.length_append, List.length_cons, List.length_nil, Try.ntmps38]; decide) ?_
 simp only [vsAll, opA, dstOk, nilSliceOp, resA, retA.eq_1, Nat.reduceLT, ↓reduceIte, eq_self, Try.ntmps38, Try.results38]

theorem told_filter (h : Hd) : (List.range 101).filter (toldB h) = allA h := by
 unfold allA amts amtsN
 congr 1
 funext w
 exact byN_can h _ w

/-- Is there a truth? -/
theorem told_some (h : Hd) : someB (toldB h) = true ↔ 0 < (allA h).length := by
 rw [← told_filter, List.length_filter_pos_iff]
 simp only [someB, List.any_eq_true]
theorem errE_told {h : Hd} (hk : HOk h) (hs : someB (toldB h) = true) : errE h true true = 0 := by
 have := (told_some h).1 hs
 unfold errE; rw [if_pos hk, if_pos rfl, if_neg (fun q => by omega)]
theorem errE_clash {h : Hd} (hk : HOk h) (hs : ¬ someB (toldB h) = true) : errE h true true = 10 := by
 have : ¬ 0 < (allA h).length := fun q => hs ((told_some h).2 q)
 unfold errE; rw [if_pos hk, if_pos rfl, if_pos ⟨rfl, by omega⟩]

/-- The spans of the amounts below i, and the last amount of them. -/
def wA (h : Hd) (i : Nat) : List (Int × Int) := spansL ((List.range i).filter (toldB h))
def wL (l : List (Int × Int)) : Int := match l.getLast? with
 | some p => p.2
 | none => -2
theorem wA_no {h : Hd} {i : Nat} (hc : toldB h i = false) : wA h (i + 1) = wA h i := by
 simp [wA, List.range_succ, List.filter_append, hc]
theorem wA_yes {h : Hd} {i : Nat} (hc : toldB h i = true) : wA h (i + 1) = addS (wA h i) i := by
 have : [i].filter (toldB h) = [i] := by simp [hc]
 rw [wA, List.range_succ, List.filter_append, this, spansL_snoc]; rfl
theorem wA_len (h : Hd) (i : Nat) : (wA h i).length ≤ i := by
 have h1 := spansL_len ((List.range i).filter (toldB h))
 have h2 := List.length_filter_le (toldB h) (List.range i)
 rw [List.length_range] at h2
 exact Nat.le_trans h1 h2
theorem addS_new {l : List (Int × Int)} {a : Int} (h : wL l < a - 1) : addS l a = l ++ [(a, a)] := by
 unfold addS wL at *
 split
 ·rename_i p hp
  rw [hp] at h
  simp only at h
  rw [if_neg (by omega)]
 ·rfl
theorem addS_old {l : List (Int × Int)} {a : Int} (h : ¬ wL l < a - 1) (ha : 0 ≤ a) (hl : wL l ≤ a - 1) : ∃ p, l.getLast? = some p ∧ addS l a = l.dropLast ++ [(p.1, a)] := by
 unfold addS wL at *
 cases hp : l.getLast? with
 | none => rw [hp] at h; simp only at h; omega
 | some p => rw [hp] at h hl; simp only at h hl; exact ⟨p, rfl, by simp only; rw [if_pos (by omega)]⟩
theorem upd_last {l : List (Int × Int)} {p : Int × Int} {a : Int} {j : Nat} (hp : l.getLast? = some p) (hj : j < l.length) :
  (if j = l.length - 1 then List.take 1 (spanF l (l.length - 1)) ++ [AV.lit (Value.int IntKind.i64 a)] ++ List.drop 2 (spanF l (l.length - 1)) else spanF l j) = spanF (l.dropLast ++ [(p.1, a)]) j := by
 obtain ⟨ys, rfl⟩ := List.getLast?_eq_some_iff.1 hp
 simp only [List.dropLast_concat, List.length_append, List.length_cons, List.length_nil, Nat.zero_add, Nat.add_sub_cancel, spanF, getD_snoc]
 split
 ·simp
 ·rfl
theorem wL_snoc (l : List (Int × Int)) (p : Int × Int) : wL (l ++ [p]) = p.2 := by simp [wL]

/-- What is told of water, in a row of its own. -/
def waterR (h : Hd) (H : Hp) : Res → Hp → Prop := fun r H' => ∃ id, H id = none ∧ r = .ret (.tuple [.sl id 2 (waterV h).length, i64 (waterE h)]) ∧ H' = H.set id (.row 2 (waterV h).length (spanF (waterV h)))
theorem wwater_triM (h : Hd) (H : Hp) (k : Near h) : Tri Try.prog (fnA 10) [h.av] H (waterR h H) := by
 refine Tri.drop ?_
 refine tri_a (m := mset [2]) ans25 Try.func10 (by kernel_rfl) rfl (by simp only [List.length_append, List.length_cons, List.length_nil, Try.ntmps10]; decide) ?_
 simp only [vsAll, loadA, loadRow, partA, partOk, boxA, boxZ, okAll, stAll, opsA, opA, allocA, dstOk, nilA, nilSliceOp, argFr, Nat.reduceAdd, Nat.reduceLT, Nat.reduceEqDiff, Nat.reduceBEq, Int.reduceNeg, ↓reduceIte, eq_self, wtAll, Try.ntmps10]
 intro i2 hh_i2; (try simp only [Hp.set_none, ite_none] at hh_i2); intro i3 hh_i3; (try simp only [ite_none] at hh_i3)
 refine open_call (open_tri h _ true _ k trivial rfl (fun hk H' id ho => always_tri _ H')) (fun hno => ?_) (fun hk hv => by cases hv) (fun hk hv => ?_)
 ·have e : waterE h = 1 := errE_no hno _ _
  have ev : waterV h = [] := by simp [waterV, e]
  simp only [vsAll, Int.reduceNeg]
  refine ⟨1, i3, _, rfl, rfl, Hp.set_same _ _ _, ?_⟩
  simp only [vsAll, loadA, loadRow, partA, partOk, resA, retA.eq_2, Nat.reduceLT, Nat.reduceEqDiff, Int.reduceNeg, ↓reduceIte, eq_self, wtAll, Try.results10]
  refine ⟨_, ?_, i2, hh_i2, by simp only [vsAll, eq_self, ev, e], rfl⟩
  rw [ev]
  refine HSub_put (o' := .row 2 0 fun _ => []) (by simp only [vsAll, ↓reduceIte, eq_self, hh_i3]) (row0_le _ _ _) ?_
  (repeat (first | exact HSub_rfl | refine HSub_put_eq (by simp only [vsAll, binA, binLitA, intA, aggA, aggV, boolA, nilA2, isConst, unA, loadA, loadRow, partA, partOk, fieldAddrA, indexAddrA, indexA, fieldA, extractA, lenA, nilCheckA, boxA, boxZ, cellA, cellsA, fillA, okParts, buildSliceA, buildMutA, makeSliceA, partIdx, elemsA, lensA, ifaceA, convA, mmA, pickA, okAll, stAll, opsA, partsA, partsOk, opA, allocA, boxMutA, newCells, okCells, storeObj, appendA, guardV, taA, nM, mapUpA, rangeA, nextA, entryA, lookA, sliceA, sliceM, sliceS, boundsA, opO, okO, copyA, dstOk, nilA, quietOk, nilSliceOp, deferV, panA, resA, argFr, retA.eq_1, retA.eq_2, Nat.reduceAdd, Nat.reduceSub, Nat.reduceMul, Nat.reduceLT, Nat.reduceLeDiff, Nat.reduceEqDiff, Nat.reduceBEq, Int.reduceAdd, Int.reduceSub, Int.reduceMul, Int.reduceNeg, Int.reduceLE, Int.reduceLT, Int.reduceEq, Int.reduceNe, Int.reduceToNat, ↓reduceIte, reduceCtorEq, implies_true, forall_const, eq_self, ne_eq, wtAll, Try.ntmps10, Try.results10, hh_i2, hh_i3]) ?_ | refine HSub_drop2 (by simp only [eq_self, hh_i2, hh_i3]) ?_ | refine HSub_keep_eq (by simp only [vsAll, binA, binLitA, intA, aggA, aggV, boolA, nilA2, isConst, unA, loadA, loadRow, partA, partOk, fieldAddrA, indexAddrA, indexA, fieldA, extractA, lenA, nilCheckA, boxA, boxZ, cellA, cellsA, fillA, okParts, buildSliceA, buildMutA, makeSliceA, partIdx, elemsA, lensA, ifaceA, convA, mmA, pickA, okAll, stAll, opsA, partsA, partsOk, opA, allocA, boxMutA, newCells, okCells, storeObj, appendA, guardV, taA, nM, mapUpA, rangeA, nextA, entryA, lookA, sliceA, sliceM, sliceS, boundsA, opO, okO, copyA, dstOk, nilA, quietOk, nilSliceOp, deferV, panA, resA, argFr, retA.eq_1, retA.eq_2, Nat.reduceAdd, Nat.reduceSub, Nat.reduceMul, Nat.reduceLT, Nat.reduceLeDiff, Nat.reduceEqDiff, Nat.reduceBEq, Int.reduceAdd, Int.reduceSub, Int.reduceMul, Int.reduceNeg, Int.reduceLE, Int.reduceLT, Int.reduceEq, Int.reduceNe, Int.reduceToNat, ↓reduceIte, reduceCtorEq, implies_true, forall_const, eq_self, ne_eq, wtAll, Try.ntmps10, Try.results10, hh_i2, hh_i3]) ?_))
 ·intro id hh_id; (try simp only [Hp.set_none] at hh_id)
  simp only [vsAll, okAll, stAll, opsA, opA, dstOk, Nat.reduceLT, Int.reduceNeg, ↓reduceIte, eq_self]
  refine ⟨_, told_tri h id _ hk (by simp only [vsAll, ↓reduceIte, eq_self]), ?_⟩
  rintro r H' ⟨rfl, rfl⟩
  by_cases hs : someB (toldB h) = true
  ·rw [if_pos hs]
   have e : waterE h = 0 := errE_told hk hs
   have ev : waterV h = wA h 101 := by rw [waterV, if_pos e, ← told_filter]; rfl
   simp only [vsAll, loadA, loadRow, opA, allocA, storeObj, dstOk, Nat.reduceMul, Nat.reduceLT, Nat.reduceEqDiff, Int.reduceNeg, ↓reduceIte, eq_self, wtAll]
   intro i5 hh_i5; (try simp only [ite_none] at hh_i5)
   refine ⟨fun j hj => by simp [amF, okCells, cellA], ?_⟩
   refine vs_loop (σ := Nat) (fun i => i ≤ 101 ∧ wL (wA h i) ≤ (i : Int) - 1) (fun i => [(2, .sl i2 2 (wA h i).length), (3, .ref i3 0 1 0 0), (4, i64 (wL (wA h i))), (11, amAV (toldB h)), (12, i64 i)])
    (fun i => ((((H.set i3 (.box 1 1 fun _ => [i64 0])).set id (.memo (memoF h))).set i5 (.box 1 101 (amF (toldB h)))).set i2 (.row 2 (wA h i).length (spanF (wA h i))))) (fun i => 101 - i) 0 ⟨by ((try clear hh_i2 hh_i3 hh_id hh_i5); omega), by show (-2 : Int) ≤ ((0 : Nat) : Int) - 1; ((try clear hh_i2 hh_i3 hh_id hh_i5); omega)⟩ ?_ ?_ fun i hi => ?_
   ·have a0 : wA h 0 = [] := rfl
    have l0 : wL [] = -2 := rfl
    simp only [vsAll, Nat.reduceEqDiff, Int.reduceNeg, ↓reduceIte, eq_self, Int.natCast_zero, a0, l0]
   ·refine HSub_put (o' := .row 2 0 fun _ => []) (by simp only [vsAll, ↓reduceIte, eq_self, hh_i3, hh_id, hh_i5]) (row0_le _ _ _) ?_
    (repeat (first | exact HSub_rfl | refine HSub_put_eq (by simp only [vsAll, ↓reduceIte, eq_self, hh_id, hh_i5]) ?_ | refine HSub_drop2 (by simp only [eq_self, hh_i2, hh_i3, hh_id, hh_i5]) ?_ | refine HSub_keep_eq (by simp only [vsAll, binA, binLitA, intA, aggA, aggV, boolA, nilA2, isConst, unA, loadA, loadRow, partA, partOk, fieldAddrA, indexAddrA, indexA, fieldA, extractA, lenA, nilCheckA, boxA, boxZ, cellA, cellsA, fillA, okParts, buildSliceA, buildMutA, makeSliceA, partIdx, elemsA, lensA, ifaceA, convA, mmA, pickA, okAll, stAll, opsA, partsA, partsOk, opA, allocA, boxMutA, newCells, okCells, storeObj, appendA, guardV, taA, nM, mapUpA, rangeA, nextA, entryA, lookA, sliceA, sliceM, sliceS, boundsA, opO, okO, copyA, dstOk, nilA, quietOk, nilSliceOp, deferV, panA, resA, argFr, retA.eq_1, retA.eq_2, Nat.reduceAdd, Nat.reduceSub, Nat.reduceMul, Nat.reduceLT, Nat.reduceLeDiff, Nat.reduceEqDiff, Nat.reduceBEq, Int.reduceAdd, Int.reduceSub, Int.reduceMul, Int.reduceNeg, Int.reduceLE, Int.reduceLT, Int.reduceEq, Int.reduceNe, Int.reduceToNat, ↓reduceIte, reduceCtorEq, implies_true, forall_const, eq_self, ne_eq, wtAll, Try.ntmps10, Try.results10, hh_i2, hh_i3, hh_id, hh_i5]) ?_))
   ·obtain ⟨hi, hL⟩ := hi
    simp only [vsAll, binA, binLitA, intA, opA, dstOk, Nat.reduceLT, Nat.reduceEqDiff, ↓reduceIte, eq_self]
    refine condD (fun hd => ?_) (fun hd => ?_)
    ·simp only [vsAll, unA, partA, indexA, opA, dstOk, nilSliceOp, Nat.reduceLT, Nat.reduceEqDiff, Nat.reduceBEq, ↓reduceIte, eq_self, wtAll, amF_at]
     refine ⟨by ((try clear hh_i2 hh_i3 hh_id hh_i5); omega), condV (fun hc => ?_) (fun hc => ?_)⟩
     ·simp only [Bool.not_eq_true'] at hc
      have ea := wA_no hc
      simp only [vsAll, binA, binLitA, intA, opA, dstOk, Nat.reduceLT, Nat.reduceEqDiff, ↓reduceIte, eq_self]
      refine ⟨by simp only [InR_i64]; ((try clear hh_i2 hh_i3 hh_id hh_i5); omega), loop_next (i + 1) ⟨by ((try clear hh_i2 hh_i3 hh_id hh_i5); omega), by rw [ea]; ((try clear hh_i2 hh_i3 hh_id hh_i5); omega)⟩ (by ((try clear hh_i2 hh_i3 hh_id hh_i5); omega)) ?_ ?_⟩
      ·simp only [vsAll, Nat.reduceEqDiff, ↓reduceIte, eq_self, ea, Int.natCast_add, Int.natCast_one]
      ·simp only [ea, HSub_refl]
     ·simp only [Bool.not_eq_false'] at hc
      have ea := wA_yes hc
      have al := wA_len h i
      simp only [vsAll, binA, binLitA, intA, opA, dstOk, Nat.reduceLT, Nat.reduceEqDiff, ↓reduceIte, eq_self]
      refine ⟨by simp only [InR_i64]; ((try clear hh_i2 hh_i3 hh_id hh_i5); omega), condD (fun hlt => ?_) (fun hlt => ?_)⟩
      ·have ea2 : wA h (i + 1) = wA h i ++ [((i : Int), (i : Int))] := by rw [ea, addS_new hlt]
       have el2 : wL (wA h (i + 1)) = i := by rw [ea2, wL_snoc]
       have al2 : (wA h (i + 1)).length = (wA h i).length + 1 := by rw [ea2]; simp
       simp only [vsAll, binA, binLitA, intA, fieldAddrA, indexAddrA, lenA, cellA, cellsA, fillA, okParts, buildSliceA, partIdx, elemsA, lensA, partsA, partsOk, opA, newCells, okCells, storeObj, appendA, dstOk, nilSliceOp, Nat.reduceAdd, Nat.reduceMul, Nat.reduceLT, Nat.reduceLeDiff, Nat.reduceEqDiff, Nat.reduceBEq, ↓reduceIte, eq_self, wtAll]
       rw [app_spans _ (i : Int) 0 _ rfl]
       have en : (((wA h i).length + 1 : Nat) : Int) - 1 = ((wA h i).length : Int) := by ((try clear hh_i2 hh_i3 hh_id hh_i5); omega)
       simp only [InR_i64]
       refine ⟨fun j hj => ?_, by ((try clear hh_i2 hh_i3 hh_id hh_i5); omega), by ((try clear hh_i2 hh_i3 hh_id hh_i5); omega), by ((try clear hh_i2 hh_i3 hh_id hh_i5); omega), by ((try clear hh_i2 hh_i3 hh_id hh_i5); omega), by ((try clear hh_i2 hh_i3 hh_id hh_i5); omega), by ((try clear hh_i2 hh_i3 hh_id hh_i5); omega), loop_next (i + 1) ⟨by ((try clear hh_i2 hh_i3 hh_id hh_i5); omega), by rw [el2]; ((try clear hh_i2 hh_i3 hh_id hh_i5); omega)⟩ (by ((try clear hh_i2 hh_i3 hh_id hh_i5); omega)) ?_ ?_⟩
       ·have : j = 0 := by ((try clear hh_i2 hh_i3 hh_id hh_i5); omega)
        subst this
        simp only [vsAll, cellA, okCells, eq_self]
       ·simp only [vsAll, Nat.reduceEqDiff, ↓reduceIte, eq_self, al2, el2, Int.natCast_add, Int.natCast_one]
       ·simp only [Hp.set_set, al2]
        refine HSub_set (row_ext fun j hj => ?_)
        rw [ea2]
        rw [updF_at (by ((try clear hh_i2 hh_i3 hh_id hh_i5); omega)) hj]
        have en2 : ((((wA h i).length + 1 : Nat) : Int) - 1).toNat = (wA h i).length := by ((try clear hh_i2 hh_i3 hh_id hh_i5); omega)
        rw [en2]
        simp only [spanF, getD_snoc]
        split
        ·rename_i e; subst e; simp []
        ·rfl
      ·obtain ⟨p, hp, ea2⟩ := addS_old hlt (by ((try clear hh_i2 hh_i3 hh_id hh_i5); omega)) hL
       rw [← ea] at ea2
       have hpos : 0 < (wA h i).length := by cases hq : wA h i with
        | nil => rw [hq] at hp; cases hp
        | cons => simp
       have el2 : wL (wA h (i + 1)) = i := by rw [ea2, wL_snoc]
       have al2 : (wA h (i + 1)).length = (wA h i).length := by rw [ea2]; simp; ((try clear hh_i2 hh_i3 hh_id hh_i5); omega)
       simp only [vsAll, binA, binLitA, intA, fieldAddrA, indexAddrA, lenA, cellA, cellsA, opA, newCells, okCells, storeObj, dstOk, nilSliceOp, Nat.reduceAdd, Nat.reduceLT, Nat.reduceEqDiff, Nat.reduceBEq, ↓reduceIte, eq_self, wtAll]
       simp only [InR_i64]
       refine ⟨by ((try clear hh_i2 hh_i3 hh_id hh_i5); omega), by ((try clear hh_i2 hh_i3 hh_id hh_i5); omega), by ((try clear hh_i2 hh_i3 hh_id hh_i5); omega), by ((try clear hh_i2 hh_i3 hh_id hh_i5); omega), loop_next (i + 1) ⟨by ((try clear hh_i2 hh_i3 hh_id hh_i5); omega), by rw [el2]; ((try clear hh_i2 hh_i3 hh_id hh_i5); omega)⟩ (by ((try clear hh_i2 hh_i3 hh_id hh_i5); omega)) ?_ ?_⟩
       ·simp only [vsAll, Nat.reduceEqDiff, ↓reduceIte, eq_self, al2, el2, Int.natCast_add, Int.natCast_one]
       ·simp only [Hp.set_set, al2]
        refine HSub_set (row_ext fun j hj => ?_)
        rw [updF_at (by ((try clear hh_i2 hh_i3 hh_id hh_i5); omega)) hj]
        have en2 : (((wA h i).length : Int) - 1).toNat = (wA h i).length - 1 := by ((try clear hh_i2 hh_i3 hh_id hh_i5); omega)
        rw [en2]
        rw [ea2]; exact upd_last hp hj
    ·have ei : i = 101 := by ((try clear hh_i2 hh_i3 hh_id hh_i5); omega)
     subst ei
     simp only [vsAll, cellA, cellsA, opA, newCells, okCells, storeObj, dstOk, nilSliceOp, Nat.reduceLT, Nat.reduceEqDiff, Nat.reduceBEq, ↓reduceIte, eq_self, wtAll, hh_i3, hh_id, hh_i5]
     refine Ent.ret ⟨i3, fun _ => [i64 0], rfl, by simp only [vsAll, ↓reduceIte, eq_self], ?_⟩
     simp only [vsAll, loadA, loadRow, partA, partOk, resA, retA.eq_2, Nat.reduceLT, Nat.reduceEqDiff, ↓reduceIte, eq_self, wtAll, Try.results10]
     refine ⟨_, ?_, i2, hh_i2, by simp only [eq_self, ev, e], rfl⟩
     rw [ev]
     (repeat (first | exact HSub_rfl | refine HSub_put_eq (by simp only [vsAll, ↓reduceIte, eq_self, hh_i3]) ?_ | refine HSub_drop2 (by simp only [eq_self, hh_i2, hh_i3, hh_id, hh_i5]) ?_ | refine HSub_keep_eq (by simp only [vsAll, binA, binLitA, intA, aggA, aggV, boolA, nilA2, isConst, unA, loadA, loadRow, partA, partOk, fieldAddrA, indexAddrA, indexA, fieldA, extractA, lenA, nilCheckA, boxA, boxZ, cellA, cellsA, fillA, okParts, buildSliceA, buildMutA, makeSliceA, partIdx, elemsA, lensA, ifaceA, convA, mmA, pickA, okAll, stAll, opsA, partsA, partsOk, opA, allocA, boxMutA, newCells, okCells, storeObj, appendA, guardV, taA, nM, mapUpA, rangeA, nextA, entryA, lookA, sliceA, sliceM, sliceS, boundsA, opO, okO, copyA, dstOk, nilA, quietOk, nilSliceOp, deferV, panA, resA, argFr, retA.eq_1, retA.eq_2, Nat.reduceAdd, Nat.reduceSub, Nat.reduceMul, Nat.reduceLT, Nat.reduceLeDiff, Nat.reduceEqDiff, Nat.reduceBEq, Int.reduceAdd, Int.reduceSub, Int.reduceMul, Int.reduceNeg, Int.reduceLE, Int.reduceLT, Int.reduceEq, Int.reduceNe, Int.reduceToNat, ↓reduceIte, reduceCtorEq, implies_true, forall_const, eq_self, ne_eq, wtAll, Try.ntmps10, Try.results10, hh_i2, hh_i3, hh_id, hh_i5]) ?_))
  ·have e : waterE h = 10 := errE_clash hk hs
   have ev : waterV h = [] := by simp [waterV, e]
   rw [if_neg hs]
   simp only [vsAll, Int.reduceNeg]
   refine ⟨10, i3, fun _ => [i64 0], rfl, rfl, by simp only [vsAll, ↓reduceIte, eq_self, hh_id], ?_⟩
   simp only [vsAll, loadA, loadRow, partA, partOk, resA, retA.eq_2, Nat.reduceLT, Nat.reduceEqDiff, Int.reduceNeg, ↓reduceIte, eq_self, wtAll, Try.results10]
   refine ⟨_, ?_, i2, hh_i2, by simp only [vsAll, eq_self, ev, e], rfl⟩
   rw [ev]
   refine HSub_put (o' := .row 2 0 fun _ => []) (by simp only [vsAll, ↓reduceIte, eq_self, hh_i3, hh_id]) (row0_le _ _ _) ?_
   (repeat (first | exact HSub_rfl | refine HSub_put_eq (by simp only [vsAll, binA, binLitA, intA, aggA, aggV, boolA, nilA2, isConst, unA, loadA, loadRow, partA, partOk, fieldAddrA, indexAddrA, indexA, fieldA, extractA, lenA, nilCheckA, boxA, boxZ, cellA, cellsA, fillA, okParts, buildSliceA, buildMutA, makeSliceA, partIdx, elemsA, lensA, ifaceA, convA, mmA, pickA, okAll, stAll, opsA, partsA, partsOk, opA, allocA, boxMutA, newCells, okCells, storeObj, appendA, guardV, taA, nM, mapUpA, rangeA, nextA, entryA, lookA, sliceA, sliceM, sliceS, boundsA, opO, okO, copyA, dstOk, nilA, quietOk, nilSliceOp, deferV, panA, resA, argFr, retA.eq_1, retA.eq_2, Nat.reduceAdd, Nat.reduceSub, Nat.reduceMul, Nat.reduceLT, Nat.reduceLeDiff, Nat.reduceEqDiff, Nat.reduceBEq, Int.reduceAdd, Int.reduceSub, Int.reduceMul, Int.reduceNeg, Int.reduceLE, Int.reduceLT, Int.reduceEq, Int.reduceNe, Int.reduceToNat, ↓reduceIte, reduceCtorEq, implies_true, forall_const, eq_self, ne_eq, wtAll, Try.ntmps10, Try.results10, hh_i2, hh_i3, hh_id]) ?_ | refine HSub_drop2 (by simp only [eq_self, hh_i2, hh_i3, hh_id]) ?_ | refine HSub_keep_eq (by simp only [vsAll, binA, binLitA, intA, aggA, aggV, boolA, nilA2, isConst, unA, loadA, loadRow, partA, partOk, fieldAddrA, indexAddrA, indexA, fieldA, extractA, lenA, nilCheckA, boxA, boxZ, cellA, cellsA, fillA, okParts, buildSliceA, buildMutA, makeSliceA, partIdx, elemsA, lensA, ifaceA, convA, mmA, pickA, okAll, stAll, opsA, partsA, partsOk, opA, allocA, boxMutA, newCells, okCells, storeObj, appendA, guardV, taA, nM, mapUpA, rangeA, nextA, entryA, lookA, sliceA, sliceM, sliceS, boundsA, opO, okO, copyA, dstOk, nilA, quietOk, nilSliceOp, deferV, panA, resA, argFr, retA.eq_1, retA.eq_2, Nat.reduceAdd, Nat.reduceSub, Nat.reduceMul, Nat.reduceLT, Nat.reduceLeDiff, Nat.reduceEqDiff, Nat.reduceBEq, Int.reduceAdd, Int.reduceSub, Int.reduceMul, Int.reduceNeg, Int.reduceLE, Int.reduceLT, Int.reduceEq, Int.reduceNe, Int.reduceToNat, ↓reduceIte, reduceCtorEq, implies_true, forall_const, eq_self, ne_eq, wtAll, Try.ntmps10, Try.results10, hh_i2, hh_i3, hh_id]) ?_))
theorem wwater_tri (h : Hd) (H : Hp) (k : Near h) : PTri Try.prog (fnA 10) [h.av] H (.tuple [spansAV (waterV h), i64 (waterE h)]) := by
 refine Tri.thaw (wwater_triM h H k) ?_
 rintro r H' ⟨id, hid, rfl, rfl⟩
 right
 exact ⟨_, id, 2, _, _, 0, rfl, Hp.set_same _ _ _, by simp, rfl, rfl, set_del hid⟩

end Go.Proofs.Ytclkjifgipcamaa.Wl
end
section
set_option linter.unusedVariables false
set_option linter.unusedSimpArgs false
set_option maxHeartbeats 4000000
set_option maxRecDepth 100000
namespace Go.Proofs.Ytclkjifgipcamaa.Wl
open Go.V
theorem isAmount_tri (w : Int) (H : Hp) : PTri Try.prog (fnA 28) [i64 w] H (boo (decide (0 ≤ w) && decide (w ≤ 100))) := by
 refine tri_v0 (fun _ => false) Try.func28 (by kernel_rfl) rfl (by simp only [List.length_append, List.length_cons, List.length_nil, Try.ntmps28]; decide) ?_
 simp only [vsAll, okAll, stAll, opsA, opA, dstOk, nilSliceOp, argFr, Nat.reduceLT, ↓reduceIte, reduceCtorEq, eq_self, Try.ntmps28]
 refine callK_pure (within_tri w 0 100 H) ?_
 simp only [vsAll, opA, dstOk, nilSliceOp, resA, retA.eq_1, Nat.reduceLT, ↓reduceIte, eq_self, Try.results28]

/-- What Depth tells. -/
def dAsk (h : Hd) (w t p : Int) : Bool := (decide (0 ≤ w) && decide (w ≤ 100)) && tiltB t && partB h p
def depV (h : Hd) (w t p : Int) : Int := if HOk h then (if dAsk h w t p = true then dz h w t p else 0) else 0
def depE (h : Hd) (w t p : Int) : Int := if HOk h then (if dAsk h w t p = true then 0 else 2) else 1

/-- The question of Depth. -/
def cpV (x : Int) : AV := .rptr 1 1 (fun _ => [i64 x]) 0 0
theorem dask_tri (h : Hd) (id : Nat) (w t p : Int) (H : Hp) (k : Near h) : PTri Try.prog (.func (.func 27) [] [.rptr 1 1 (fun _ => [i64 w]) 0 0, .rptr 1 1 (fun _ => [i64 t]) 0 0, .rptr 1 1 (fun _ => [i64 p]) 0 0]) [hdP h id] H (boo (dAsk h w t p)) := by
 refine tri_v0 (fun _ => false) Try.func27 (by kernel_rfl) rfl (by simp only [List.length_append, List.length_cons, List.length_nil, Try.ntmps27]; decide) ?_
 simp only [vsAll, loadA, loadRow, partA, partOk, okAll, stAll, opsA, opA, dstOk, nilSliceOp, argFr, Nat.reduceLT, Nat.reduceEqDiff, ↓reduceIte, eq_self, wtAll, Try.ntmps27]
 refine callK_pure (isAmount_tri w H) ?_
 simp only [vsAll, loadA, loadRow, partA, partOk, opA, guardV, dstOk, argFr, Nat.reduceLT, Nat.reduceEqDiff, ↓reduceIte, implies_true, eq_self, wtAll]
 refine gcall (boo (tiltB t)) (fun hg => ⟨by simp only [vsAll, opA], by simp only [vsAll, okAll, opsA, opA, ↓reduceIte, eq_self, hg], ?_⟩) ?_
 ·simp only [vsAll, stAll, opsA, opA, ↓reduceIte, eq_self, hg]
  exact isList_tri t H
 simp only [vsAll, loadA, loadRow, partA, partOk, pickA, opA, guardV, dstOk, argFr, Nat.reduceLT, Nat.reduceEqDiff, ↓reduceIte, reduceCtorEq, implies_true, eq_self, wtAll]
 refine gcall (boo (partB h p)) (fun hg => ⟨by simp only [vsAll, opA], by simp only [vsAll, okAll, opsA, opA, Nat.reduceEqDiff, ↓reduceIte, eq_self, hg], ?_⟩) ?_
 ·simp only [vsAll, stAll, opsA, opA, Nat.reduceEqDiff, ↓reduceIte, eq_self, hg]
  exact isPart_tri h id p H k
 cases c1 : (decide (0 ≤ w) && decide (w ≤ 100)) <;> cases c2 : tiltB t <;> cases c3 : partB h p <;> simp only [vsAll, pickA, opA, dstOk, nilSliceOp, resA, retA.eq_1, Nat.reduceLT, Nat.reduceEqDiff, ↓reduceIte, implies_true, eq_self, Try.results27, dAsk, c1, c2, c3]

theorem wdepth_tri (h : Hd) (w t p : Int) (H : Hp) (k : Near h) : PTri Try.prog (fnA 8) [h.av, i64 w, i64 t, i64 p] H (.tuple [i64 (depV h w t p), i64 (depE h w t p)]) := by
 refine Tri.drop ?_
 refine tri_a (m := mset [8]) ans25 Try.func8 (by kernel_rfl) rfl (by simp only [List.length_append, List.length_cons, List.length_nil, Try.ntmps8]; decide) ?_
 simp only [vsAll, loadA, loadRow, partA, partOk, boxA, boxZ, cellA, okAll, stAll, opsA, opA, allocA, dstOk, nilSliceOp, argFr, Nat.reduceAdd, Nat.reduceLT, Nat.reduceEqDiff, Nat.reduceBEq, ↓reduceIte, eq_self, wtAll, Try.ntmps8]
 intro i2 hh_i2; (try simp only [Hp.set_none, ite_none] at hh_i2)
 refine open_call (open_tri h _ (dAsk h w t p) _ k trivial rfl (fun hk H' id ho => dask_tri h id w t p H' k)) (fun hno => ?_) (fun hk hv => ?_) (fun hk hv => ?_)
 ·simp only [vsAll, depV, depE, if_neg hno]
  refine ⟨1, i2, _, rfl, rfl, Hp.set_same _ _ _, ?_⟩
  simp only [vsAll, loadA, loadRow, partA, partOk, resA, retA.eq_2, Nat.reduceLT, Nat.reduceEqDiff, ↓reduceIte, eq_self, wtAll, Try.results8]
  refine ⟨H, ?_, rfl, rfl⟩
  (repeat (first | exact HSub_rfl | refine HSub_put_eq (by simp only [vsAll, binA, binLitA, intA, aggA, aggV, boolA, nilA2, isConst, unA, loadA, loadRow, partA, partOk, fieldAddrA, indexAddrA, indexA, fieldA, extractA, lenA, nilCheckA, boxA, boxZ, cellA, cellsA, fillA, okParts, buildSliceA, buildMutA, makeSliceA, partIdx, elemsA, lensA, ifaceA, convA, mmA, pickA, okAll, stAll, opsA, partsA, partsOk, opA, allocA, boxMutA, newCells, okCells, storeObj, appendA, guardV, taA, nM, mapUpA, rangeA, nextA, entryA, lookA, sliceA, sliceM, sliceS, boundsA, opO, okO, copyA, dstOk, nilA, quietOk, nilSliceOp, deferV, panA, resA, argFr, retA.eq_1, retA.eq_2, Nat.reduceAdd, Nat.reduceSub, Nat.reduceMul, Nat.reduceLT, Nat.reduceLeDiff, Nat.reduceEqDiff, Nat.reduceBEq, Int.reduceAdd, Int.reduceSub, Int.reduceMul, Int.reduceNeg, Int.reduceLE, Int.reduceLT, Int.reduceEq, Int.reduceNe, Int.reduceToNat, ↓reduceIte, reduceCtorEq, implies_true, forall_const, eq_self, ne_eq, wtAll, Try.ntmps8, Try.results8, hh_i2]) ?_ | refine HSub_drop2 (by simp only [eq_self, hh_i2]) ?_ | refine HSub_keep_eq (by simp only [vsAll, binA, binLitA, intA, aggA, aggV, boolA, nilA2, isConst, unA, loadA, loadRow, partA, partOk, fieldAddrA, indexAddrA, indexA, fieldA, extractA, lenA, nilCheckA, boxA, boxZ, cellA, cellsA, fillA, okParts, buildSliceA, buildMutA, makeSliceA, partIdx, elemsA, lensA, ifaceA, convA, mmA, pickA, okAll, stAll, opsA, partsA, partsOk, opA, allocA, boxMutA, newCells, okCells, storeObj, appendA, guardV, taA, nM, mapUpA, rangeA, nextA, entryA, lookA, sliceA, sliceM, sliceS, boundsA, opO, okO, copyA, dstOk, nilA, quietOk, nilSliceOp, deferV, panA, resA, argFr, retA.eq_1, retA.eq_2, Nat.reduceAdd, Nat.reduceSub, Nat.reduceMul, Nat.reduceLT, Nat.reduceLeDiff, Nat.reduceEqDiff, Nat.reduceBEq, Int.reduceAdd, Int.reduceSub, Int.reduceMul, Int.reduceNeg, Int.reduceLE, Int.reduceLT, Int.reduceEq, Int.reduceNe, Int.reduceToNat, ↓reduceIte, reduceCtorEq, implies_true, forall_const, eq_self, ne_eq, wtAll, Try.ntmps8, Try.results8, hh_i2]) ?_))
 ·simp only [vsAll, ↓reduceIte, depV, depE, if_pos hk, hv]
  refine ⟨2, i2, _, rfl, rfl, Hp.set_same _ _ _, ?_⟩
  simp only [vsAll, loadA, loadRow, partA, partOk, resA, retA.eq_2, Nat.reduceLT, Nat.reduceEqDiff, ↓reduceIte, eq_self, wtAll, Try.results8]
  refine ⟨H, ?_, rfl, rfl⟩
  (repeat (first | exact HSub_rfl | refine HSub_put_eq (by simp only [vsAll, binA, binLitA, intA, aggA, aggV, boolA, nilA2, isConst, unA, loadA, loadRow, partA, partOk, fieldAddrA, indexAddrA, indexA, fieldA, extractA, lenA, nilCheckA, boxA, boxZ, cellA, cellsA, fillA, okParts, buildSliceA, buildMutA, makeSliceA, partIdx, elemsA, lensA, ifaceA, convA, mmA, pickA, okAll, stAll, opsA, partsA, partsOk, opA, allocA, boxMutA, newCells, okCells, storeObj, appendA, guardV, taA, nM, mapUpA, rangeA, nextA, entryA, lookA, sliceA, sliceM, sliceS, boundsA, opO, okO, copyA, dstOk, nilA, quietOk, nilSliceOp, deferV, panA, resA, argFr, retA.eq_1, retA.eq_2, Nat.reduceAdd, Nat.reduceSub, Nat.reduceMul, Nat.reduceLT, Nat.reduceLeDiff, Nat.reduceEqDiff, Nat.reduceBEq, Int.reduceAdd, Int.reduceSub, Int.reduceMul, Int.reduceNeg, Int.reduceLE, Int.reduceLT, Int.reduceEq, Int.reduceNe, Int.reduceToNat, ↓reduceIte, reduceCtorEq, implies_true, forall_const, eq_self, ne_eq, wtAll, Try.ntmps8, Try.results8, hh_i2]) ?_ | refine HSub_drop2 (by simp only [eq_self, hh_i2]) ?_ | refine HSub_keep_eq (by simp only [vsAll, binA, binLitA, intA, aggA, aggV, boolA, nilA2, isConst, unA, loadA, loadRow, partA, partOk, fieldAddrA, indexAddrA, indexA, fieldA, extractA, lenA, nilCheckA, boxA, boxZ, cellA, cellsA, fillA, okParts, buildSliceA, buildMutA, makeSliceA, partIdx, elemsA, lensA, ifaceA, convA, mmA, pickA, okAll, stAll, opsA, partsA, partsOk, opA, allocA, boxMutA, newCells, okCells, storeObj, appendA, guardV, taA, nM, mapUpA, rangeA, nextA, entryA, lookA, sliceA, sliceM, sliceS, boundsA, opO, okO, copyA, dstOk, nilA, quietOk, nilSliceOp, deferV, panA, resA, argFr, retA.eq_1, retA.eq_2, Nat.reduceAdd, Nat.reduceSub, Nat.reduceMul, Nat.reduceLT, Nat.reduceLeDiff, Nat.reduceEqDiff, Nat.reduceBEq, Int.reduceAdd, Int.reduceSub, Int.reduceMul, Int.reduceNeg, Int.reduceLE, Int.reduceLT, Int.reduceEq, Int.reduceNe, Int.reduceToNat, ↓reduceIte, reduceCtorEq, implies_true, forall_const, eq_self, ne_eq, wtAll, Try.ntmps8, Try.results8, hh_i2]) ?_))
 ·intro id hh_id; (try simp only [Hp.set_none] at hh_id)
  simp only [vsAll, loadA, loadRow, partA, partOk, okAll, stAll, opsA, opA, dstOk, nilSliceOp, Nat.reduceLT, Nat.reduceEqDiff, Nat.reduceBEq, ↓reduceIte, eq_self, wtAll, depV, depE, if_pos hk, hv]
  obtain ⟨⟨a1, a2⟩, a3, a4⟩ : ((0 ≤ w ∧ w ≤ 100) ∧ (-2 ≤ t ∧ t ≤ 2)) ∧ 0 ≤ p ∧ p < h.n := by
   simp only [dAsk, tiltB, partB, Bool.and_eq_true, decide_eq_true_eq] at hv
   ((try clear hh_i2 hh_id); omega)
  refine callK_pure (wdeep_tri h id w t p _ hk (by simp only [vsAll, ↓reduceIte, eq_self]) a1 a2 ⟨a3, a4⟩) ?_
  simp only [vsAll, cellA, cellsA, opA, newCells, okCells, storeObj, dstOk, nilSliceOp, Nat.reduceLT, Nat.reduceEqDiff, Nat.reduceBEq, ↓reduceIte, eq_self, wtAll, hh_id]
  refine Ent.ret ⟨i2, fun _ => [i64 0], rfl, by simp only [vsAll, ↓reduceIte, eq_self], ?_⟩
  simp only [vsAll, loadA, loadRow, partA, partOk, resA, retA.eq_2, Nat.reduceLT, Nat.reduceEqDiff, ↓reduceIte, eq_self, wtAll, Try.results8]
  refine ⟨H, ?_, rfl, rfl⟩
  (repeat (first | exact HSub_rfl | refine HSub_put_eq (by simp only [vsAll, binA, binLitA, intA, aggA, aggV, boolA, nilA2, isConst, unA, loadA, loadRow, partA, partOk, fieldAddrA, indexAddrA, indexA, fieldA, extractA, lenA, nilCheckA, boxA, boxZ, cellA, cellsA, fillA, okParts, buildSliceA, buildMutA, makeSliceA, partIdx, elemsA, lensA, ifaceA, convA, mmA, pickA, okAll, stAll, opsA, partsA, partsOk, opA, allocA, boxMutA, newCells, okCells, storeObj, appendA, guardV, taA, nM, mapUpA, rangeA, nextA, entryA, lookA, sliceA, sliceM, sliceS, boundsA, opO, okO, copyA, dstOk, nilA, quietOk, nilSliceOp, deferV, panA, resA, argFr, retA.eq_1, retA.eq_2, Nat.reduceAdd, Nat.reduceSub, Nat.reduceMul, Nat.reduceLT, Nat.reduceLeDiff, Nat.reduceEqDiff, Nat.reduceBEq, Int.reduceAdd, Int.reduceSub, Int.reduceMul, Int.reduceNeg, Int.reduceLE, Int.reduceLT, Int.reduceEq, Int.reduceNe, Int.reduceToNat, ↓reduceIte, reduceCtorEq, implies_true, forall_const, eq_self, ne_eq, wtAll, Try.ntmps8, Try.results8, hh_i2, hh_id]) ?_ | refine HSub_drop2 (by simp only [eq_self, hh_i2, hh_id]) ?_ | refine HSub_keep_eq (by simp only [vsAll, binA, binLitA, intA, aggA, aggV, boolA, nilA2, isConst, unA, loadA, loadRow, partA, partOk, fieldAddrA, indexAddrA, indexA, fieldA, extractA, lenA, nilCheckA, boxA, boxZ, cellA, cellsA, fillA, okParts, buildSliceA, buildMutA, makeSliceA, partIdx, elemsA, lensA, ifaceA, convA, mmA, pickA, okAll, stAll, opsA, partsA, partsOk, opA, allocA, boxMutA, newCells, okCells, storeObj, appendA, guardV, taA, nM, mapUpA, rangeA, nextA, entryA, lookA, sliceA, sliceM, sliceS, boundsA, opO, okO, copyA, dstOk, nilA, quietOk, nilSliceOp, deferV, panA, resA, argFr, retA.eq_1, retA.eq_2, Nat.reduceAdd, Nat.reduceSub, Nat.reduceMul, Nat.reduceLT, Nat.reduceLeDiff, Nat.reduceEqDiff, Nat.reduceBEq, Int.reduceAdd, Int.reduceSub, Int.reduceMul, Int.reduceNeg, Int.reduceLE, Int.reduceLT, Int.reduceEq, Int.reduceNe, Int.reduceToNat, ↓reduceIte, reduceCtorEq, implies_true, forall_const, eq_self, ne_eq, wtAll, Try.ntmps8, Try.results8, hh_i2, hh_id]) ?_))
end Go.Proofs.Ytclkjifgipcamaa.Wl
end
section
set_option linter.unusedVariables false
set_option linter.unusedSimpArgs false
set_option maxHeartbeats 4000000
set_option maxRecDepth 100000
namespace Go.Proofs.Ytclkjifgipcamaa
open Go.V
theorem und165 : Program.underlying Try.prog 165 = some (.map 86 91) := by kernel_rfl
theorem mapZ165 : mapZ Try.prog 165 = some (.int .u64 0) := by kernel_rfl
theorem key86 : Maps.Keyed Try.prog 86 := Maps.Keyed.of_law (deep_law_laid (by kernel_rfl) (m := 10) (by decide) (by decide +kernel) (by kernel_rfl) (by kernel_rfl))
abbrev plcV (d l : Int) : Value := .agg #[.int .i64 d, .int .i64 l]
def wetM (h : Hl) : Value → Value → Prop := fun k v => ∃ d l : Int, k = plcV d l ∧ (0 ≤ d ∧ d ≤ 12) ∧ (-3 ≤ l ∧ l ≤ 3) ∧ v = .int .u64 (wetS h d l : Nat)
theorem plcK (d l : Int) (hd : 0 ≤ d ∧ d ≤ 12) (hl : -3 ≤ l ∧ l ≤ 3) : ∃ s, keyOf Try.prog 86 (plcV d l) = some s := by
 have := keyOf_ints (P := Try.prog) (k := 86) (d := 5) (n := 2) (by kernel_rfl) (by decide +kernel) (by kernel_rfl) (by kernel_rfl) (l := [d, l]) rfl (by kernel_rfl) (by
  intro x hx
  simp only [List.mem_cons, List.not_mem_nil, or_false] at hx
  rcases hx with rfl | rfl
  ·exact wf_i64 (by simp only [InR_i64]; omega)
  ·exact wf_i64 (by simp only [InR_i64]; omega))
 exact this
theorem sd_mul (x l : Int) (hx : -1 ≤ x ∧ x ≤ 1) (hl : -3 ≤ l ∧ l ≤ 3) : -3 ≤ x * l ∧ x * l ≤ 3 := by
 rcases (by omega : x = -1 ∨ x = 0 ∨ x = 1) with rfl | rfl | rfl <;> omega
theorem lwet_tri (h : Hl) (im : Nat) (d l : Int) (H : Hp) (k : OkH h) (ho : H im = some (.memo (wetM h))) (hd : 0 ≤ d ∧ d ≤ 12) (hl : -3 ≤ l ∧ l ≤ 3) :
  PTri Try.prog (fnA 37) [hP h im, .agg [i64 d, i64 l]] H (u64 (wetS h d l : Nat)) := by
 have nS := k.nS
 have hNe : h.N = h.sm.length := rfl
 refine Tri.unpack ho fun es ck hes hpw => ?_
 obtain ⟨o, hfo, hst, hcase⟩ := found_of und165 key86 (plcK d l hd hl) (fun e he => by
  obtain ⟨d', l', h1, h2, h3, _⟩ := hes e he
  rw [h1]; exact plcK d' l' h2 h3) hpw
 have hback : Go.V.HSub (H.set im (.raw (.map es ck))) H := HSub_set' ho (memo_le hes hpw)
 refine tri_vs (m := fun _ => false) Try.func37 (by kernel_rfl) rfl (by simp only [List.length_append, List.length_cons, List.length_nil, Try.ntmps37]; decide) ?_
 simp only [vsAll, boxA, boxZ, opA, dstOk, nilSliceOp, argFr, Nat.reduceAdd, Nat.reduceLT, eq_self, wtAll, Try.ntmps37]
 refine vs_draw2 [0, 0, 0, 0, 0, 0, 0, 0, 0, 0, 0] [] [0, 1, 2, 3, 4, 5, 6, 7, 8, 9, 10] (by decide +kernel) ?_
 simp only [vsAll, loadA, loadRow, partA, partOk, fieldAddrA, extractA, nilCheckA, opA, lookA, dstOk, argFr, Nat.reduceAdd, Nat.reduceLT, Nat.reduceEqDiff, ↓reduceIte, reduceCtorEq, eq_self, wtAll, mapZ165]
 refine ⟨o, hfo _, ?_⟩
 rcases hcase with ⟨rfl, hno⟩ | ⟨j, e, rfl, hj, hk⟩
 ·simp only [vsAll, loadA, loadRow, partA, partOk, fieldAddrA, lenA, nilCheckA, opA, dstOk, nilSliceOp, argFr, Nat.reduceLT, ↓reduceIte, reduceCtorEq, eq_self, wtAll]
  refine vs_loop (σ := Nat) (fun i => i ≤ h.sm.length) (fun i => [(0, hP h im), (3, .rptr 1 2 (fun _ => [i64 d, i64 l]) 0 0), (7, u64 (wetN h d l i : Nat)), (25, lkAV h.sm), (26, i64 h.sm.length), (27, i64 i)])
   (fun _ => H.set im (.raw (.map es ck))) (fun i => h.sm.length - i) 0 (Nat.zero_le _) ?_ HSub_rfl fun i hi => ?_
  ·have e0 : wetN h d l 0 = 0 := rfl
   simp only [vsAll, argFr, Nat.reduceEqDiff, ↓reduceIte, reduceCtorEq, eq_self, Int.natCast_zero, e0]
  ·simp only [vsAll, binA, binLitA, intA, opA, dstOk, Nat.reduceLT, Nat.reduceEqDiff, ↓reduceIte, reduceCtorEq, eq_self]
   refine condD (fun hd2 => ?_) (fun hd2 => ?_)
   ·have his : i < h.sm.length := by omega
    have ks := k.s i his
    have eS : h.sm.getD i lk0 = h.seam i := rfl
    have hm := sd_mul (h.seam i).sd l ks.2.1 hl
    have es2 : wetN h d l (i + 1) = if wetB h d l i = true then wetN h d l i ||| 2 ^ i else wetN h d l i := rfl
    have h1 := wetN_lt h d l i
    have h2 := wetN_lt h d l (i + 1)
    have p1 : 2 ^ i ≤ 2 ^ 6 := Nat.pow_le_pow_right (by decide) (by omega)
    have p2 : 2 ^ (i + 1) ≤ 2 ^ 6 := Nat.pow_le_pow_right (by decide) (by omega)
    have ep := shl1 i
    have eb : wetB h d l i = decide ((h.seam i).ht ≤ d + (h.seam i).sd * l) := rfl
    simp only [vsAll, binA, binLitA, intA, loadA, loadRow, partA, partOk, fieldAddrA, indexAddrA, cellA, opA, allocA, newCells, okCells, storeObj, dstOk, nilSliceOp, Nat.reduceAdd, Nat.reduceLT, Nat.reduceEqDiff, ↓reduceIte, reduceCtorEq, eq_self, wtAll, lkF_at, eS]
    refine ⟨⟨by omega, by omega⟩, his, ?_⟩
    intro i9 hh_i9; (try simp only [ite_none] at hh_i9)
    generalize (h.seam i).sd * l = sl at *
    have hfz : ∀ o1 o2 : Go.V.Obj, Go.V.HSub (((H.set im (.raw (.map es ck))).set i9 o1).set i9 o2) (H.set im (.raw (.map es ck))) := fun o1 o2 => by
     have n9 : (H.set im (.raw (.map es ck))) i9 = none := by
      simp only [Hp.set]
      first | exact hh_i9 | simp_all
     exact HSub_drop2 n9 (HSub_drop2 n9 HSub_rfl)
    refine ⟨by simp only [InR_i64]; ((try clear hh_i9); omega), by simp only [InR_i64]; ((try clear hh_i9); omega), condD (fun hc => ?_) (fun hc => ?_)⟩
    ·rw [eb, if_pos (decide_eq_true hc)] at es2
     simp only [vsAll, binA, binLitA, intA, opA, dstOk, nilSliceOp, Nat.reduceLT, Nat.reduceEqDiff, ↓reduceIte, reduceCtorEq, eq_self, ep, ← es2]
     generalize 2 ^ i = Q at *
     refine ⟨⟨by ((try clear hh_i9); omega), by ((try clear hh_i9); omega), by simp only [InR_u64]; ((try clear hh_i9); omega)⟩, ⟨by ((try clear hh_i9); omega), by ((try clear hh_i9); omega), by simp only [InR_u64]; ((try clear hh_i9); omega), by simp only [InR_u64]; ((try clear hh_i9); omega)⟩, by simp only [InR_i64]; ((try clear hh_i9); omega), loop_next (i + 1) his (by ((try clear hh_i9); omega)) ?_ (hfz _ _)⟩
     simp only [vsAll, Nat.reduceEqDiff, ↓reduceIte, reduceCtorEq, eq_self, Int.natCast_add, Int.natCast_one]
    ·rw [eb, if_neg (by rw [decide_eq_true_eq]; exact hc)] at es2
     simp only [vsAll, binA, binLitA, intA, opA, dstOk, Nat.reduceLT, Nat.reduceEqDiff, ↓reduceIte, reduceCtorEq, eq_self]
     refine ⟨by simp only [InR_i64]; ((try clear hh_i9); omega), loop_next (i + 1) his (by ((try clear hh_i9); omega)) ?_ (hfz _ _)⟩
     simp only [vsAll, Nat.reduceEqDiff, ↓reduceIte, reduceCtorEq, eq_self, es2, Int.natCast_add, Int.natCast_one]
   ·have ei : i = h.sm.length := by omega
    subst ei
    have ew : wetN h d l h.sm.length = wetS h d l := rfl
    simp only [vsAll, ↓reduceIte, eq_self, ew]
    refine vs_draw2 [0, 0, 0, 0, 0, 0, 1] [([0, 1, 2, 3, 4, 5], [], 6)] [] (by decide +kernel) ?_
    simp only [vsAll, loadA, loadRow, partA, partOk, fieldAddrA, nilCheckA, opA, mapUpA, dstOk, nilSliceOp, Nat.reduceLT, Nat.reduceEqDiff, ↓reduceIte, reduceCtorEq, eq_self, wtAll]
    refine ⟨none, ⟨hfo _, hst, fun i v e => by cases e⟩, ?_⟩
    refine ret0 ?_
    simp only [vsAll, resA, retA.eq_1, ↓reduceIte, eq_self, Try.results37]
    rw [Hp.set_set]
    refine dropR_pure rfl ?_
    refine HSub_set' ho (memo_le (fun x hx => ?_) ?_)
    ·simp only [updM, Array.toList_push, List.mem_append, List.mem_singleton] at hx
     rcases hx with hx | rfl
     ·exact hes x hx
     ·exact ⟨d, l, rfl, hd, hl, rfl⟩
    ·simp only [updM, Array.toList_push]
     refine List.pairwise_append.2 ⟨hpw, List.pairwise_singleton _ _, fun x hx y hy => ?_⟩
     rw [List.mem_singleton] at hy
     subst hy
     exact hno x hx
 ·obtain ⟨d', l', h1, h2, h3, h4⟩ := hes e (by
   have := Array.getElem?_eq_some_iff.1 hj
   obtain ⟨hl, rfl⟩ := this
   simp)
  have e2 : e.val = .int .u64 (wetS h d l : Nat) := by
   rw [hk] at h1
   simp only [plcV, Value.agg.injEq, Array.mk.injEq, List.cons.injEq, Value.int.injEq, true_and, and_true] at h1
   rw [h4, ← h1.1, ← h1.2]
  simp only [vsAll, opA, dstOk, nilSliceOp, Nat.reduceLT, Nat.reduceEqDiff, ↓reduceIte, eq_self, e2]
  refine ret0 ?_
  simp only [vsAll, resA, retA.eq_1, ↓reduceIte, eq_self, Try.results37]
  exact dropR_pure rfl hback
end Go.Proofs.Ytclkjifgipcamaa
end
section
set_option linter.unusedVariables false
set_option linter.unusedSimpArgs false
namespace Go.V
set_option linter.unusedSectionVars false
variable [Inhabited GivT]
/-- Yields, one after another, each of which keeps one object more. -/
def IterB (P : Program) (y : AV) (Pre : Hp → Prop) : List (List AV) → Hp → (Hp → Prop) → Prop
 | [], H, K => K H
 | x :: l, H, K => Pre H ∧ ∀ j o, H j = none → Tri P y x (H.set j o) fun r H' => (r = .ret (.lit (.bool true)) ∧ ∃ H1, H1 j = none ∧ H' = H1.set j o ∧ IterB P y Pre l H1 K) ∨ (r = .ret (.lit (.bool false)) ∧ K H')
theorem iter_seqB {P : Program} {y : AV} {Pre : Hp → Prop} {L : List (List AV)} {σ : Type} {inv : Nat → σ → Prop} {G : Nat → σ → Hp} {K : Hp → Prop} {B : Hp}
  (hG : ∀ i x, inv i x → ∀ j, (G i x) j = none ↔ B j = none)
  (h : ∀ i v x, L[i]? = some v → inv i x → Pre (G i x) ∧ ∀ j o, B j = none → Tri P y v ((G i x).set j o) fun r H' => (r = .ret (.lit (.bool true)) ∧ ∃ x', inv (i + 1) x' ∧ H' = (G (i + 1) x').set j o) ∨ (r = .ret (.lit (.bool false)) ∧ K H'))
  (hK : ∀ x, inv L.length x → K (G L.length x)) (x0 : σ) (h0 : inv 0 x0) : IterB P y Pre L (G 0 x0) K := by
 have key : ∀ (l : List (List AV)) (j : Nat) (x : σ), L.drop j = l → j ≤ L.length → inv j x → IterB P y Pre l (G j x) K := by
  intro l
  induction l with
  | nil =>
    intro j x hl hj hi
    have : j = L.length := by
     have := congrArg List.length hl
     simp at this; omega
    subst this; exact hK x hi
  | cons v l ih =>
    intro j x hl hj hi
    have hx : L[j]? = some v := by
     have := congrArg (fun q => q[0]?) hl
     simpa using this
    have hj' : j < L.length := (List.getElem?_eq_some_iff.1 hx).1
    obtain ⟨h1, h2⟩ := h j v x hx hi
    refine ⟨h1, fun q o hq => (h2 q o ((hG j x hi q).1 hq)).mono ?_⟩
    rintro r H' (⟨rfl, x', hi', rfl⟩ | ⟨rfl, hk⟩)
    ·refine .inl ⟨rfl, _, (hG (j + 1) x' hi' q).2 ((hG j x hi q).1 hq), rfl, ih (j + 1) x' ?_ hj' hi'⟩
     rw [← List.drop_drop, hl]; rfl
    ·exact .inr ⟨rfl, hk⟩
 exact key L 0 x0 rfl (Nat.zero_le _) h0
theorem Hp.set_comm (H : Hp) {i j : Nat} (o o' : Obj) (h : i ≠ j) : (H.set i o).set j o' = (H.set j o').set i o := by
 funext k
 simp only [Hp.set]
 by_cases e1 : k = j
 ·subst e1; rw [if_pos rfl, if_neg (fun e => h e.symm), if_pos rfl]
 ·rw [if_neg e1]
  by_cases e2 : k = i
  ·subst e2; rw [if_pos rfl, if_pos rfl]
  ·rw [if_neg e2, if_neg e2, if_neg e1]
section
variable {P : Program} {m : Option Tmp → Bool} {n : Nat} {k : List It} {s : Fr} {ds : List AD} {H : Hp} {Q : Post}
theorem vs_rangeB {g : Operand} {ps : Array Tmp} {assign body : Code} {f : FuncId} {fn : Func} {c : Code} {caps : List AV} {σ : Type} (L : List (List AV)) (inv : Nat → σ → Prop) (hp : Nat → σ → Hp) (x0 : σ) (Pre : Hp → Prop)
  (hf : P.funcs[f]? = some fn) (hname : (fn.name == "runtime.NumGoroutine") = false) (hb : fn.body = some c)
  (hg : (opA s g).ok) (hgv : (opA s g).st = .func (.func f) [] caps) (hps : ∀ t ∈ ps.toList, t < n) (hpl : ∀ x ∈ L, x.length = ps.size)
  (hit : ∀ yf H K, Pre H → IterB P (.func yf [] []) Pre L H K → Tri P (.func (.func f) [] caps) [.func yf [] []] H fun r H' => (∃ v, r = .ret v) ∧ K H')
  (h0 : inv 0 x0) (hH : Go.V.HSub H (hp 0 x0)) (hfr : ∀ i x, inv i x → ∀ id, hp i x id = none ↔ hp 0 x0 id = none)
  (hpre : ∀ i x, inv i x → ∀ lid did o1 o2, hp 0 x0 lid = none → hp 0 x0 did = none → Pre (((hp i x).set did o1).set lid o2))
  (round : ∀ j o i v x, L[i]? = some v → inv i x → hp 0 x0 j = none → ∀ lid did l (lo : LoopState → Option Code → Obj), hp 0 x0 lid = none → hp 0 x0 did = none → lid ≠ did → ¬ j = lid → ¬ j = did →
   VS (some l) P m n [.code assign] (putAll s ps.toList v) [] ((((hp i x).set j o).set did (.raw (.deferred (some [])))).set lid (lo .ready none)) (AsgS P m n l body k Q (fun nx => ∃ x', inv (i + 1) x' ∧ nx = (hp (i + 1) x').set j o) s ds lid did lo))
  (fin : ∀ x, inv L.length x → ∀ lid did (lo : LoopState → Option Code → Obj), hp 0 x0 lid = none → hp 0 x0 did = none → lid ≠ did →
   VS none P m n k s (.mark did :: ds) (((hp L.length x).set did (.raw (.deferred (some [])))).set lid (lo .exhausted none)) Q) :
  VS none P m n (.code (.rangeFunc g ps assign body) :: k) s ds H Q := by
 show WPS none P n (.rangeFunc g ps assign body) s ds H (TK none P m n k Q)
 refine wps_ent (Ent.weak (s' := s) (fun t => AV.Le.refl _) hH ?_)
 refine wps_range hg hgv hf hname hb fun lid did l h1 h2 h3 => ?_
 let lo : LoopState → Option Code → Obj := fun st pd => .loop l n s ps assign body st pd did
 let G : Nat → σ → Hp := fun i x => ((hp i x).set did (.raw (.deferred (some [])))).set lid (lo .ready none)
 let K : Hp → Prop := fun H' => ∃ st pend, H' lid = some (lo st pend) ∧ st ≠ .busy ∧ jumpQ pend fun x => VX none P m n k x s (.mark did :: ds) (H'.set lid (lo .exhausted pend)) Q
 refine ⟨_, hit (.yield l) _ K (hpre 0 x0 h0 lid did _ _ h1 h2) ?_, ?_⟩
 ·refine iter_seqB (G := G) (inv := inv) (B := G 0 x0) (fun i x hi q => ?_) (fun i v x hv hi => ⟨hpre i x hi lid did _ _ h1 h2, fun j o hj => ?_⟩) (fun x hi => ⟨.ready, none, Hp.set_same _ _ _, by simp, ?_⟩) x0 h0
  ·simp only [G, Hp.set]
   by_cases e1 : q = lid
   ·simp [e1]
   ·rw [if_neg e1, if_neg e1]
    by_cases e2 : q = did
    ·simp [e2]
    ·rw [if_neg e2, if_neg e2]; exact hfr i x hi q
  ·have n1 : ¬ j = lid := fun e => by
    rw [e] at hj
    simp only [G, Hp.set_same] at hj
    cases hj
   have n2 : ¬ j = did := fun e => by
    rw [e] at hj
    have : G 0 x0 did = some (.raw (.deferred (some []))) := by
     simp only [G]
     rw [Hp.set_ne _ _ (fun e => h3 e.symm), Hp.set_same]
    rw [this] at hj
    cases hj
   have hj0 : hp 0 x0 j = none := by
    simp only [G] at hj
    rw [Hp.set_ne _ _ n1, Hp.set_ne _ _ n2] at hj
    exact hj
   have ec : ∀ (A : Hp) X Y, ((A.set did X).set lid Y).set j o = ((A.set j o).set did X).set lid Y := fun A X Y => by
    rw [Hp.set_comm _ _ _ (fun e => n1 e.symm), Hp.set_comm A _ _ (fun e => n2 e.symm)]
   have eG : (G i x).set j o = (((hp i x).set j o).set did (.raw (.deferred (some [])))).set lid (lo .ready none) := ec _ _ _
   rw [eG]
   refine Tri.drop ?_
   refine tri_yield (lid := lid) (n := n) (s := s) (ps := ps) (assign := assign) (body := body) (did := did) (Hp.set_same _ _ _) (hpl v (List.mem_of_getElem? hv)) hps ?_
   refine (vcC_sound assign (round j o i v x hv hi hj0 lid did l lo h1 h2 h3 n1 n2)).mono ?_
   intro x1 s1 ds1 H1 hq
   cases x1 with
   | normal =>
     obtain ⟨q1, q2⟩ := hq
     refine ⟨rfl, q1, (vcC_sound body q2).mono ?_⟩
     intro x2 s2 ds2 H2 hq2
     cases x2 with
     | normal =>
       obtain ⟨⟨st, pd, ho⟩, nx, ⟨x', hi', rfl⟩, hsub⟩ := hq2
       exact ⟨st, pd, ho, _, HSub.reset hsub, .inl ⟨rfl, x', hi', (ec _ _ _).symm⟩⟩
     | ret => obtain ⟨⟨st, pd, ho⟩, hv⟩ := hq2; exact ⟨st, pd, ho, _, HSub.refl _, .inr ⟨rfl, .done, some .ret, Hp.set_same _ _ _, by simp, by rw [Hp.set_set]; exact hv⟩⟩
     | exit j => obtain ⟨⟨st, pd, ho⟩, hv⟩ := hq2; exact ⟨st, pd, ho, _, HSub.refl _, .inr ⟨rfl, .done, some (.exit j), Hp.set_same _ _ _, by simp, by rw [Hp.set_set]; exact hv⟩⟩
     | pan v => exact hq2.elim
   | _ => exact hq.elim
  ·simp only [jumpQ, G, Hp.set_set]
   exact fin x hi lid did lo h1 h2 h3
 ·rintro r H' ⟨⟨v, rfl⟩, st, pend, ho, hst, hj⟩
  exact ⟨st, pend, ho, hst, hj⟩
end
end Go.V
end
section
set_option linter.unusedVariables false
set_option linter.unusedSimpArgs false
set_option maxHeartbeats 4000000
set_option maxRecDepth 100000
namespace Go.Proofs.Ytclkjifgipcamaa
open Go.V
theorem mask_sum {S : Nat} {b : List Int} {f : Nat} (hb : b.length = f) (hf : f ≤ 6) : lsN (S &&& (2 ^ f - 1)) b 6 = lsN S b f := by
 refine smZ_shift (g := inn S b) 6 hf (fun i hi => ?_) fun i hi _ => ?_
 ·unfold inn
  rw [Nat.testBit_and, Nat.testBit_two_pow_sub_one, decide_eq_true hi, Bool.and_true]
 ·unfold inn
  rw [Nat.testBit_and, Nat.testBit_two_pow_sub_one, decide_eq_false (by omega), Bool.and_false]
  rfl
theorem mo_bd {h : Hl} (k : OkH h) {S a : Nat} : ∀ i, i ≤ h.sm.length → 0 ≤ moN h S a i ∧ moN h S a i ≤ 4 * (i : Int)
 | 0, _ => by simp [moN, smZ]
 | i + 1, hi => by
   have ih := mo_bd k (S := S) (a := a) i (by omega)
   have := k.M (i := i) (by omega)
   have hm : 0 ≤ mos h S a i ∧ mos h S a i ≤ 4 := by unfold mos; split <;> omega
   unfold moN at ih ⊢
   simp only [smZ]
   omega
theorem lends_tri (h : Hl) (S : Nat) (b : List Int) (H : Hp) (k : OkH h) (hl : b.length ≤ h.sm.length) (hb : ∀ i, 0 ≤ b.getD i 0 ∧ b.getD i 0 ≤ 4) (hS : S < 2 ^ 60) :
  PTri Try.prog (fnA 174) [.agg [u64 (S : Nat)], ifAV b, i64 b.length, intsAV (moL h)] H (.tuple [i64 (lsN S b b.length), i64 (lsN S b b.length + moN h S b.length h.N)]) := by
 have nS := k.nS
 have hNe : h.N = h.sm.length := rfl
 have hml := moL_len h
 have p1 : 2 ^ b.length ≤ 2 ^ 6 := Nat.pow_le_pow_right (by decide) (by omega)
 have p0 := Nat.two_pow_pos b.length
 have hmk := mask_sum (S := S) rfl (show b.length ≤ 6 by omega)
 have hsb := lsum_bd (S := S) hb b.length
 have e0 : moN h S b.length b.length = 0 := moN_end h S (Nat.le_refl _)
 have hle : S &&& (2 ^ b.length - 1) ≤ S := Nat.and_le_left
 have ep := shl1 b.length
 have eq1 : ((2 ^ b.length : Nat) : Int) - 1 = ((2 ^ b.length - 1 : Nat) : Int) := by omega
 refine tri_v0 (fun _ => false) Try.func174 (by kernel_rfl) rfl (by simp only [List.length_append, List.length_cons, List.length_nil, Try.ntmps174]; decide) ?_
 simp only [vsAll, boxA, boxZ, opA, dstOk, nilSliceOp, argFr, Nat.reduceLT, Nat.reduceEqDiff, ↓reduceIte, eq_self, wtAll, Try.ntmps174]
 refine vs_draw2 [0, 0, 0, 0, 0, 0, 0, 0, 0] [] [0, 1, 2, 3, 4, 5, 6, 7, 8] (by decide +kernel) ?_
 simp only [vsAll, binA, binLitA, intA, loadA, loadRow, partA, partOk, fieldAddrA, opA, dstOk, argFr, Nat.reduceLT, Nat.reduceEqDiff, ↓reduceIte, eq_self, wtAll, ep, eq1]
 generalize hQ : 2 ^ b.length = Q at *
 refine ⟨⟨by omega, by omega, by simp only [InR_u64]; omega⟩, by simp only [InR_u64]; omega, ⟨by omega, by omega, by simp only [InR_u64]; omega, by simp only [InR_u64]; omega⟩, qcall _ ⟨trivial, by simp only [vsAll, okAll, opsA, opA, Nat.reduceEqDiff, ↓reduceIte, eq_self], lsum_tri (S &&& (Q - 1)) b _ hb (by omega)⟩ ?_⟩
 rw [hmk]
 simp only [vsAll, opA, dstOk, nilSliceOp, argFr, Nat.reduceLT, Nat.reduceEqDiff, ↓reduceIte, eq_self]
 refine vs_loop (σ := Nat) (fun i => b.length ≤ i ∧ i ≤ h.sm.length) (fun i => [(2, i64 b.length), (3, intsAV (moL h)), (4, .rptr 1 1 (fun _ => [u64 (S : Nat)]) 0 0), (8, i64 (lsN S b b.length)), (9, i64 (lsN S b b.length + moN h S b.length i)), (10, i64 i)]) (fun _ => H) (fun i => h.sm.length - i) b.length ⟨Nat.le_refl _, hl⟩ ?_ HSub_rfl fun i hi => ?_
 ·simp only [vsAll, argFr, Nat.reduceEqDiff, ↓reduceIte, eq_self, e0, Int.add_zero]
 ·obtain ⟨hi0, hi⟩ := hi
  simp only [vsAll, binA, binLitA, intA, lenA, opA, dstOk, Nat.reduceLT, Nat.reduceEqDiff, ↓reduceIte, eq_self, wtAll, hml]
  refine condD (fun hd => ?_) (fun hd => ?_)
  ·have his : i < h.sm.length := by omega
   have hM := k.M his
   have hmi : (moL h).getD i 0 = (h.seam i).mo := moL_at h his
   have hmn := mo_bd k (S := S) (a := b.length) i hi
   have es : moN h S b.length (i + 1) = moN h S b.length i + mos h S b.length i := rfl
   simp only [vsAll, loadA, loadRow, partA, partOk, fieldAddrA, okAll, stAll, opsA, opA, dstOk, Nat.reduceLT, Nat.reduceEqDiff, ↓reduceIte, eq_self, wtAll]
   refine callK_pure (lhas_tri S i _ (by omega) hS) ?_
   simp only [vsAll, opA, ↓reduceIte, eq_self]
   refine condV (fun hc => ?_) (fun hc => ?_)
   ·have em : mos h S b.length i = (h.seam i).mo := by unfold mos; rw [if_pos ⟨hi0, hc⟩]; exact hM.1
    rw [em] at es
    simp only [vsAll, loadA, loadRow, partA, partOk, indexAddrA, cellA, cellsA, okParts, buildSliceA, partIdx, elemsA, lensA, okAll, stAll, opsA, partsA, partsOk, opA, dstOk, Nat.reduceAdd, Nat.reduceMul, Nat.reduceLT, Nat.reduceLeDiff, Nat.reduceEqDiff, ↓reduceIte, eq_self, wtAll, intF_at, hmi]
    refine ⟨⟨by omega, by omega⟩, by omega, callK_pure (lflows2 _ _ _ (by omega) (by omega)) ?_⟩
    simp only [vsAll, binA, binLitA, intA, opA, dstOk, nilSliceOp, Nat.reduceLT, Nat.reduceEqDiff, ↓reduceIte, eq_self]
    refine ⟨by simp only [InR_i64]; omega, loop_next (i + 1) ⟨by omega, his⟩ (by omega) ?_ HSub_rfl⟩
    simp only [vsAll, Nat.reduceEqDiff, ↓reduceIte, eq_self, es, Int.add_assoc, Int.natCast_add, Int.natCast_one]
   ·have em : mos h S b.length i = 0 := by unfold mos; rw [if_neg (fun q => by rw [hc] at q; cases q.2)]
    rw [em, Int.add_zero] at es
    simp only [vsAll, binA, binLitA, intA, opA, dstOk, nilSliceOp, Nat.reduceLT, Nat.reduceEqDiff, ↓reduceIte, eq_self]
    refine ⟨by simp only [InR_i64]; omega, loop_next (i + 1) ⟨by omega, his⟩ (by omega) ?_ HSub_rfl⟩
    simp only [vsAll, Nat.reduceEqDiff, ↓reduceIte, eq_self, es, Int.natCast_add, Int.natCast_one]
  ·have ei : i = h.sm.length := by omega
   subst ei
   simp only [vsAll, opA, dstOk, nilSliceOp, resA, retA.eq_2, Nat.reduceLT, Nat.reduceEqDiff, ↓reduceIte, eq_self, Try.results174, hNe]
theorem none_can (b : List Int) (fr : Int) (r : List Int) (H : Hp) : PTri Try.prog (fnA 173) [.agg [], ifAV b, i64 fr, intsAV r] H (boo true) := by
 refine tri_v0 (fun _ => false) Try.func173 (by kernel_rfl) rfl (by simp only [List.length_append, List.length_cons, List.length_nil, Try.ntmps173]; decide) ?_
 simp only [vsAll, boxA, boxZ, opA, dstOk, nilSliceOp, resA, argFr, retA.eq_1, Nat.reduceLT, Nat.reduceEqDiff, ↓reduceIte, eq_self, wtAll, Try.ntmps173, Try.results173]
abbrev sndC (S : Nat) (lo hi : Int) : List AV := [u64 (S : Nat), i64 lo, i64 hi]
theorem snd_can (h : Hl) (S : Nat) (lo hi : Int) (b : List Int) (H : Hp) (k : OkH h) (hl : b.length ≤ h.sm.length) (hb : ∀ i, 0 ≤ b.getD i 0 ∧ b.getD i 0 ≤ 4) (hS : S < 2 ^ 60) :
  PTri Try.prog (fnA 175) [.agg (sndC S lo hi), ifAV b, i64 b.length, intsAV (moL h)] H (boo (decide (lsN S b b.length ≤ hi) && decide (lo ≤ lsN S b b.length + moN h S b.length h.N))) := by
 refine tri_v0 (fun _ => false) Try.func175 (by kernel_rfl) rfl (by simp only [List.length_append, List.length_cons, List.length_nil, Try.ntmps175]; decide) ?_
 simp only [vsAll, loadA, loadRow, partA, partOk, fieldAddrA, boxA, boxZ, okAll, stAll, opsA, opA, dstOk, nilSliceOp, argFr, Nat.reduceAdd, Nat.reduceLT, Nat.reduceLeDiff, Nat.reduceEqDiff, ↓reduceIte, eq_self, wtAll, Try.ntmps175]
 refine callK_pure (lends_tri h S b _ k hl hb hS) ?_
 simp only [vsAll, binA, binLitA, intA, loadA, loadRow, partA, partOk, fieldAddrA, extractA, pickA, opA, guardV, dstOk, nilSliceOp, resA, retA.eq_1, Nat.reduceAdd, Nat.reduceLT, Nat.reduceEqDiff, ↓reduceIte, implies_true, eq_self, wtAll, Try.results175]
theorem meth_none : methT Try.prog 236 "caulkworks/leak.can" 173 := fun cv vs w => by kernel_rfl
theorem meth_snd : methT Try.prog 240 "caulkworks/leak.can" 175 := fun cv vs w => by kernel_rfl
theorem nil_none : nilM Try.prog 236 "caulkworks/leak.can" := fun v w => by kernel_rfl
theorem nil_snd : nilM Try.prog 240 "caulkworks/leak.can" := fun v w => by kernel_rfl
/-- What is asked for: nothing, and each sounding. -/
def cndA (h : Hl) : Nat → AV
 | 0 => .iface 236 (.agg [])
 | q + 1 => .iface 240 (.agg (sndC (wetS h (h.snd q).dr (h.snd q).li) (h.snd q).lo (h.snd q).hi))
def cndF (h : Hl) : Nat → List AV := fun i => [cndA h i]
theorem cndF_at (h : Hl) (i : Nat) : cndF h i = [cndA h i] := rfl
abbrev cndAV (h : Hl) : AV := .rsl (h.so.length + 1) 1 (cndF h)
def cndB (h : Hl) (b : List Int) : Nat → Bool
 | 0 => true
 | q + 1 => okQ h b q
theorem cndA_ok (h : Hl) (i : Nat) : (cndA h i).ok = True := by cases i <;> rfl
theorem cndA_st (h : Hl) (i : Nat) : (cndA h i).st = cndA h i := by cases i <;> rfl
theorem can_tri (h : Hl) (i : Nat) (b : List Int) (H : Hp) (k : OkH h) (hi : i < h.so.length + 1) (hl : b.length ≤ h.sm.length) (hb : ∀ i, 0 ≤ b.getD i 0 ∧ b.getD i 0 ≤ 4) :
  PTri Try.prog (.func (.method "caulkworks/leak.can") [] []) [cndA h i, ifAV b, i64 b.length, intsAV (moL h)] H (boo (cndB h b i)) := by
 cases i with
 | zero => exact tri_inv meth_none (none_can b b.length (moL h) H)
 | succ q =>
   have hw := wetN_lt h (h.snd q).dr (h.snd q).li h.N
   have p : 2 ^ h.N ≤ 2 ^ 6 := Nat.pow_le_pow_right (by decide) k.nS
   have hS : wetS h (h.snd q).dr (h.snd q).li < 2 ^ 60 := by unfold wetS; omega
   exact tri_inv meth_snd (snd_can h _ _ _ b H k hl hb hS)
theorem okP_cnd {h : Hl} {b : List Int} : okP h b = true ↔ ∀ i, i < h.so.length + 1 → cndB h b i = true := by
 unfold okP
 rw [List.all_eq_true]
 constructor
 ·intro hq i hi
  cases i with
  | zero => rfl
  | succ q => exact hq q (List.mem_range.2 (by omega))
 ·intro hq q hm
  exact hq (q + 1) (by have := List.mem_range.1 hm; omega)
theorem levery_tri (h : Hl) (im : Nat) (H : Hp) (k : OkH h) : PTri Try.prog (fnA 110) [hP h im] H (u64 (2 ^ h.so.length - 1 : Nat)) := by
 have nQ := k.nQ
 have p1 : 2 ^ h.so.length ≤ 2 ^ 8 := Nat.pow_le_pow_right (by decide) nQ
 have p0 := Nat.two_pow_pos h.so.length
 have ep := shl1 h.so.length
 have eq1 : ((2 ^ h.so.length : Nat) : Int) - 1 = ((2 ^ h.so.length - 1 : Nat) : Int) := by omega
 refine tri_v0 (fun _ => false) Try.func110 (by kernel_rfl) rfl (by simp only [List.length_append, List.length_cons, List.length_nil, Try.ntmps110]; decide) ?_
 simp only [vsAll, binA, binLitA, intA, loadA, loadRow, partA, partOk, fieldAddrA, lenA, nilCheckA, opA, dstOk, nilSliceOp, resA, argFr, retA.eq_1, Nat.reduceLT, ↓reduceIte, reduceCtorEq, eq_self, wtAll, Try.ntmps110, Try.results110, ep, eq1]
 generalize 2 ^ h.so.length = Q at *
 exact ⟨⟨by omega, by omega, by simp only [InR_u64]; omega⟩, by simp only [InR_u64]; omega⟩
theorem lcond_tri (h : Hl) (im : Nat) (H : Hp) (k : OkH h) (ho : H im = some (.memo (wetM h))) : PTri Try.prog (fnA 124) [hP h im, u64 (2 ^ h.so.length - 1 : Nat)] H (cndAV h) := by
 have nQ := k.nQ
 have nS := k.nS
 refine Tri.thawX (R1 := fun r H' => ∃ id, H id = none ∧ r = .ret (.sl id 1 (h.so.length + 1)) ∧ H' = H.set id (.row 1 (h.so.length + 1) (cndF h))) ?_ ?_
 ·refine Tri.drop ?_
  refine tri_v0 (mset [10]) Try.func124 (by kernel_rfl) rfl (by simp only [List.length_append, List.length_cons, List.length_nil, Try.ntmps124]; decide) ?_
  simp only [vsAll, loadA, loadRow, partA, partOk, fieldAddrA, lenA, nilCheckA, cellA, cellsA, fillA, okParts, buildMutA, partIdx, elemsA, lensA, ifaceA, partsA, partsOk, opA, dstOk, nilSliceOp, argFr, Nat.reduceMul, Nat.reduceLT, Nat.reduceLeDiff, Nat.reduceBEq, ↓reduceIte, reduceCtorEq, eq_self, wtAll, Try.ntmps124]
  intro i10 hh_i10; (try simp only [Hp.set_none, ite_none] at hh_i10)
  refine vs_loop (σ := Nat) (fun i => i ≤ h.so.length) (fun i => [(0, hP h im), (1, u64 (2 ^ h.so.length - 1 : Nat)), (5, .sl i10 1 (i + 1)), (15, lsAV h.so), (16, i64 h.so.length), (17, i64 i)]) (fun i => H.set i10 (.row 1 (i + 1) (cndF h))) (fun i => h.so.length - i) 0 (Nat.zero_le _) ?_ ?_ fun i hi => ?_
  ·simp only [vsAll, argFr, Nat.reduceEqDiff, ↓reduceIte, reduceCtorEq, eq_self, Int.natCast_zero]
  ·refine HSub.set (HSub.refl _) (row_ext fun q hq => ?_)
   have : q = 0 := by ((try clear hh_i10); omega)
   subst this; rfl
  ·simp only [vsAll, binA, binLitA, intA, opA, dstOk, Nat.reduceLT, Nat.reduceEqDiff, ↓reduceIte, reduceCtorEq, eq_self]
   refine condD (fun hd => ?_) (fun hd => ?_)
   ·have his : i < h.so.length := by ((try clear hh_i10); omega)
    have kq := k.q i his
    have eQ : h.so.getD i ls0 = h.snd i := rfl
    have hdiv : ((2 ^ h.so.length - 1 : Nat) : Int) / 2 ^ i = ((2 ^ h.so.length - 1) / 2 ^ i : Nat) := by simp
    have hbt : decide (((((2 ^ h.so.length - 1 : Nat) : Int) / 2 ^ i).toNat &&& Int.toNat 1 : Nat) = (1 : Int)) = true := by rw [bit_eq, Nat.testBit_two_pow_sub_one, decide_eq_true his]
    have p1 : 2 ^ h.so.length ≤ 2 ^ 8 := Nat.pow_le_pow_right (by decide) nQ
    have hdl : (2 ^ h.so.length - 1) / 2 ^ i ≤ 2 ^ h.so.length - 1 := Nat.div_le_self _ _
    have eap : ∀ G : Nat → List AV, G 0 = [cndA h (i + 1)] → ∀ q, q < i + 1 + 1 → appF (i + 1) 1 (cndF h) G q = cndF h q := fun G hG q hq => by
     rw [appF_at (by ((try clear hh_i10); omega))]
     by_cases e : q < i + 1
     ·rw [if_pos e]
     ·have : q = i + 1 := by ((try clear hh_i10); omega)
      subst this
      rw [if_neg (by ((try clear hh_i10); omega)), Nat.sub_self, hG]; rfl
    simp only [vsAll, binA, binLitA, intA, loadA, loadRow, partA, partOk, indexAddrA, cellA, opA, allocA, newCells, okCells, storeObj, dstOk, nilSliceOp, Nat.reduceAdd, Nat.reduceLT, Nat.reduceEqDiff, Nat.reduceBEq, Int.reduceLE, Int.reduceToNat, ↓reduceIte, reduceCtorEq, eq_self, wtAll, lsF_at, eQ]
    refine ⟨⟨by ((try clear hh_i10); omega), by ((try clear hh_i10); omega)⟩, his, ?_⟩
    intro i7 hh_i7; (try simp only [ite_none] at hh_i7)
    have n7 : (H.set i10 (.row 1 (i + 1) (cndF h))) i7 = none := by
     simp only [Hp.set]
     first | exact hh_i7 | simp_all
    have d7 : ¬ i10 = i7 := fun e => by rw [← e, Hp.set_same] at n7; cases n7
    have n7' : H i7 = none := by rw [Hp.set_ne _ _ (fun e => d7 e.symm)] at n7; exact n7
    refine ⟨⟨by ((try clear hh_i10 hh_i7); omega), by ((try clear hh_i10 hh_i7); omega), rfl⟩, ⟨?_, ?_, by simp only [InR_u64]; ((try clear hh_i10 hh_i7); omega)⟩, ?_⟩
    ·rw [hdiv]; exact Int.natCast_nonneg _
    ·rw [hdiv]
     generalize 2 ^ h.so.length = Q at *
     generalize (Q - 1) / 2 ^ i = z at *
     simp only [InR_u64]; ((try clear hh_i10 hh_i7); omega)
    refine condV (fun hc => ?_) (fun hc => ?_)
    rotate_left
    ·exact absurd (hbt.symm.trans hc) (by decide)
    skip
    refine vs_draw2 [0, 0, 0, 0, 0, 0, 0, 0, 0, 0, 0, 0, 0, 0, 1, 3] [([0, 1, 2, 3, 4, 5, 6, 7, 8, 9, 10, 11, 12, 13], [], 14), ([], [], 15)] [] (by decide +kernel) ?_
    simp only [vsAll, loadA, loadRow, partA, partOk, fieldAddrA, cellA, cellsA, fillA, okParts, partsA, partsOk, opA, dstOk, Nat.reduceAdd, Nat.reduceLT, Nat.reduceLeDiff, Nat.reduceEqDiff, ↓reduceIte, reduceCtorEq, eq_self, wtAll]
    refine qcall _ ⟨trivial, by simp only [vsAll, okAll, opsA, opA, Nat.reduceEqDiff, ↓reduceIte, eq_self], lwet_tri h im (h.snd i).dr (h.snd i).li _ k (by rw [Hp.set_set, Hp.set_ne _ _ (fun e => by rw [← e, ho] at n7'; cases n7'), Hp.set_ne _ _ (fun e => by rw [e] at ho; simp_all)]; exact ho) (by ((try clear hh_i10 hh_i7 d7); omega)) (by ((try clear hh_i10 hh_i7 d7); omega))⟩ ?_
    simp only [vsAll, binA, binLitA, intA, loadA, loadRow, partA, partOk, fieldAddrA, cellA, cellsA, fillA, okParts, buildSliceA, partIdx, elemsA, lensA, ifaceA, partsA, partsOk, opA, appendA, dstOk, nilSliceOp, Nat.reduceAdd, Nat.reduceMul, Nat.reduceLT, Nat.reduceLeDiff, Nat.reduceEqDiff, Nat.reduceBEq, ↓reduceIte, reduceCtorEq, eq_self, wtAll, hh_i7]
    refine ⟨fun q hq => by (have : q = 0 := by ((try clear hh_i10 hh_i7 d7); omega)); subst this; exact ⟨rfl, trivial⟩, by ((try clear hh_i10 hh_i7 d7); omega), by ((try clear hh_i10 hh_i7 d7); omega), by simp only [InR_i64]; ((try clear hh_i10 hh_i7 d7); omega), loop_next (i + 1) his (by ((try clear hh_i10 hh_i7 d7); omega)) ?_ ?_⟩
    ·simp only [vsAll, Nat.reduceEqDiff, ↓reduceIte, reduceCtorEq, eq_self, Int.natCast_add, Int.natCast_one]
    ·rw [Hp.set_set, Hp.set_comm (H.set i10 _) _ _ (fun e => d7 e.symm), Hp.set_set]
     refine HSub_drop2 (by rw [Hp.set_ne _ _ (fun e => d7 e.symm)]; exact n7') ?_
     exact HSub.set (HSub.refl _) (row_ext fun q hq => eap _ rfl q hq)
    done
   ·have ei : i = h.so.length := by ((try clear hh_i10); omega)
    subst ei
    simp only [vsAll, opA, dstOk, nilSliceOp, resA, retA.eq_1, Nat.reduceLT, Nat.reduceEqDiff, Nat.reduceBEq, ↓reduceIte, reduceCtorEq, eq_self, Try.results124]
    exact ⟨_, HSub_rfl, i10, hh_i10, rfl, rfl⟩
 ·rintro r H' ⟨id, hid, rfl, rfl⟩
  exact .inr ⟨_, cndAV h, id, 1, _, cndF h, rfl, .inr ⟨Hp.set_same _ _ _, .leaf ⟨rfl, cndF h, fun _ _ => rfl, rfl⟩⟩, rfl, set_del hid⟩
end Go.Proofs.Ytclkjifgipcamaa
end
section
set_option linter.unusedVariables false
set_option linter.unusedSimpArgs false
set_option maxHeartbeats 4000000
set_option maxRecDepth 100000
namespace Go.Proofs.Ytclkjifgipcamaa
open Go.V
theorem ret_freezeB {P : Program} {fn : Func} {R : Res → Hp → Prop} {s : Fr} {H : Hp} {t id st n i j : Nat} {f : Nat → List AV} (hr : fn.results.toList = [.tmp t]) (hs : s t = .ref id 0 st i j)
  (ho : H id = some (.box st n f)) (h : R (.ret (.rptr n st f i j)) (H.del id)) : FnPost P fn R .ret s [] H := by
 refine Ent.freezeB (s' := put s (some t) (.rptr n st f i j)) ho (fun u => ?_) ?_
 ·simp only [put]
  split
  ·rename_i e; subst e; exact .inr ⟨i, j, hs, rfl⟩
  ·exact .inl rfl
 ·rw [hr]
  refine ⟨rfl, ?_⟩
  simp only [resA, put, if_pos]
  exact ⟨trivial, h⟩
def moN' (h : Hl) (i : Nat) : List Int := (List.range i).map fun j => (h.seam j).mo
theorem moN'_len (h : Hl) (i : Nat) : (moN' h i).length = i := by simp [moN']
theorem moN'_succ (h : Hl) (i : Nat) : moN' h (i + 1) = moN' h i ++ [(h.seam i).mo] := by simp [moN', List.range_succ]
theorem moN'_all (h : Hl) : moN' h h.sm.length = moL h := by
 apply List.ext_getElem (by simp [moN', moL])
 intro i h1 h2
 simp [moN', moL, Hl.seam, List.getD_eq_getElem?_getD]
 simp [moL] at h2
 simp [h2]
def openL (h : Hl) (v : Bool) (H : Hp) : Res → Hp → Prop := fun r H' =>
 (v = true ∧ ∃ im, H im = none ∧ r = .ret (hP h im) ∧ H' = H.set im (.memo (wetM h))) ∨ (v = false ∧ r = .pan (refL 2) ∧ H' = H)
theorem openL_tri (h : Hl) (v : Bool) (H : Hp) (k : OkH h) : Tri Try.prog (fnA 34) [h.av, boo v] H (openL h v H) := by
 have nS := k.nS
 have nQ := k.nQ
 have n1 := k.n1
 refine tri_vs (m := mset [24]) Try.func34 (by kernel_rfl) rfl (by simp only [List.length_append, List.length_cons, List.length_nil, Try.ntmps34]; decide) ?_
 simp only [vsAll, loadA, loadRow, partA, partOk, fieldAddrA, lenA, boxA, boxZ, okAll, stAll, opsA, opA, dstOk, nilSliceOp, argFr, Nat.reduceAdd, Nat.reduceLT, Nat.reduceEqDiff, Nat.reduceBEq, Int.reduceNeg, ↓reduceIte, eq_self, wtAll, Try.ntmps34]
 refine callK_pure (lwithin_tri _ _ _ _) ?_
 have b1 : (decide ((1 : Int) ≤ (h.sm.length : Int)) && decide ((h.sm.length : Int) ≤ 6)) = true := by rw [decide_eq_true (by omega), decide_eq_true (by omega)]; rfl
 have b2 : decide ((h.so.length : Int) ≤ 8) = true := decide_eq_true (by omega)
 simp only [vsAll, binA, binLitA, intA, loadA, loadRow, partA, partOk, fieldAddrA, lenA, pickA, okAll, stAll, opsA, opA, guardV, dstOk, Nat.reduceLT, Nat.reduceEqDiff, Int.reduceNeg, ↓reduceIte, implies_true, eq_self, wtAll, b1, b2]
 refine lwant_call (fun _ => ?_) (fun hb => by cases hb)
 simp only [vsAll, loadA, loadRow, partA, partOk, fieldAddrA, lenA, cellA, cellsA, fillA, okParts, partsA, partsOk, opA, boxMutA, nM, dstOk, nilSliceOp, Nat.reduceAdd, Nat.reduceLT, Nat.reduceLeDiff, Nat.reduceEqDiff, Nat.reduceBEq, Int.reduceNeg, ↓reduceIte, eq_self, wtAll]
 intro im hh_im; (try simp only [Hp.set_none, ite_none] at hh_im); intro ib hh_ib; (try simp only [ite_none] at hh_ib)
 have d1 : ¬ ib = im := fun e => by rw [e] at hh_ib; simp_all
 have d2 : ¬ im = ib := fun e => d1 e.symm
 have hb0 : H ib = none := by simp_all
 refine vs_entL (Ent.nilBox 1 (intF []) (fun id _ => hC h (.sl id 1 0) im) (j := ib) (st' := 4) (n' := 1) (g := fun _ => hC h (.lit (.slice none 0 0)) im) (Hp.set_same _ _ _) (fun _ _ _ => rfl) (fun id q d hq hd => ?_) fun ir hir => ?_)
 ·match d, hd with
  | 0, _ => exact .rfl
  | 1, _ => exact .rfl
  | 2, _ => exact .hit
  | 3, _ => exact .rfl
 have r1 : ¬ ir = ib := fun e => by rw [e, Hp.set_same] at hir; cases hir
 rw [Hp.set_ne _ _ r1] at hir
 have r2 : ¬ ir = im := fun e => by rw [e, Hp.set_same] at hir; cases hir
 rw [Hp.set_ne _ _ r2] at hir
 have r1' : ¬ ib = ir := fun e => r1 e.symm
 have r2' : ¬ im = ir := fun e => r2 e.symm
 skip
 have hbx : ∀ (A : Hp) (n : Nat) (f : Nat → List AV) (a b : AV), (((A.set ib (.box 4 1 fun _ => hC h a im)).set ir (.row 1 n f)).set ib (.box 4 1 fun _ => hC h b im)) = ((A.set ir (.row 1 n f)).set ib (.box 4 1 fun _ => hC h b im)) := fun A n f a b => by
  rw [Hp.set_comm A _ _ r1', Hp.set_set]
 rw [hbx]
 refine vs_loop (σ := Nat) (fun i => i ≤ h.sm.length) (fun i => [(1, boo v), (2, hlptr h), (5, .ref ib 0 4 0 0), (26, lkAV h.sm), (27, i64 h.sm.length), (28, i64 i)])
  (fun i => ((H.set im (.raw (.map #[] 0))).set ir (.row 1 i (intF (moN' h i)))).set ib (.box 4 1 fun _ => hC h (.sl ir 1 i) im)) (fun i => h.sm.length - i) 0 (Nat.zero_le _) ?_ HSub_rfl fun i hi => ?_
 ·simp only [vsAll, argFr, Nat.reduceEqDiff, ↓reduceIte, eq_self, Int.natCast_zero]
 ·simp only [vsAll, binA, binLitA, intA, opA, dstOk, Nat.reduceLT, Nat.reduceEqDiff, Int.reduceNeg, ↓reduceIte, eq_self]
  refine condD (fun hd => ?_) (fun hd => ?_)
  ·have his : i < h.sm.length := by ((try clear hh_im hh_ib d1 d2 r1 r2 r1' r2' hir hb0); omega)
   have ks := k.s i his
   have eS : h.sm.getD i lk0 = h.seam i := rfl
   simp only [vsAll, loadA, loadRow, partA, partOk, fieldAddrA, indexAddrA, cellA, okAll, stAll, opsA, opA, allocA, newCells, okCells, storeObj, dstOk, Nat.reduceAdd, Nat.reduceLT, Nat.reduceEqDiff, Int.reduceNeg, ↓reduceIte, eq_self, wtAll, lkF_at, eS]
   refine ⟨⟨by ((try clear hh_im hh_ib d1 d2 r1 r2 r1' r2' hir hb0); omega), by ((try clear hh_im hh_ib d1 d2 r1 r2 r1' r2' hir hb0); omega)⟩, his, ?_⟩
   intro i7 hh_i7; (try simp only [ite_none] at hh_i7)
   have f7 : ¬ i7 = ib ∧ ¬ i7 = ir ∧ ¬ i7 = im ∧ H i7 = none := by simp_all
   obtain ⟨f1, f2, f3, f4⟩ := f7
   have g1 : ¬ ib = i7 := fun e => f1 e.symm
   have g2 : ¬ ir = i7 := fun e => f2 e.symm
   have g3 : ¬ im = i7 := fun e => f3 e.symm
   skip
   have c1 : (decide (0 ≤ (h.seam i).ht) && decide ((h.seam i).ht ≤ 12)) = true := by rw [decide_eq_true (by ((try clear hh_im hh_ib d1 d2 r1 r2 r1' r2' hir hb0 hh_i7 f1 f2 f3 f4 g1 g2 g3); omega)), decide_eq_true (by ((try clear hh_im hh_ib d1 d2 r1 r2 r1' r2' hir hb0 hh_i7 f1 f2 f3 f4 g1 g2 g3); omega))]; rfl
   have c2 : (decide (-1 ≤ (h.seam i).sd) && decide ((h.seam i).sd ≤ 1)) = true := by rw [decide_eq_true (by ((try clear hh_im hh_ib d1 d2 r1 r2 r1' r2' hir hb0 hh_i7 f1 f2 f3 f4 g1 g2 g3); omega)), decide_eq_true (by ((try clear hh_im hh_ib d1 d2 r1 r2 r1' r2' hir hb0 hh_i7 f1 f2 f3 f4 g1 g2 g3); omega))]; rfl
   have c3 : (decide (0 ≤ (h.seam i).mo) && decide ((h.seam i).mo ≤ 4)) = true := by rw [decide_eq_true (by ((try clear hh_im hh_ib d1 d2 r1 r2 r1' r2' hir hb0 hh_i7 f1 f2 f3 f4 g1 g2 g3); omega)), decide_eq_true (by ((try clear hh_im hh_ib d1 d2 r1 r2 r1' r2' hir hb0 hh_i7 f1 f2 f3 f4 g1 g2 g3); omega))]; rfl
   have stp : ∀ (G : Nat → List AV), G 0 = [i64 (h.seam i).mo] → appF i 1 (intF (moN' h i)) G = intF (moN' h (i + 1)) := fun G hG => by
    have := app_ints (moN' h i) (h.seam i).mo G hG
    rw [moN'_len] at this
    rw [moN'_succ]
    exact this
   refine callK_pure (lwithin_tri _ _ _ _) ?_
   rw [c1]
   simp only [vsAll, loadA, loadRow, partA, partOk, fieldAddrA, opA, guardV, dstOk, Nat.reduceLT, Nat.reduceEqDiff, Int.reduceNeg, ↓reduceIte, eq_self, wtAll]
   refine gcall (boo true) (fun g => ⟨by simp only [vsAll, opA], by simp only [vsAll, okAll, opsA, opA, Int.reduceNeg, ↓reduceIte, eq_self], by have := lwithin_tri (h.seam i).sd (-1) 1; rw [c2] at this; exact this _⟩) ?_
   simp only [vsAll, loadA, loadRow, partA, partOk, fieldAddrA, pickA, opA, guardV, dstOk, Nat.reduceLT, Nat.reduceEqDiff, Int.reduceNeg, ↓reduceIte, implies_true, eq_self, wtAll]
   refine gcall (boo true) (fun g => ⟨by simp only [vsAll, opA], by simp only [vsAll, okAll, opsA, opA, ↓reduceIte, eq_self], by have := lwithin_tri (h.seam i).mo 0 4; rw [c3] at this; exact this _⟩) ?_
   simp only [vsAll, pickA, okAll, stAll, opsA, opA, dstOk, Nat.reduceLT, Nat.reduceEqDiff, Int.reduceNeg, ↓reduceIte, implies_true, eq_self]
   refine lwant_call (fun _ => ?_) (fun hb => by cases hb)
   simp only [vsAll, Int.reduceNeg]
   refine vs_draw2 [0, 0, 0, 0, 0, 0, 0, 0, 1, 2, 2, 3] [([0, 1, 2, 3, 4, 5, 6, 7], [], 8), ([9, 10], [], 11)] [] (by decide +kernel) ?_
   simp only [vsAll, binA, binLitA, intA, loadA, loadRow, partA, partOk, fieldAddrA, nilCheckA, cellA, cellsA, okParts, buildSliceA, partIdx, elemsA, lensA, partsA, partsOk, opA, newCells, okCells, storeObj, appendA, dstOk, Nat.reduceAdd, Nat.reduceMul, Nat.reduceLT, Nat.reduceLeDiff, Nat.reduceEqDiff, ↓reduceIte, eq_self, wtAll, r1, r1', hh_i7]
   refine ⟨fun q hq => by (have : q = 0 := by ((try clear hh_im hh_ib d1 d2 r1 r2 r1' r2' hir hb0 hh_i7 f1 f2 f3 f4 g1 g2 g3); omega)); subst this; exact ⟨rfl, trivial⟩, by ((try clear hh_im hh_ib d1 d2 r1 r2 r1' r2' hir hb0 hh_i7 f1 f2 f3 f4 g1 g2 g3); omega), by ((try clear hh_im hh_ib d1 d2 r1 r2 r1' r2' hir hb0 hh_i7 f1 f2 f3 f4 g1 g2 g3); omega), by simp only [InR_i64]; ((try clear hh_im hh_ib d1 d2 r1 r2 r1' r2' hir hb0 hh_i7 f1 f2 f3 f4 g1 g2 g3); omega), loop_next (i + 1) his (by ((try clear hh_im hh_ib d1 d2 r1 r2 r1' r2' hir hb0 hh_i7 f1 f2 f3 f4 g1 g2 g3); omega)) ?_ ?_⟩
   ·simp only [vsAll, Nat.reduceEqDiff, ↓reduceIte, eq_self, Int.natCast_add, Int.natCast_one]
   ·rw [stp _ rfl]
    have e1 : (H.set im (.raw (.map #[] 0))) ib = none := by rw [Hp.set_ne _ _ d1]; exact hb0
    have e2 : (H.set im (.raw (.map #[] 0))) ir = none := by rw [Hp.set_ne _ _ r2]; exact hir
    have e3 : (H.set im (.raw (.map #[] 0))) i7 = none := by rw [Hp.set_ne _ _ f3]; exact f4
    exact Go.V.HSub.set (Go.V.HSub.set (HSub_drop2 e3 (HSub_drop2 e3 (HSub_drop2 e1 (HSub_drop2 e2 HSub_rfl)))) (.refl _)) (.refl _)
  ·have ei : i = h.sm.length := by ((try clear hh_im hh_ib d1 d2 r1 r2 r1' r2' hir hb0); omega)
   subst ei
   simp only [vsAll, loadA, loadRow, partA, partOk, fieldAddrA, lenA, opA, dstOk, Nat.reduceLT, Nat.reduceEqDiff, Int.reduceNeg, ↓reduceIte, eq_self, wtAll]
   refine vs_loop (σ := Nat) (fun i => i ≤ h.so.length) (fun i => [(1, boo v), (5, .ref ib 0 4 0 0), (59, lsAV h.so), (60, i64 h.so.length), (61, i64 i)])
    (fun i => ((H.set im (.raw (.map #[] 0))).set ir (.row 1 h.sm.length (intF (moN' h h.sm.length)))).set ib (.box 4 1 fun _ => hC h (.sl ir 1 h.sm.length) im)) (fun i => h.so.length - i) 0 (Nat.zero_le _) ?_ HSub_rfl fun i hi => ?_
   ·simp only [vsAll, Nat.reduceEqDiff, ↓reduceIte, eq_self, Int.natCast_zero]
   ·simp only [vsAll, binA, binLitA, intA, opA, dstOk, Nat.reduceLT, Nat.reduceEqDiff, ↓reduceIte, eq_self]
    refine condD (fun hd => ?_) (fun hd => ?_)
    ·have his : i < h.so.length := by ((try clear hh_im hh_ib d1 d2 r1 r2 r1' r2' hir hb0); omega)
     have kq := k.q i his
     have eQ : h.so.getD i ls0 = h.snd i := rfl
     simp only [vsAll, loadA, loadRow, partA, partOk, fieldAddrA, indexAddrA, cellA, cellsA, fillA, okParts, okAll, stAll, opsA, partsA, partsOk, opA, allocA, newCells, okCells, storeObj, dstOk, Nat.reduceAdd, Nat.reduceLT, Nat.reduceLeDiff, Nat.reduceEqDiff, ↓reduceIte, eq_self, wtAll, lsF_at, eQ]
     refine ⟨⟨by ((try clear hh_im hh_ib d1 d2 r1 r2 r1' r2' hir hb0); omega), by ((try clear hh_im hh_ib d1 d2 r1 r2 r1' r2' hir hb0); omega)⟩, his, ?_⟩
     intro i9 hh_i9; (try simp only [ite_none] at hh_i9)
     have f7 : ¬ i9 = ib ∧ ¬ i9 = ir ∧ ¬ i9 = im ∧ H i9 = none := by simp_all
     obtain ⟨f1, f2, f3, f4⟩ := f7
     have g1 : ¬ ib = i9 := fun e => f1 e.symm
     have g2 : ¬ ir = i9 := fun e => f2 e.symm
     have g3 : ¬ im = i9 := fun e => f3 e.symm
     skip
     have c1 : ((decide (0 ≤ (h.snd i).dr) && decide ((h.snd i).dr ≤ 12)) && (decide (-3 ≤ (h.snd i).li) && decide ((h.snd i).li ≤ 3))) = true := by
      rw [decide_eq_true (by ((try clear hh_im hh_ib d1 d2 r1 r2 r1' r2' hir hb0 hh_i9 f1 f2 f3 f4 g1 g2 g3); omega)), decide_eq_true (by ((try clear hh_im hh_ib d1 d2 r1 r2 r1' r2' hir hb0 hh_i9 f1 f2 f3 f4 g1 g2 g3); omega)), decide_eq_true (by ((try clear hh_im hh_ib d1 d2 r1 r2 r1' r2' hir hb0 hh_i9 f1 f2 f3 f4 g1 g2 g3); omega)), decide_eq_true (by ((try clear hh_im hh_ib d1 d2 r1 r2 r1' r2' hir hb0 hh_i9 f1 f2 f3 f4 g1 g2 g3); omega))]; rfl
     have c2 : (decide (0 ≤ (h.snd i).lo) && decide ((h.snd i).lo ≤ (h.snd i).hi)) = true := by rw [decide_eq_true (by ((try clear hh_im hh_ib d1 d2 r1 r2 r1' r2' hir hb0 hh_i9 f1 f2 f3 f4 g1 g2 g3); omega)), decide_eq_true (by ((try clear hh_im hh_ib d1 d2 r1 r2 r1' r2' hir hb0 hh_i9 f1 f2 f3 f4 g1 g2 g3); omega))]; rfl
     have c3 : decide ((h.snd i).hi ≤ 24) = true := decide_eq_true (by ((try clear hh_im hh_ib d1 d2 r1 r2 r1' r2' hir hb0 hh_i9 f1 f2 f3 f4 g1 g2 g3); omega))
     refine callK_pure (isPlace_tri _ _ _) ?_
     rw [c1]
     simp only [vsAll, loadA, loadRow, partA, partOk, fieldAddrA, opA, guardV, dstOk, Nat.reduceAdd, Nat.reduceLT, Nat.reduceEqDiff, ↓reduceIte, eq_self, wtAll]
     refine gcall (boo true) (fun g => ⟨by simp only [vsAll, opA], by simp only [vsAll, okAll, opsA, opA, Nat.reduceEqDiff, ↓reduceIte, eq_self], by have := lwithin_tri (h.snd i).lo 0 (h.snd i).hi; rw [c2] at this; exact this _⟩) ?_
     simp only [vsAll, binA, binLitA, intA, loadA, loadRow, partA, partOk, fieldAddrA, pickA, okAll, stAll, opsA, opA, guardV, dstOk, Nat.reduceAdd, Nat.reduceLT, Nat.reduceEqDiff, ↓reduceIte, implies_true, eq_self, wtAll, c3]
     refine lwant_call (fun _ => ?_) (fun hb => by cases hb)
     simp only [vsAll, binA, binLitA, intA, opA, dstOk, Nat.reduceLT, Nat.reduceEqDiff, ↓reduceIte, eq_self]
     refine ⟨by simp only [InR_i64]; ((try clear hh_im hh_ib d1 d2 r1 r2 r1' r2' hir hb0 hh_i9 f1 f2 f3 f4 g1 g2 g3); omega), loop_next (i + 1) his (by ((try clear hh_im hh_ib d1 d2 r1 r2 r1' r2' hir hb0 hh_i9 f1 f2 f3 f4 g1 g2 g3); omega)) ?_ ?_⟩
     ·simp only [vsAll, Nat.reduceEqDiff, ↓reduceIte, eq_self, Int.natCast_add, Int.natCast_one]
     ·have e3 : (((H.set im (.raw (.map #[] 0))).set ir (.row 1 h.sm.length (intF (moN' h h.sm.length)))).set ib (.box 4 1 fun _ => hC h (.sl ir 1 h.sm.length) im)) i9 = none := by
       rw [Hp.set_ne _ _ f1, Hp.set_ne _ _ f2, Hp.set_ne _ _ f3]; exact f4
      exact HSub_drop2 e3 (HSub_drop2 e3 HSub_rfl)
    ·have ei : i = h.so.length := by ((try clear hh_im hh_ib d1 d2 r1 r2 r1' r2' hir hb0); omega)
     subst ei
     simp only [vsAll, okAll, stAll, opsA, opA, dstOk, Nat.reduceLT, Nat.reduceEqDiff, ↓reduceIte, eq_self]
     refine lwant_call (fun hv => ?_) (fun hv => ?_)
     ·simp only [vsAll, opA, dstOk, nilSliceOp, Nat.reduceLT, Nat.reduceEqDiff, Nat.reduceBEq, ↓reduceIte, eq_self]
      refine fn_ent (Ent.freezeBox (s' := _) (id := ir) (st := 1) (n := h.sm.length) (f := intF (moN' h h.sm.length)) (j := ib) (st' := 4) (n' := 1) (g := fun _ => hC h (.sl ir 1 h.sm.length) im) (g' := fun _ => hC h (.rsl h.sm.length 1 (intF (moN' h h.sm.length))) im) (by simp only [vsAll, ↓reduceIte, eq_self, r1]) (by simp only [vsAll, ↓reduceIte, eq_self]) (fun t => .rfl) (fun _ _ => rfl) (fun q d hq hd => ?_) ?_)
      ·match d, hd with
       | 0, _ => exact .rfl
       | 1, _ => exact .rfl
       | 2, _ => exact .hit
       | 3, _ => exact .rfl
      refine ret_freezeB (by rw [Try.results34]) (rfl) (Hp.set_same _ _ _) ?_
      refine ⟨H.set im (.memo (wetM h)), ?_, .inl ⟨hv, im, hh_im, ?_, rfl⟩⟩
      ·have e1 : (H.set im (.memo (wetM h))) ib = none := by rw [Hp.set_ne _ _ d1]; exact hb0
       have e2 : (H.set im (.memo (wetM h))) ir = none := by rw [Hp.set_ne _ _ r2]; exact hir
       refine HSub_del e1 (HSub_drop2 e1 (HSub_del e2 (HSub_drop2 e1 (HSub_drop2 e2 ?_))))
       exact HSub_set (memo_le (by simp) (by simp))
      ·have e : (moL h).length = h.sm.length := moL_len h
       show Res.ret (.rptr 1 4 (fun _ => hC h (.rsl h.sm.length 1 (intF (moN' h h.sm.length))) im) 0 0) = Res.ret (.rptr 1 4 (fun _ => hC h (.rsl (moL h).length 1 (intF (moL h))) im) 0 0)
       rw [e, moN'_all]
     ·simp only [vsAll, eq_self]
      refine ⟨H, ?_, .inr ⟨hv, rfl, rfl⟩⟩
      exact HSub_drop2 hb0 (HSub_drop2 hir (HSub_drop2 hh_im HSub_rfl))
end Go.Proofs.Ytclkjifgipcamaa
end
section
set_option linter.unusedVariables false
set_option linter.unusedSimpArgs false
namespace Go.V
set_option linter.unusedSectionVars false
variable [Inhabited GivT]
/-- Two heaps, one beside the other. -/
def mrg (A E : Hp) : Hp := fun j => match E j with
 | some o => some o
 | none => A j
def Apart (A E : Hp) : Prop := ∀ j, E j ≠ none → A j = none
theorem mrg_none {A E : Hp} {j : Nat} (h : E j = none) : mrg A E j = A j := by simp [mrg, h]
theorem mrg_some {A E : Hp} {j : Nat} {o : Obj} (h : E j = some o) : mrg A E j = some o := by simp [mrg, h]
theorem mrg_fresh {A E : Hp} {j : Nat} (h : mrg A E j = none) : A j = none ∧ E j = none := by
 unfold mrg at h
 cases he : E j with
 | none => rw [he] at h; exact ⟨h, rfl⟩
 | some o => rw [he] at h; cases h
theorem mrg_setA {A E : Hp} {j : Nat} {o : Obj} (h : E j = none) : mrg (A.set j o) E = (mrg A E).set j o := by
 funext k
 simp only [mrg, Hp.set]
 by_cases e : k = j
 ·subst e; simp [h]
 ·simp [e]
theorem mrg_setE (A E : Hp) (j : Nat) (o : Obj) : mrg A (E.set j o) = (mrg A E).set j o := by
 funext k
 simp only [mrg, Hp.set]
 by_cases e : k = j
 ·subst e; simp
 ·simp [e]
theorem mrg_emp (A : Hp) : mrg A (fun _ => none) = A := rfl
theorem apart_emp (A : Hp) : Apart A fun _ => none := fun j h => absurd rfl h
theorem Apart.E {A E : Hp} (h : Apart A E) {j : Nat} (hj : A j ≠ none) : E j = none := Classical.byContradiction fun e => hj (h j e)
theorem Apart.setE {A E : Hp} (h : Apart A E) {j : Nat} (o : Obj) (hj : A j = none) : Apart A (E.set j o) := fun k hk => by
 by_cases e : k = j
 ·subst e; exact hj
 ·rw [Hp.set_ne _ _ e] at hk; exact h k hk
theorem mrg_sub (A E : Hp) (h : Apart A E) : Go.V.HSub (mrg A E) A := fun j o hj => ⟨o, by
 rw [mrg_none (h.E (by rw [hj]; exact Option.some_ne_none _))]; exact hj, .refl _⟩
/-- Yields, one after another, each of which says true. -/
def IterE (P : Program) (y : AV) : List (List AV) → Hp → (Hp → Prop) → Prop
 | [], H, K => K H
 | x :: l, H, K => ∀ E, Apart H E → Tri P y x (mrg H E) fun r H' => r = .ret (.lit (.bool true)) ∧ ∃ H1, Apart H1 E ∧ H' = mrg H1 E ∧ IterE P y l H1 K
theorem iter_seqE {P : Program} {y : AV} {L : List (List AV)} {σ : Type} {inv : Nat → σ → Prop} {G : Nat → σ → Hp} {K : Hp → Prop} {B : Hp}
  (hG : ∀ i x, inv i x → ∀ j, (G i x) j = none ↔ B j = none)
  (h : ∀ i v x, L[i]? = some v → inv i x → ∀ E, Apart B E → Tri P y v (mrg (G i x) E) fun r H' => r = .ret (.lit (.bool true)) ∧ ∃ x', inv (i + 1) x' ∧ H' = mrg (G (i + 1) x') E)
  (hK : ∀ x, inv L.length x → K (G L.length x)) (x0 : σ) (h0 : inv 0 x0) : IterE P y L (G 0 x0) K := by
 have ap : ∀ i x, inv i x → ∀ E, Apart (G i x) E ↔ Apart B E := fun i x hx E => ⟨fun a j hj => (hG i x hx j).1 (a j hj), fun a j hj => (hG i x hx j).2 (a j hj)⟩
 have key : ∀ (l : List (List AV)) (j : Nat) (x : σ), L.drop j = l → j ≤ L.length → inv j x → IterE P y l (G j x) K := by
  intro l
  induction l with
  | nil =>
    intro j x hl hj hi
    have : j = L.length := by
     have := congrArg List.length hl
     simp at this; omega
    subst this; exact hK x hi
  | cons v l ih =>
    intro j x hl hj hi
    have hx : L[j]? = some v := by
     have := congrArg (fun q => q[0]?) hl
     simpa using this
    have hj' : j < L.length := (List.getElem?_eq_some_iff.1 hx).1
    intro E hE
    refine (h j v x hx hi E ((ap j x hi E).1 hE)).mono ?_
    rintro r H' ⟨rfl, x', hi', rfl⟩
    refine ⟨rfl, _, (ap (j + 1) x' hi' E).2 ((ap j x hi E).1 hE), rfl, ih (j + 1) x' ?_ hj' hi'⟩
    rw [← List.drop_drop, hl]; rfl
 exact key L 0 x0 rfl (Nat.zero_le _) h0
section
variable {P : Program} {m : Option Tmp → Bool} {n : Nat} {k : List It} {s : Fr} {ds : List AD} {H : Hp} {Q : Post}
/-- What is asked at a round's end. -/
def RndE (NX : Hp → Prop) (lid did : Nat) (lo : LoopState → Option Code → Obj) : Post := fun x s' ds' H' => match x with
 | .normal => (∃ st pd, H' lid = some (lo st pd)) ∧ ∃ nx, NX nx ∧ Go.V.HSub H' ((nx.set did (.raw (.deferred (some [])))).set lid (lo .busy none))
 | _ => False
theorem RndE_normal {NX : Hp → Prop} {s' : Fr} {ds' : List AD} {lid did : Nat} {lo : LoopState → Option Code → Obj} : RndE NX lid did lo .normal s' ds' H = ((∃ st pd, H lid = some (lo st pd)) ∧ ∃ nx, NX nx ∧ Go.V.HSub H ((nx.set did (.raw (.deferred (some [])))).set lid (lo .busy none))) := rfl
def AsgE (P : Program) (m : Option Tmp → Bool) (n : Nat) (l : Nat) (body : Code) (NX : Hp → Prop) (lid did : Nat) (lo : LoopState → Option Code → Obj) : Post := fun x s' ds' H' => match x with
 | .normal => H' lid = some (lo .ready none) ∧ VS (some l) P m n [.code body] s' ds' (H'.set lid (lo .busy none)) (RndE NX lid did lo)
 | _ => False
theorem AsgE_normal {l : Nat} {body : Code} {NX : Hp → Prop} {s' : Fr} {ds' : List AD} {lid did : Nat} {lo : LoopState → Option Code → Obj} : AsgE P m n l body NX lid did lo .normal s' ds' H = (H lid = some (lo .ready none) ∧ VS (some l) P m n [.code body] s' ds' (H.set lid (lo .busy none)) (RndE NX lid did lo)) := rfl
theorem vs_rangeE {g : Operand} {ps : Array Tmp} {assign body : Code} {f : FuncId} {fn : Func} {c : Code} {caps : List AV} {σ : Type} (L : List (List AV)) (inv : Nat → σ → Prop) (hp : Nat → σ → Hp) (x0 : σ)
  (hf : P.funcs[f]? = some fn) (hname : (fn.name == "runtime.NumGoroutine") = false) (hb : fn.body = some c)
  (hg : (opA s g).ok) (hgv : (opA s g).st = .func (.func f) [] caps) (hps : ∀ t ∈ ps.toList, t < n) (hpl : ∀ x ∈ L, x.length = ps.size)
  (hit : ∀ yf H K, IterE P (.func yf [] []) L H K → Tri P (.func (.func f) [] caps) [.func yf [] []] H fun r H' => (∃ v, r = .ret v) ∧ K H')
  (h0 : inv 0 x0) (hH : Go.V.HSub H (hp 0 x0)) (hfr : ∀ i x, inv i x → ∀ id, hp i x id = none ↔ hp 0 x0 id = none)
  (round : ∀ (E : Hp) i v x, L[i]? = some v → inv i x → Apart (hp 0 x0) E → ∀ lid did l (lo : LoopState → Option Code → Obj), hp 0 x0 lid = none → hp 0 x0 did = none → lid ≠ did → E lid = none → E did = none →
   VS (some l) P m n [.code assign] (putAll s ps.toList v) [] (((mrg (hp i x) E).set did (.raw (.deferred (some [])))).set lid (lo .ready none)) (AsgE P m n l body (fun nx => ∃ x', inv (i + 1) x' ∧ nx = mrg (hp (i + 1) x') E) lid did lo))
  (fin : ∀ x, inv L.length x → ∀ lid did (lo : LoopState → Option Code → Obj), hp 0 x0 lid = none → hp 0 x0 did = none → lid ≠ did →
   VS none P m n k s (.mark did :: ds) (((hp L.length x).set did (.raw (.deferred (some [])))).set lid (lo .exhausted none)) Q) :
  VS none P m n (.code (.rangeFunc g ps assign body) :: k) s ds H Q := by
 show WPS none P n (.rangeFunc g ps assign body) s ds H (TK none P m n k Q)
 refine wps_ent (Ent.weak (s' := s) (fun t => AV.Le.refl _) hH ?_)
 refine wps_range hg hgv hf hname hb fun lid did l h1 h2 h3 => ?_
 let lo : LoopState → Option Code → Obj := fun st pd => .loop l n s ps assign body st pd did
 let G : Nat → σ → Hp := fun i x => ((hp i x).set did (.raw (.deferred (some [])))).set lid (lo .ready none)
 let K : Hp → Prop := fun H' => ∃ st pend, H' lid = some (lo st pend) ∧ st ≠ .busy ∧ jumpQ pend fun x => VX none P m n k x s (.mark did :: ds) (H'.set lid (lo .exhausted pend)) Q
 refine ⟨_, hit (.yield l) _ K ?_, ?_⟩
 ·refine iter_seqE (G := G) (inv := inv) (B := G 0 x0) (fun i x hi q => ?_) (fun i v x hv hi E hE => ?_) (fun x hi => ⟨.ready, none, Hp.set_same _ _ _, by simp, ?_⟩) x0 h0
  ·simp only [G, Hp.set]
   by_cases e1 : q = lid
   ·simp [e1]
   ·rw [if_neg e1, if_neg e1]
    by_cases e2 : q = did
    ·simp [e2]
    ·rw [if_neg e2, if_neg e2]; exact hfr i x hi q
  ·have n1 : E lid = none := hE.E (by simp only [G, Hp.set_same]; exact Option.some_ne_none _)
   have n2 : E did = none := hE.E (by
    have : G 0 x0 did = some (.raw (.deferred (some []))) := by
     simp only [G]
     rw [Hp.set_ne _ _ (fun e => h3 e.symm), Hp.set_same]
    rw [this]; exact Option.some_ne_none _)
   have hE0 : Apart (hp 0 x0) E := fun j hj => by
    have := hE j hj
    simp only [G] at this
    rw [Hp.set_ne _ _ (fun e => by subst e; exact hj n1), Hp.set_ne _ _ (fun e => by subst e; exact hj n2)] at this
    exact this
   have ec : ∀ (A : Hp) X Y, mrg ((A.set did X).set lid Y) E = ((mrg A E).set did X).set lid Y := fun A X Y => by
    rw [mrg_setA n1, mrg_setA n2]
   have eG : mrg (G i x) E = ((mrg (hp i x) E).set did (.raw (.deferred (some [])))).set lid (lo .ready none) := ec _ _ _
   rw [eG]
   refine Tri.drop ?_
   refine tri_yield (lid := lid) (n := n) (s := s) (ps := ps) (assign := assign) (body := body) (did := did) (Hp.set_same _ _ _) (hpl v (List.mem_of_getElem? hv)) hps ?_
   refine (vcC_sound assign (round E i v x hv hi hE0 lid did l lo h1 h2 h3 n1 n2)).mono ?_
   intro x1 s1 ds1 H1 hq
   cases x1 with
   | normal =>
     obtain ⟨q1, q2⟩ := hq
     refine ⟨rfl, q1, (vcC_sound body q2).mono ?_⟩
     intro x2 s2 ds2 H2 hq2
     cases x2 with
     | normal =>
       obtain ⟨⟨st, pd, ho⟩, nx, ⟨x', hi', rfl⟩, hsub⟩ := hq2
       exact ⟨st, pd, ho, _, HSub.reset hsub, rfl, x', hi', (ec _ _ _).symm⟩
     | _ => exact hq2.elim
   | _ => exact hq.elim
  ·simp only [jumpQ, G, Hp.set_set]
   exact fin x hi lid did lo h1 h2 h3
 ·rintro r H' ⟨⟨v, rfl⟩, st, pend, ho, hst, hj⟩
  exact ⟨st, pend, ho, hst, hj⟩
end
end Go.V
end
section
set_option linter.unusedVariables false
set_option linter.unusedSimpArgs false
set_option maxHeartbeats 4000000
set_option maxRecDepth 100000
namespace Go.Proofs.Ytclkjifgipcamaa
open Go.V
abbrev hbA (h : Hl) (im : Nat) : AV := .rptr 1 1 (fun _ => [hP h im]) 0 0
abbrev onL (h : Hl) (im io : Nat) (yf : Fn) : AV := .func (.func 126) [] [hbA h im, .rptr 1 1 (fun _ => [.func yf [] []]) 0 0, .rptr 1 1 (fun _ => [cndAV h]) 0 0, .ref io 0 1 0 0]
def ylL (L : List (List Int)) : List (List AV) := L.map fun l => [ifAV l]
theorem ylL_app (L M : List (List Int)) : ylL (L ++ M) = ylL L ++ ylL M := by simp [ylL]
def inG (h : Hl) (n : Nat) (b : List Int) (x : Nat) : List (List Int) := if okP h (b ++ [(x : Int)]) = true then infl h n (b ++ [(x : Int)]) else []
def inR (h : Hl) (n : Nat) (b : List Int) (i : Nat) : List (List Int) := ((List.range (h.M b.length + 1)).drop i).flatMap (inG h n b)
theorem inR_step {h : Hl} {n : Nat} {b : List Int} {i : Nat} (hi : i < h.M b.length + 1) : inR h n b i = inG h n b i ++ inR h n b (i + 1) := by
 unfold inR
 rw [List.drop_eq_getElem_cons (by simpa using hi), List.flatMap_cons, List.getElem_range]
theorem inR_end (h : Hl) (n : Nat) (b : List Int) : inR h n b (h.M b.length + 1) = [] := by
 unfold inR
 rw [List.drop_eq_nil_of_le (by simp)]; rfl
def prv (i : Nat) : Int := if i = 0 then 0 else (i : Int) - 1
theorem ifF_zero (b : List Int) : ifF b = ifF (b ++ [0]) := by
 funext q
 unfold ifF
 by_cases e : q < b.length
 ·rw [lapp _ _ _ e]
 ·have e1 : b.getD q 0 = 0 := by rw [List.getD_eq_getElem?_getD, List.getElem?_eq_none (by omega)]; rfl
  have e2 : (b ++ [(0 : Int)]).getD q 0 = 0 := by
   obtain ⟨z, rfl⟩ : ∃ z, q = b.length + z := ⟨q - b.length, by omega⟩
   rw [lappR]
   cases z with
   | zero => rfl
   | succ z => simp
  rw [e1, e2]
theorem ifF_upd {b : List Int} {x y : Int} (hb : b.length < 6) : ∀ q, q < 6 → updF 6 b.length (ifF (b ++ [y])) [i64 x] q = ifF (b ++ [x]) q := fun q hq => by
 rw [Go.V.updF_at hb hq]
 unfold ifF
 by_cases e : q = b.length
 ·subst e
  rw [if_pos rfl]
  have := lappR b [x] 0 0
  rw [Nat.add_zero] at this
  rw [this]; rfl
 ·rw [if_neg e]
  by_cases e2 : q < b.length
  ·rw [lapp _ _ _ e2, lapp _ _ _ e2]
  ·obtain ⟨z, rfl⟩ : ∃ z, q = b.length + (z + 1) := ⟨q - b.length - 1, by omega⟩
   rw [lappR, lappR]; simp
theorem snoc_bd {b : List Int} {x : Int} (hb : ∀ i, 0 ≤ b.getD i 0 ∧ b.getD i 0 ≤ 4) (hx : 0 ≤ x ∧ x ≤ 4) (i : Nat) : 0 ≤ (b ++ [x]).getD i 0 ∧ (b ++ [x]).getD i 0 ≤ 4 := by
 by_cases e : i < b.length
 ·rw [lapp _ _ _ e]; exact hb i
 ·obtain ⟨z, rfl⟩ : ∃ z, i = b.length + z := ⟨i - b.length, by omega⟩
  rw [lappR]
  cases z with
  | zero => exact hx
  | succ z => simp
theorem lon_tri {h : Hl} (k : OkH h) {im io : Nat} {yf : Fn} {K : Hp → Prop} :
  ∀ (n : Nat) (b : List Int) (A E : Hp) (L2 : List (List AV)), b.length + n = h.sm.length → (∀ i, 0 ≤ b.getD i 0 ∧ b.getD i 0 ≤ 4) → Apart A E → E io = some (.box 1 1 fun _ => [onL h im io yf]) →
    IterE Try.prog (.func yf [] []) (ylL (infl h n b) ++ L2) A K →
    Tri Try.prog (onL h im io yf) [ifAV b, i64 b.length] (mrg A E) fun r H' => r = .ret (boo true) ∧ ∃ H1, Apart H1 E ∧ H' = mrg H1 E ∧ IterE Try.prog (.func yf [] []) L2 H1 K := by
 have nS := k.nS
 have nQ := k.nQ
 have hml := moL_len h
 intro n
 induction n with
 | zero =>
   intro b A E L2 hl hb ap ho hit
   have hit2 : IterE Try.prog (.func yf [] []) ([ifAV b] :: L2) A K := hit
   refine Tri.drop ?_
   refine tri_v0 (mset []) Try.func126 (by kernel_rfl) rfl (by simp only [List.length_append, List.length_cons, List.length_nil, Try.ntmps126]; decide) ?_
   simp only [vsAll, binA, binLitA, intA, loadA, loadRow, partA, partOk, fieldAddrA, lenA, nilCheckA, boxA, boxZ, opA, dstOk, nilSliceOp, argFr, Nat.reduceLT, Nat.reduceEqDiff, ↓reduceIte, eq_self, wtAll, Try.ntmps126, hml]
   refine condD (fun hd => ?_) (fun hd => absurd (by omega) hd)
   simp only [vsAll, loadA, loadRow, partA, partOk, okAll, stAll, opsA, opA, dstOk, argFr, Nat.reduceLT, Nat.reduceEqDiff, ↓reduceIte, eq_self, wtAll]
   refine callK (hit2 E ap) ?_
   rintro r H' ⟨rfl, H1, a1, rfl, a3⟩
   simp only [vsAll, opA, dstOk, nilSliceOp, resA, retA.eq_1, Nat.reduceLT, ↓reduceIte, eq_self, Try.results126]
   exact ⟨_, HSub_rfl, rfl, H1, a1, rfl, a3⟩
 | succ n ih =>
   intro b A E L2 hl hb ap ho hit
   have hbl : b.length < h.sm.length := by omega
   have hM := k.M hbl
   have hmi : (moL h).getD b.length 0 = (h.seam b.length).mo := moL_at h hbl
   refine Tri.drop ?_
   refine tri_v0 (mset [6]) Try.func126 (by kernel_rfl) rfl (by simp only [List.length_append, List.length_cons, List.length_nil, Try.ntmps126]; decide) ?_
   simp only [vsAll, binA, binLitA, intA, loadA, loadRow, partA, partOk, fieldAddrA, lenA, nilCheckA, opA, boxMutA, dstOk, nilSliceOp, argFr, Nat.reduceLT, Nat.reduceEqDiff, Nat.reduceBEq, ↓reduceIte, eq_self, wtAll, Try.ntmps126, hml]
   intro i6 hh_i6; (try simp only [Hp.set_none, ite_none] at hh_i6)
   obtain ⟨fA, fE⟩ := mrg_fresh hh_i6
   have d1 : ¬ io = i6 := fun e => by rw [e, fE] at ho; cases ho
   have d2 : ¬ i6 = io := fun e => d1 e.symm
   have hio : ∀ A : Hp, mrg A E io = some (.box 1 1 fun _ => [onL h im io yf]) := fun A => mrg_some ho
   refine condD (fun hd => absurd hd (by ((try clear hh_i6); omega))) (fun hd => ?_)
   simp only [vsAll, opA, dstOk, nilSliceOp, Nat.reduceLT, Nat.reduceBEq, eq_self]
   refine vs_loop (σ := Nat × Hp) (fun y => y.1 ≤ h.M b.length + 1 ∧ Apart y.2 E ∧ y.2 i6 = none ∧ IterE Try.prog (.func yf [] []) (ylL (inR h n b y.1) ++ L2) y.2 K)
    (fun y => [(1, i64 b.length), (2, hbA h im), (3, .rptr 1 1 (fun _ => [.func yf [] []]) 0 0), (4, .rptr 1 1 (fun _ => [cndAV h]) 0 0), (5, .ref io 0 1 0 0), (6, .ref i6 0 1 0 0), (9, i64 y.1)])
    (fun y => (mrg y.2 E).set i6 (.box 1 6 (ifF (b ++ [prv y.1])))) (fun y => h.M b.length + 1 - y.1) (0, A) ⟨Nat.zero_le _, ap, fA, hit⟩ ?_ ?_ fun y hy => ?_
   ·simp only [vsAll, argFr, Nat.reduceEqDiff, ↓reduceIte, eq_self, Int.natCast_zero]
   ·rw [ifF_zero b]; exact HSub_rfl
   ·obtain ⟨i, A1⟩ := y
    obtain ⟨hi, a1, a2, a3⟩ := hy
    simp only [] at hi a1 a2 a3
    have n6 : (mrg A1 E) i6 = none := by rw [mrg_none fE]; exact a2
    skip
    simp only [vsAll, binA, binLitA, intA, loadA, loadRow, partA, partOk, fieldAddrA, indexAddrA, nilCheckA, opA, dstOk, Nat.reduceLT, Nat.reduceEqDiff, ↓reduceIte, eq_self, wtAll, hml, intF_at, hmi]
    refine ⟨⟨by ((try clear hh_i6 d1 d2 n6); omega), by ((try clear hh_i6 d1 d2 n6); omega)⟩, hbl, condD (fun hd2 => ?_) (fun hd2 => ?_)⟩
    ·have his : i < h.M b.length + 1 := by ((try clear hh_i6 d1 d2 n6); omega)
     have hst := inR_step (n := n) his
     rw [hst, ylL_app, List.append_assoc] at a3
     have hbd := snoc_bd (x := (i : Int)) hb (by ((try clear hh_i6 d1 d2 n6); omega))
     have hlx : (b ++ [(i : Int)]).length = b.length + 1 := by simp
     have eu := ifF_upd (b := b) (x := (i : Int)) (y := prv i) (by ((try clear hh_i6 d1 d2 n6); omega))
     simp only [vsAll, loadA, loadRow, partA, partOk, indexAddrA, lenA, cellA, cellsA, opA, newCells, okCells, storeObj, dstOk, Nat.reduceLT, Nat.reduceEqDiff, ↓reduceIte, eq_self, wtAll]
     refine ⟨⟨by ((try clear hh_i6 d1 d2 n6); omega), by ((try clear hh_i6 d1 d2 n6); omega)⟩, by ((try clear hh_i6 d1 d2 n6); omega), ?_⟩
     refine vs_loop (σ := Nat) (fun j => j ≤ h.so.length + 1 ∧ ∀ q, q < j → cndB h (b ++ [(i : Int)]) q = true)
      (fun j => [(1, i64 b.length), (2, hbA h im), (3, .rptr 1 1 (fun _ => [.func yf [] []]) 0 0), (4, .rptr 1 1 (fun _ => [cndAV h]) 0 0), (5, .ref io 0 1 0 0), (6, .ref i6 0 1 0 0), (9, i64 i), (36, cndAV h), (37, i64 (h.so.length + 1 : Nat)), (38, i64 j)])
      (fun _ => (mrg A1 E).set i6 (.box 1 6 (ifF (b ++ [(i : Int)])))) (fun j => h.so.length + 1 - j) 0 ⟨Nat.zero_le _, fun q hq => absurd hq (Nat.not_lt_zero q)⟩ ?_ ?_ fun j hj => ?_
     ·simp only [vsAll, Nat.reduceEqDiff, ↓reduceIte, eq_self, Int.natCast_zero]
     ·rw [Hp.set_set]
      exact HSub.set (HSub.refl _) (box_ext fun q hq => eu q hq)
     ·obtain ⟨hj, hall⟩ := hj
      simp only [vsAll, binA, binLitA, intA, opA, dstOk, Nat.reduceLT, Nat.reduceEqDiff, ↓reduceIte, eq_self]
      refine condD (fun hd3 => ?_) (fun hd3 => ?_)
      ·have hjs : j < h.so.length + 1 := by ((try clear hh_i6 d1 d2 n6); omega)
       have hok := cndA_ok h j
       have hst2 := cndA_st h j
       simp only [vsAll, loadA, loadRow, partA, partOk, indexAddrA, opA, dstOk, nilSliceOp, Nat.reduceLT, Nat.reduceEqDiff, Nat.reduceBEq, ↓reduceIte, eq_self, wtAll, cndF_at, hok, hst2]
       refine ⟨⟨by ((try clear hh_i6 d1 d2 n6); omega), by ((try clear hh_i6 d1 d2 n6); omega)⟩, hjs, ?_⟩
       have key := can_tri h j (b ++ [(i : Int)]) ((mrg A1 E).set i6 (.box 1 6 (ifF (b ++ [(i : Int)])))) k hjs (by ((try clear hh_i6 d1 d2 n6); omega)) hbd
       simp only [hlx, Int.natCast_add, Int.natCast_one] at key
       cases j with
       | zero =>
         refine vs_draw2 [0, 0, 0, 0, 0, 0, 0, 0, 0, 0, 0, 0, 0] [] [0, 1, 2, 3, 4, 5, 6, 7, 8, 9, 10, 11, 12] (by decide +kernel) ?_
         simp only [vsAll, binA, binLitA, intA, loadA, loadRow, partA, partOk, fieldAddrA, nilCheckA, okAll, stAll, opsA, opA, dstOk, Nat.reduceLT, Nat.reduceEqDiff, ↓reduceIte, eq_self, wtAll, cndA, nil_none]
         refine ⟨by simp only [InR_i64]; ((try clear hh_i6 d1 d2 n6); omega), qcall _ (And.intro trivial (And.intro (by simp only [vsAll, okAll, opsA, opA, Nat.reduceEqDiff, ↓reduceIte, eq_self]) key)) ?_⟩
         simp only [vsAll, unA, opA, dstOk, Nat.reduceLT, ↓reduceIte, eq_self]
         refine condV (fun hc => ?_) (fun hc => ?_)
         ·have hF : cndB h (b ++ [(i : Int)]) 0 = false := by simpa using hc
          have eg : inG h n b i = [] := if_neg (fun q => by have := okP_cnd.1 q 0 (by ((try clear hh_i6 d1 d2 n6); omega)); rw [hF] at this; cases this)
          rw [eg] at a3
          simp only [vsAll, binA, binLitA, intA, opA, dstOk, nilSliceOp, Nat.reduceLT, Nat.reduceEqDiff, Nat.reduceBEq, ↓reduceIte, eq_self]
          refine ⟨by simp only [InR_i64]; ((try clear hh_i6 d1 d2 n6); omega), loop_next (i + 1, A1) ⟨his, a1, a2, a3⟩ (by show _ - _ < _ - _; ((try clear hh_i6 d1 d2 n6); omega)) ?_ ?_⟩
          ·simp only [vsAll, Nat.reduceEqDiff, ↓reduceIte, eq_self, Int.natCast_add, Int.natCast_one]
          ·have e1 : prv (i + 1) = i := by simp [prv]
           rw [e1]; exact HSub_rfl
         ·have hT : cndB h (b ++ [(i : Int)]) 0 = true := by simpa using hc
          simp only [vsAll, binA, binLitA, intA, opA, dstOk, Nat.reduceLT, Nat.reduceEqDiff, ↓reduceIte, eq_self]
          refine ⟨by simp only [InR_i64]; ((try clear hh_i6 d1 d2 n6); omega), loop_next (0 + 1) ⟨by ((try clear hh_i6 d1 d2 n6); omega), fun q hq => ?_⟩ (by ((try clear hh_i6 d1 d2 n6); omega)) ?_ HSub_rfl⟩
          ·by_cases e : q = 0
           ·rw [e]; exact hT
           ·exact hall q (by ((try clear hh_i6 d1 d2 n6); omega))
          ·simp only [vsAll, Nat.reduceEqDiff, ↓reduceIte, eq_self, Int.natCast_add, Int.natCast_one, Int.natCast_zero, Int.zero_add]
       | succ j =>
         refine vs_draw2 [0, 0, 0, 0, 0, 0, 0, 0, 0, 0, 0, 0, 0] [] [0, 1, 2, 3, 4, 5, 6, 7, 8, 9, 10, 11, 12] (by decide +kernel) ?_
         simp only [vsAll, binA, binLitA, intA, loadA, loadRow, partA, partOk, fieldAddrA, nilCheckA, okAll, stAll, opsA, opA, dstOk, Nat.reduceLT, Nat.reduceEqDiff, ↓reduceIte, eq_self, wtAll, cndA, nil_snd]
         refine ⟨by simp only [InR_i64]; ((try clear hh_i6 d1 d2 n6); omega), qcall _ (And.intro trivial (And.intro (by simp only [vsAll, okAll, opsA, opA, Nat.reduceEqDiff, ↓reduceIte, eq_self]) key)) ?_⟩
         simp only [vsAll, unA, opA, dstOk, Nat.reduceLT, ↓reduceIte, eq_self]
         refine condV (fun hc => ?_) (fun hc => ?_)
         ·have hF : cndB h (b ++ [(i : Int)]) (j + 1) = false := by simpa using hc
          have eg : inG h n b i = [] := if_neg (fun q => by have := okP_cnd.1 q (j + 1) (by ((try clear hh_i6 d1 d2 n6); omega)); rw [hF] at this; cases this)
          rw [eg] at a3
          simp only [vsAll, binA, binLitA, intA, opA, dstOk, nilSliceOp, Nat.reduceLT, Nat.reduceEqDiff, Nat.reduceBEq, ↓reduceIte, eq_self]
          refine ⟨by simp only [InR_i64]; ((try clear hh_i6 d1 d2 n6); omega), loop_next (i + 1, A1) ⟨his, a1, a2, a3⟩ (by show _ - _ < _ - _; ((try clear hh_i6 d1 d2 n6); omega)) ?_ ?_⟩
          ·simp only [vsAll, Nat.reduceEqDiff, ↓reduceIte, eq_self, Int.natCast_add, Int.natCast_one]
          ·have e1 : prv (i + 1) = i := by simp [prv]
           rw [e1]; exact HSub_rfl
         ·have hT : cndB h (b ++ [(i : Int)]) (j + 1) = true := by simpa using hc
          simp only [vsAll, binA, binLitA, intA, opA, dstOk, Nat.reduceLT, Nat.reduceEqDiff, ↓reduceIte, eq_self]
          refine ⟨by simp only [InR_i64]; ((try clear hh_i6 d1 d2 n6); omega), loop_next ((j + 1) + 1) ⟨by ((try clear hh_i6 d1 d2 n6); omega), fun q hq => ?_⟩ (by ((try clear hh_i6 d1 d2 n6); omega)) ?_ HSub_rfl⟩
          ·by_cases e : q = (j + 1)
           ·rw [e]; exact hT
           ·exact hall q (by ((try clear hh_i6 d1 d2 n6); omega))
          ·simp only [vsAll, Nat.reduceEqDiff, ↓reduceIte, eq_self, Int.natCast_add, Int.natCast_one]
      ·have ej : j = h.so.length + 1 := by ((try clear hh_i6 d1 d2 n6); omega)
       subst ej
       have hP := okP_cnd.2 hall
       have eg : inG h n b i = infl h n (b ++ [(i : Int)]) := if_pos hP
       rw [eg] at a3
       have hx6 := mrg_setE A1 E i6 (.box 1 6 (ifF (b ++ [(i : Int)])))
       have ioA := hio A1
       skip
       simp only [vsAll, binA, binLitA, intA, loadA, loadRow, partA, partOk, okAll, stAll, opsA, opA, dstOk, Nat.reduceLT, Nat.reduceEqDiff, ↓reduceIte, eq_self, wtAll, d1, ioA]
       have nE : E i6 = none := fE
       have hc2 := ih (b ++ [(i : Int)]) A1 (E.set i6 (.box 1 6 (ifF (b ++ [(i : Int)])))) (ylL (inR h n b (i + 1)) ++ L2) (by ((try clear hh_i6 d1 d2 n6 ioA); omega)) hbd (a1.setE _ a2) (by rw [Hp.set_ne _ _ d1]; exact ho) a3
       rw [hx6] at hc2
       simp only [hlx, Int.natCast_add, Int.natCast_one] at hc2
       refine ⟨by simp only [InR_i64]; ((try clear hh_i6 d1 d2 n6 ioA); omega), callK hc2 ?_⟩
       rintro r H' ⟨rfl, H2, b1, rfl, b3⟩
       have e6 : H2 i6 = none := Classical.byContradiction fun q => by have := b1.E q; rw [Hp.set_same] at this; cases this
       have hx7 := mrg_setE H2 E i6 (.box 1 6 (ifF (b ++ [(i : Int)])))
       rw [hx7]
       simp only [vsAll, binA, binLitA, intA, unA, opA, dstOk, nilSliceOp, Nat.reduceLT, Nat.reduceEqDiff, Nat.reduceBEq, ↓reduceIte, eq_self]
       refine ⟨by simp only [InR_i64]; ((try clear hh_i6 d1 d2 n6 ioA); omega), loop_next (i + 1, H2) ⟨his, fun q hq => ?_, e6, b3⟩ (by show _ - _ < _ - _; ((try clear hh_i6 d1 d2 n6 ioA); omega)) ?_ ?_⟩
       ·by_cases e : q = i6
        ·rw [e]; exact e6
        ·exact b1 q (by rw [Hp.set_ne _ _ e]; exact hq)
       ·simp only [vsAll, Nat.reduceEqDiff, ↓reduceIte, eq_self, Int.natCast_add, Int.natCast_one]
       ·have e1 : prv (i + 1) = i := by simp [prv]
        rw [e1]; exact HSub_rfl
    ·have ei : i = h.M b.length + 1 := by ((try clear hh_i6 d1 d2 n6); omega)
     subst ei
     rw [inR_end] at a3
     simp only [vsAll, opA, dstOk, nilSliceOp, resA, retA.eq_1, Nat.reduceLT, Nat.reduceBEq, ↓reduceIte, eq_self, Try.results126]
     exact ⟨_, HSub_drop2 n6 HSub_rfl, rfl, A1, a1, rfl, a3⟩
end Go.Proofs.Ytclkjifgipcamaa
end
section
set_option linter.unusedVariables false
namespace Go.V
set_option linter.unusedSectionVars false
variable [Inhabited GivT]
/-- A box frozen in what the slots hold. -/
inductive FzB (id st n : Nat) (f : Nat → List AV) : List (Nat × AV) → List (Nat × AV) → Prop
 | nil : FzB id st n f [] []
 | same {t : Nat} {v : AV} {l l' : List (Nat × AV)} : FzB id st n f l l' → FzB id st n f ((t, v) :: l) ((t, v) :: l')
 | hit {t i j : Nat} {l l' : List (Nat × AV)} : FzB id st n f l l' → FzB id st n f ((t, .ref id 0 st i j) :: l) ((t, .rptr n st f i j) :: l')
theorem FzB.frz {id st n : Nat} {f : Nat → List AV} {l l' : List (Nat × AV)} (h : FzB id st n f l l') : ∀ t, Fr.of l' t = Fr.of l t ∨ ∃ i j, Fr.of l t = .ref id 0 st i j ∧ Fr.of l' t = .rptr n st f i j := by
 intro t
 induction h with
 | nil => exact .inl rfl
 | same _ ih =>
   simp only [Fr.of]
   split
   ·exact .inl rfl
   ·exact ih
 | hit _ ih =>
   simp only [Fr.of]
   split
   ·exact .inr ⟨_, _, rfl, rfl⟩
   ·exact ih
theorem FzB.refl {id st n : Nat} {f : Nat → List AV} : ∀ l : List (Nat × AV), FzB id st n f l l
 | [] => .nil
 | (t, v) :: l => .same (FzB.refl l)
theorem vs_entF {r : Option Nat} {P : Program} {m : Option Tmp → Bool} {n : Nat} {k : List It} {s : Fr} {ds : List AD} {H : Hp} {Q : Post} {g : Operand} {ps : Array Tmp} {a b : Code}
  (h : Ent s ds H fun s ds H => VS r P m n (.code (.rangeFunc g ps a b) :: k) s ds H Q) : VS r P m n (.code (.rangeFunc g ps a b) :: k) s ds H Q :=
 (wps_ent h : WPS r P n (.rangeFunc g ps a b) s ds H (TK r P m n k Q))
end Go.V
end
section
set_option linter.unusedVariables false
set_option linter.unusedSimpArgs false
set_option maxHeartbeats 4000000
set_option maxRecDepth 100000
namespace Go.Proofs.Ytclkjifgipcamaa
open Go.V
theorem azT226 : azT Try.prog 226 = some (1, 1, [.nilFunc]) := by kernel_rfl
theorem agg6 {f : Nat → List AV} {a b c d e g : AV} (h0 : f 0 = [a]) (h1 : f 1 = [b]) (h2 : f 2 = [c]) (h3 : f 3 = [d]) (h4 : f 4 = [e]) (h5 : f 5 = [g]) : AV.Le (.agg [a, b, c, d, e, g]) (.arr 6 1 f) := by
 intro S v hv
 cases hv with
 | agg hn hh =>
   refine .arr hn (fun i hi => ?_) fun i j hi hj => ?_
   ·match i, hi with
    | 0, _ => rw [h0]; rfl
    | 1, _ => rw [h1]; rfl
    | 2, _ => rw [h2]; rfl
    | 3, _ => rw [h3]; rfl
    | 4, _ => rw [h4]; rfl
    | 5, _ => rw [h5]; rfl
   ·have ej : j = 0 := by omega
    subst ej
    have := hh i hi
    match i, hi with
    | 0, _ => rw [h0]; exact this
    | 1, _ => rw [h1]; exact this
    | 2, _ => rw [h2]; exact this
    | 3, _ => rw [h3]; exact this
    | 4, _ => rw [h4]; exact this
    | 5, _ => rw [h5]; exact this
abbrev infA (h : Hl) (im : Nat) : AV := .func (.func 125) [] [hbA h im, .rptr 1 1 (fun _ => [cndAV h]) 0 0]
theorem inf1_tri {h : Hl} (k : OkH h) {im : Nat} {yf : Fn} {H : Hp} {K : Hp → Prop} (hit : IterE Try.prog (.func yf [] []) (ylL (allT h)) H K) :
  Tri Try.prog (infA h im) [.func yf [] []] H fun r H' => (∃ v, r = .ret v) ∧ K H' := by
 refine Tri.drop ?_
 refine tri_v0 (mset []) Try.func125 (by kernel_rfl) rfl (by simp only [List.length_append, List.length_cons, List.length_nil, Try.ntmps125]; decide) ?_
 simp only [vsAll, loadA, loadRow, partA, partOk, boxA, boxZ, cellA, cellsA, okParts, okAll, stAll, opsA, partsA, partsOk, opA, allocA, newCells, okCells, storeObj, dstOk, argFr, Nat.reduceLT, Nat.reduceEqDiff, ↓reduceIte, eq_self, wtAll, Try.ntmps125, azT226]
 intro i4 hh_i4; (try simp only [Hp.set_none, ite_none] at hh_i4)
 rw [Hp.set_set]
 have hc := lon_tri k (im := im) (io := i4) (K := K) h.sm.length [] H (Hp.set (fun _ => none) i4 (.box 1 1 fun _ => [onL h im i4 yf])) [] (by simp) (fun i => by simp) ((apart_emp H).setE _ hh_i4) (Hp.set_same _ _ _) (by rw [List.append_nil]; exact hit)
 rw [mrg_setE, mrg_emp] at hc
 refine callK (hc.args rfl fun q hq => ?_) ?_
 ·match q, hq with
  | 0, _ => exact agg6 rfl rfl rfl rfl rfl rfl
  | 1, _ => exact .refl _
 rintro r H' ⟨rfl, H1, a1, rfl, a3⟩
 simp only [vsAll, resA, retA.eq_2, eq_self, Try.results125]
 exact ⟨_, mrg_sub _ _ a1, ⟨_, rfl⟩, a3⟩
theorem linf_tri {h : Hl} (k : OkH h) (im : Nat) (H : Hp) (ho : H im = some (.memo (wetM h))) : PTri Try.prog (fnA 109) [hP h im, u64 (2 ^ h.so.length - 1 : Nat)] H (infA h im) := by
 refine Tri.drop ?_
 refine tri_wm Try.func109 (by kernel_rfl) rfl (by simp only [List.length_append, List.length_cons, List.length_nil, Try.ntmps109]; decide) ?_
 refine wps_cutG2 (m := mset []) (σ := Unit) (fun _ => True) (fun _ => [(2, hbA h im), (5, .rptr 1 1 (fun _ => [cndAV h]) 0 0)]) (fun _ => H) (fun _ => []) ?_ fun _ _ => ?_
 ·simp only [vsAll, loadA, loadRow, partA, partOk, boxA, boxZ, cellA, okAll, stAll, opsA, opA, dstOk, nilSliceOp, argFr, Nat.reduceLT, Nat.reduceEqDiff, ↓reduceIte, eq_self, wtAll, Try.ntmps109]
  refine callK_pure (lcond_tri h im _ k ho) ?_
  simp only [vsAll, cellA, cellsA, opA, allocA, newCells, okCells, storeObj, dstOk, Nat.reduceLT, Nat.reduceEqDiff, ↓reduceIte, eq_self, wtAll]
  intro i5 hh_i5; (try simp only [Hp.set_none, ite_none] at hh_i5)
  refine cutG_ent (Ent.of [(2, hbA h im), (5, .ref i5 0 1 0 0)] (by simp only [vsAll, Nat.reduceEqDiff, ↓reduceIte, eq_self]) (H' := H.set i5 (.box 1 1 fun _ => [cndAV h])) (by (repeat (first | exact HSub_rfl | refine HSub_put_eq (by simp only [vsAll, ↓reduceIte, eq_self]) ?_ | refine HSub_drop2 (by simp only [eq_self, hh_i5]) ?_ | refine HSub_keep_eq (by simp only [vsAll, ↓reduceIte, eq_self, reduceCtorEq, Nat.reduceEqDiff, hh_i5]) ?_))) ?_)
  refine cutG_ent (Ent.freezeB (id := i5) (st := 1) (n := 1) (f := fun _ => [cndAV h]) (s' := Fr.of [(2, hbA h im), (5, .rptr 1 1 (fun _ => [cndAV h]) 0 0)]) (Hp.set_same _ _ _) (FzB.frz (.same (.hit (FzB.refl _)))) ?_)
  rw [Hp.del_set, Hp.del_none _ _ hh_i5]
  exact cutG_of () trivial (by simp only [vsAll, Nat.reduceEqDiff, ↓reduceIte, eq_self]) rfl HSub_rfl
 ·refine wps_vs (m := mset []) ?_
  simp only [vsAll, okAll, stAll, opsA, opA, dstOk, nilSliceOp, resA, retA.eq_1, Nat.reduceLT, Nat.reduceEqDiff, ↓reduceIte, eq_self, Try.ntmps109, Try.results109]
  exact dropR_pure rfl HSub_rfl
theorem infl_len {h : Hl} (k : OkH h) : ∀ (n : Nat) (b : List Int), b.length + n = h.sm.length → (infl h n b).length ≤ 5 ^ n := by
 intro n
 induction n with
 | zero => intro b _; exact Nat.le_refl _
 | succ n ih =>
   intro b hb
   have hM := k.M (i := b.length) (by omega)
   have key : ∀ L : List Nat, (L.flatMap fun x : Nat => if okP h (b ++ [(x : Int)]) = true then infl h n (b ++ [(x : Int)]) else []).length ≤ L.length * 5 ^ n := by
    intro L
    induction L with
    | nil => simp
    | cons x L ihL =>
      rw [List.flatMap_cons, List.length_append, List.length_cons, Nat.add_mul, Nat.one_mul, Nat.add_comm]
      refine Nat.add_le_add ihL ?_
      split
      ·exact ih _ (by simp; omega)
      ·exact Nat.zero_le _
   refine Nat.le_trans (key _) ?_
   rw [List.length_range, Nat.pow_succ, Nat.mul_comm]
   exact Nat.mul_le_mul_left _ (by omega)
theorem allT_len {h : Hl} (k : OkH h) : (allT h).length ≤ 15625 := by
 have := infl_len k h.N [] (by simp [Hl.N])
 have p : 5 ^ h.N ≤ 5 ^ 6 := Nat.pow_le_pow_right (by decide) k.nS
 unfold allT
 omega
def inC (l : List Int) : List AV := [i64 (l.getD 0 0), i64 (l.getD 1 0), i64 (l.getD 2 0), i64 (l.getD 3 0), i64 (l.getD 4 0), i64 (l.getD 5 0)]
theorem inC_arrL (l : List Int) : arrL (ifF l) 6 = inC l := rfl
def trF (h : Hl) : Nat → List AV := fun i => inC ((allT h).getD i [])
abbrev trA (h : Hl) : AV := .rsl (allT h).length 6 (trF h)
theorem lapp_tri {h : Hl} (k : OkH h) (im : Nat) (H : Hp) : PTri Try.prog (fnA 123) [.lit (.slice none 0 0), infA h im] H (trA h) := by
 refine Tri.thawX (R1 := fun r H' => ∃ id, H id = none ∧ r = .ret (.sl id 6 (allT h).length) ∧ H' = H.set id (.row 6 (allT h).length (trF h))) ?_ ?_
 ·refine Tri.drop ?_
  refine tri_m (m := mset [2]) Try.func123 (by kernel_rfl) rfl (by simp only [List.length_append, List.length_cons, List.length_nil, Try.ntmps123]; decide) ?_
  simp only [vsAll, cellA, opA, boxMutA, dstOk, nilSliceOp, argFr, Nat.reduceLT, Nat.reduceEqDiff, Nat.reduceBEq, ↓reduceIte, eq_self, Try.ntmps123]
  intro i2 hh_i2; (try simp only [Hp.set_none, ite_none] at hh_i2)
  refine vs_entF (Ent.nilBox 6 (trF h) (fun id _ => [.sl id 6 0]) (Hp.set_same _ _ _) (fun _ _ _ => rfl) (fun id q d hq hd => ?_) fun ir hir => ?_)
  ·match d, hd with
   | 0, _ => exact .hit
  have r1 : ¬ ir = i2 := fun e => by rw [e, Hp.set_same] at hir; cases hir
  rw [Hp.set_ne _ _ r1] at hir
  have r1' : ¬ i2 = ir := fun e => r1 e.symm
  skip
  refine vs_rangeE (σ := Unit) (caps := [hbA h im, .rptr 1 1 (fun _ => [cndAV h]) 0 0]) (ylL (allT h)) (fun i _ => i ≤ (allT h).length) (fun i _ => ((H.set ir (.row 6 i (trF h))).set i2 (.box 1 1 fun _ => [.sl ir 6 i]))) () Try.func125 (by kernel_rfl) rfl (by simp only [vsAll, opA, ↓reduceIte, eq_self]) (by simp only [vsAll, opA, ↓reduceIte, eq_self]) (by decide) (fun v hv => by obtain ⟨q, _, rfl⟩ := List.mem_map.1 hv; rfl)
   (fun yf H K hi => inf1_tri k hi) (Nat.zero_le _) ?_ ?_ ?_ ?_
  ·rw [Hp.set_comm H _ _ r1', Hp.set_set, Hp.set_comm H _ _ r1]
   exact HSub_rfl
  ·intro i _ _ q
   simp only [Hp.set]
   by_cases e1 : q = i2
   ·rw [if_pos e1, if_pos e1]; simp
   ·by_cases e2 : q = ir
    ·rw [if_neg e1, if_neg e1, if_pos e2, if_pos e2]; simp
    ·rw [if_neg e1, if_neg e1, if_neg e2, if_neg e2]
  ·rintro E i v ⟨⟩ hv hi ap lid did l' lo h1 h2 h3 e1 e2
   have q1 : E i2 = none := ap.E (by rw [Hp.set_same]; exact Option.some_ne_none _)
   have q2 : E ir = none := ap.E (by rw [Hp.set_ne _ _ r1, Hp.set_same]; exact Option.some_ne_none _)
   have b1 : mrg H E ir = none := by rw [mrg_none q2]; exact hir
   have b2 : mrg H E i2 = none := by rw [mrg_none q1]; exact hh_i2
   simp only [Hp.set_none] at h1 h2
   obtain ⟨⟨f1, f1'⟩, ⟨f2, f2'⟩, f3⟩ := h1
   obtain ⟨⟨g1, g1'⟩, ⟨g2, g2'⟩, g3⟩ := h2
   have f3' : mrg H E lid = none := by rw [mrg_none e1]; exact f3
   have g3' : mrg H E did = none := by rw [mrg_none e2]; exact g3
   have eM : ∀ i, mrg ((H.set ir (.row 6 i (trF h))).set i2 (.box 1 1 fun _ => [.sl ir 6 i])) E = ((mrg H E).set ir (.row 6 i (trF h))).set i2 (.box 1 1 fun _ => [.sl ir 6 i]) := fun i => by rw [mrg_setA q1, mrg_setA q2]
   simp only [eM]
   have h4 : ¬ did = lid := fun e => h3 e.symm
   generalize mrg H E = M at *
   obtain ⟨q, hq, rfl⟩ : ∃ q, (allT h)[i]? = some q ∧ v = [ifAV q] := by
    unfold ylL at hv
    rw [List.getElem?_map] at hv
    cases hz : (allT h)[i]? with
    | none => rw [hz] at hv; cases hv
    | some q => rw [hz] at hv; exact ⟨q, rfl, (Option.some.inj hv).symm⟩
   have hle := allT_len k
   have hil := (List.getElem?_eq_some_iff.1 hq).1
   have hgi : (allT h).getD i [] = q := by rw [List.getD_eq_getElem?_getD, hq]; rfl
   skip
   simp only [vsAll, loadA, loadRow, partA, partOk, cellA, cellsA, okParts, buildSliceA, partIdx, elemsA, lensA, partsA, partsOk, opA, allocA, newCells, okCells, storeObj, appendA, dstOk, quietOk, Nat.reduceMul, Nat.reduceLT, Nat.reduceLeDiff, Nat.reduceEqDiff, Nat.reduceBEq, ↓reduceIte, eq_self, wtAll, f1, f1', g1', AsgE_normal, RndE_normal]
   intro i5 hh_i5; (try simp only [ite_none] at hh_i5)
   simp only [vsAll, Nat.reduceLT, ↓reduceIte, eq_self, r1, r1', f2, f2', g2', hh_i5, inC_arrL]
   refine ⟨fun _ _ => ⟨rfl, trivial⟩, rfl, fun j hj => ?_, by ((try clear hh_i2 r1 r1' hir h3 h4 f1 f2 f1' f2' g1 g2 g1' g2' b1 b2 f3' g3' hh_i5); omega), by ((try clear hh_i2 r1 r1' hir h3 h4 f1 f2 f1' f2' g1 g2 g1' g2' b1 b2 f3' g3' hh_i5); omega), ⟨_, _, rfl⟩, _, ⟨(), by ((try clear hh_i2 r1 r1' hir h3 h4 f1 f2 f1' f2' g1 g2 g1' g2' b1 b2 f3' g3' hh_i5); omega), rfl⟩, ?_⟩
   ·have : j = 0 := by ((try clear hh_i2 r1 r1' hir h3 h4 f1 f2 f1' f2' g1 g2 g1' g2' b1 b2 f3' g3' hh_i5); omega)
    subst this
    exact ⟨rfl, rfl, rfl, rfl, rfl, rfl, trivial⟩
   ·have eap : ∀ q', q' < i + 1 → appF i 1 (trF h) (fun i => [inC q].getD i []) q' = trF h q' := fun q' hq' => by
     rw [appF_at (by ((try clear hh_i2 r1 r1' hir h3 h4 f1 f2 f1' f2' g1 g2 g1' g2' b1 b2 f3' g3' hh_i5); omega))]
     by_cases e : q' < i
     ·rw [if_pos e]
     ·have : q' = i := by ((try clear hh_i2 r1 r1' hir h3 h4 f1 f2 f1' f2' g1 g2 g1' g2' b1 b2 f3' g3' hh_i5); omega)
      subst this
      rw [if_neg (by ((try clear hh_i2 r1 r1' hir h3 h4 f1 f2 f1' f2' g1 g2 g1' g2' b1 b2 f3' g3' hh_i5); omega)), Nat.sub_self]
      show inC q = inC _
      rw [hgi]
    refine Go.V.HSub.trans (Go.V.HSub.set (Go.V.HSub.set (.refl _) (row_ext fun q' hq' => eap q' hq')) (.refl _)) ?_
    (repeat (first | exact HSub_rfl | refine HSub_put_eq (by simp only [vsAll, ↓reduceIte, eq_self, r1, h4, f1, f2, g1, g2, hh_i5]) ?_ | refine HSub_drop2 (by simp only [eq_self, b1, b2, f3', g3', hh_i5]) ?_ | refine HSub_keep_eq (by simp only [vsAll, ↓reduceIte, eq_self, reduceCtorEq, Nat.reduceEqDiff, hh_i2, r1, r1', hir, h3, h4, f1, f2, f1', f2', g1, g2, g1', g2', b1, b2, f3', g3', hh_i5]) ?_))
  ·rintro ⟨⟩ hi lid did lo h1 h2 h3
   simp only [Hp.set_none] at h1 h2
   obtain ⟨⟨f1, f1'⟩, ⟨f2, f2'⟩, f3⟩ := h1
   obtain ⟨⟨g1, g1'⟩, ⟨g2, g2'⟩, g3⟩ := h2
   have eL : (ylL (allT h)).length = (allT h).length := by simp [ylL]
   simp only [eL]
   have h4 : ¬ did = lid := fun e => h3 e.symm
   skip
   simp only [vsAll, loadA, loadRow, partA, partOk, opA, dstOk, nilSliceOp, resA, retA.eq_1, Nat.reduceLT, Nat.reduceEqDiff, Nat.reduceBEq, ↓reduceIte, eq_self, wtAll, Try.results123, h4, f1', g1']
   exact ⟨_, by (repeat (first | exact HSub_rfl | refine HSub_put_eq (by simp only [vsAll, ↓reduceIte, eq_self, r1, f2', g2']) ?_ | refine HSub_drop2 (by simp only [eq_self, hh_i2, hir, f3, g3]) ?_ | refine HSub_keep_eq (by simp only [vsAll, ↓reduceIte, eq_self, reduceCtorEq, Nat.reduceEqDiff, hh_i2, r1, r1', hir, h3, h4, f1, f2, f1', f2', g1, g2, g1', g2', f3, g3]) ?_)), ir, hir, rfl, rfl⟩
 ·rintro r H' ⟨id, hid, rfl, rfl⟩
  exact .inr ⟨_, trA h, id, 6, _, trF h, rfl, .inr ⟨Hp.set_same _ _ _, .leaf ⟨rfl, trF h, fun _ _ => rfl, rfl⟩⟩, rfl, set_del hid⟩
theorem lcol_tri {h : Hl} (k : OkH h) (im : Nat) (H : Hp) : PTri Try.prog (fnA 108) [infA h im] H (trA h) := by
 refine tri_v0 (mset []) Try.func108 (by kernel_rfl) rfl (by simp only [List.length_append, List.length_cons, List.length_nil, Try.ntmps108]; decide) ?_
 simp only [vsAll, okAll, stAll, opsA, opA, dstOk, nilSliceOp, argFr, Nat.reduceLT, ↓reduceIte, reduceCtorEq, eq_self, Try.ntmps108]
 refine callK_pure (lapp_tri k im _) ?_
 simp only [vsAll, opA, dstOk, nilSliceOp, resA, retA.eq_1, Nat.reduceLT, ↓reduceIte, eq_self, Try.results108]
end Go.Proofs.Ytclkjifgipcamaa
end
section
set_option linter.unusedVariables false
set_option linter.unusedSimpArgs false
set_option maxHeartbeats 4000000
set_option maxRecDepth 100000
namespace Go.Proofs.Ytclkjifgipcamaa
open Go.V
theorem ltru_tri {h : Hl} (k : OkH h) (im : Nat) (H : Hp) (ho : H im = some (.memo (wetM h))) (hT : 0 < (allT h).length) : PTri Try.prog (fnA 67) [hP h im] H (trA h) := by
 refine tri_v0 (mset []) Try.func67 (by kernel_rfl) rfl (by simp only [List.length_append, List.length_cons, List.length_nil, Try.ntmps67]; decide) ?_
 simp only [vsAll, okAll, stAll, opsA, opA, dstOk, nilSliceOp, argFr, Nat.reduceLT, ↓reduceIte, reduceCtorEq, eq_self, Try.ntmps67]
 refine callK_pure (levery_tri h im _ k) ?_
 simp only [vsAll, okAll, stAll, opsA, opA, dstOk, Nat.reduceLT, Nat.reduceEqDiff, ↓reduceIte, eq_self]
 refine callK_pure (linf_tri k im _ ho) ?_
 simp only [vsAll, okAll, stAll, opsA, opA, dstOk, Nat.reduceLT, ↓reduceIte, eq_self]
 refine callK_pure (lcol_tri k im _) ?_
 simp only [vsAll, binA, binLitA, intA, lenA, okAll, stAll, opsA, opA, dstOk, nilSliceOp, Nat.reduceLT, ↓reduceIte, eq_self, wtAll]
 refine lwant_call (fun _ => ?_) (fun hb => ?_)
 ·simp only [vsAll, opA, dstOk, nilSliceOp, resA, retA.eq_1, Nat.reduceLT, Nat.reduceEqDiff, ↓reduceIte, eq_self, Try.results67]
  done
 ·exact absurd hb (by rw [decide_eq_true (by omega)]; decide)
abbrev qAV (l : List Int) : AV := .arr 6 1 fun r => List.take 1 (List.drop (r * 1) (inC l))
theorem qAV_le (l : List Int) : AV.Le (qAV l) (ifAV l) := .arr fun i hi => by
 match i, hi with
 | 0, _ => rfl
 | 1, _ => rfl
 | 2, _ => rfl
 | 3, _ => rfl
 | 4, _ => rfl
 | 5, _ => rfl
theorem getD_mem {L : List (List Int)} {i : Nat} (h : i < L.length) : L.getD i [] ∈ L := by rw [List.getD_eq_getElem?_getD, List.getElem?_eq_getElem h]; exact List.getElem_mem h
theorem ptri_q {fv : AV} {l : List Int} {H : Hp} {v : AV} (h : PTri Try.prog fv [ifAV l] H v) : PTri Try.prog fv [qAV l] H v := Tri.args h rfl fun q hq => by
 match q, hq with
 | 0, _ => exact qAV_le l
theorem lsums_tri {L : List (List Int)} {F : List Int → Int} {fv : AV} {H : Hp} (hL : 0 < L.length) (hn : L.length ≤ 15625) (hok : fv.ok) (hst : fv.st = fv) (hf : ∀ l ∈ L, ∀ H', PTri Try.prog fv [ifAV l] H' (i64 (F l))) :
  PTri Try.prog (fnA 81) [.rsl L.length 6 (fun i => inC (L.getD i [])), fv] H (.agg [i64 (spnV F L).1, i64 (spnV F L).2]) := by
 refine Tri.drop ?_
 refine tri_v0 (mset [4, 5, 7]) Try.func81 (by kernel_rfl) rfl (by simp only [List.length_append, List.length_cons, List.length_nil, Try.ntmps81]; decide) ?_
 simp only [vsAll, allocA, dstOk, Nat.reduceAdd, Nat.reduceLT, eq_self, wtAll, Try.ntmps81]
 intro i4 hh_i4; (try simp only [Hp.set_none, ite_none] at hh_i4)
 have h0 := hf _ (getD_mem hL)
 refine vs_draw2 [0, 0, 0, 0, 0, 0, 0, 0, 0, 0, 0, 1, 3] [([0, 1, 2, 3, 4, 5, 6, 7, 8, 9, 10], [3, 4, 8, 9], 11), ([], [], 12)] [] (by decide +kernel) ?_
 simp only [vsAll, loadA, loadRow, indexAddrA, opA, dstOk, argFr, Nat.reduceMul, Nat.reduceLT, Nat.reduceEqDiff, Int.reduceLE, Int.reduceToNat, ↓reduceIte, reduceCtorEq, eq_self, wtAll, hok, hst]
 refine ⟨by ((try clear hh_i4); omega), hL, qcall _ ⟨hok, by simp only [vsAll, okAll, opsA, opA, ↓reduceIte, eq_self], by simp only [vsAll, stAll, opsA, opA, Nat.reduceEqDiff, ↓reduceIte, eq_self, hst]; exact ptri_q (h0 _)⟩ ?_⟩
 simp only [vsAll, loadA, loadRow, indexAddrA, opA, dstOk, argFr, Nat.reduceMul, Nat.reduceLT, Nat.reduceEqDiff, Int.reduceLE, Int.reduceToNat, ↓reduceIte, reduceCtorEq, eq_self, wtAll, hok, hst]
 refine ⟨by ((try clear hh_i4); omega), hL, qcall _ ⟨hok, by simp only [vsAll, okAll, opsA, opA, ↓reduceIte, eq_self], by simp only [vsAll, stAll, opsA, opA, Nat.reduceEqDiff, ↓reduceIte, eq_self, hst]; exact ptri_q (h0 _)⟩ ?_⟩
 simp only [vsAll, loadA, loadRow, lenA, cellA, cellsA, fillA, okParts, partsA, partsOk, opA, allocA, newCells, okCells, storeObj, dstOk, argFr, Nat.reduceAdd, Nat.reduceMul, Nat.reduceLT, Nat.reduceLeDiff, Nat.reduceEqDiff, ↓reduceIte, reduceCtorEq, eq_self, wtAll]
 intro i5 hh_i5; (try simp only [ite_none] at hh_i5)
 refine ⟨⟨hL, rcall _ ⟨hok, by simp only [vsAll, okAll, opsA, opA, Nat.reduceEqDiff, ↓reduceIte, eq_self], by simp only [vsAll, stAll, opsA, opA, Nat.reduceEqDiff, ↓reduceIte, eq_self, hst]; exact ptri_q (h0 _)⟩ (by simp only [vsAll, Nat.reduceEqDiff, ↓reduceIte, eq_self]), hL, rcall _ ⟨hok, by simp only [vsAll, okAll, opsA, opA, Nat.reduceEqDiff, ↓reduceIte, eq_self], by simp only [vsAll, stAll, opsA, opA, Nat.reduceEqDiff, ↓reduceIte, eq_self, hst]; exact ptri_q (h0 _)⟩ (by simp only [vsAll, Nat.reduceEqDiff, ↓reduceIte, eq_self])⟩, ?_⟩
 refine vs_loop (σ := Nat) (fun i => i ≤ L.length) (fun i => [(0, .rsl L.length 6 (fun i => inC (L.getD i []))), (1, fv), (4, .ref i4 0 2 0 0), (5, .ref i5 0 2 0 0), (19, .rsl L.length 6 (fun i => inC (L.getD i []))), (20, i64 L.length), (21, i64 i)])
  (fun i => (H.set i4 (.box 2 1 fun _ => [i64 0, i64 0])).set i5 (.box 2 1 fun _ => [i64 (spnL F L i).1, i64 (spnL F L i).2])) (fun i => L.length - i) 0 (Nat.zero_le _) ?_ ?_ fun i hi => ?_
 ·simp only [vsAll, argFr, Nat.reduceEqDiff, ↓reduceIte, reduceCtorEq, eq_self, Int.natCast_zero]
 ·rw [Hp.set_set]; exact HSub_rfl
 ·simp only [vsAll, binA, binLitA, intA, opA, dstOk, Nat.reduceLT, Nat.reduceEqDiff, ↓reduceIte, reduceCtorEq, eq_self]
  refine condD (fun hd => ?_) (fun hd => ?_)
  ·have hil : i < L.length := by ((try clear hh_i4 hh_i5); omega)
   have hi0 := hf _ (getD_mem hil)
   simp only [vsAll, loadA, loadRow, indexAddrA, opA, allocA, storeObj, dstOk, Nat.reduceMul, Nat.reduceLT, Nat.reduceEqDiff, ↓reduceIte, reduceCtorEq, eq_self, wtAll]
   refine ⟨⟨by ((try clear hh_i4 hh_i5); omega), by ((try clear hh_i4 hh_i5); omega)⟩, hil, ?_⟩
   intro i7 hh_i7; (try simp only [ite_none] at hh_i7)
   refine ⟨fun q hq => ?_, ?_⟩
   ·match q, hq with
    | 0, _ => exact ⟨rfl, trivial⟩
    | 1, _ => exact ⟨rfl, trivial⟩
    | 2, _ => exact ⟨rfl, trivial⟩
    | 3, _ => exact ⟨rfl, trivial⟩
    | 4, _ => exact ⟨rfl, trivial⟩
    | 5, _ => exact ⟨rfl, trivial⟩
   refine vs_draw2 [0, 0, 0, 0, 0, 0, 0, 0, 0, 0, 0, 0, 0, 1] [([0, 1, 2, 3, 4, 5, 6, 7, 8, 9, 10, 11, 12], [], 13)] [] (by decide +kernel) ?_
   simp only [vsAll, loadA, loadRow, partA, partOk, fieldAddrA, opA, dstOk, Nat.reduceLT, Nat.reduceEqDiff, ↓reduceIte, reduceCtorEq, eq_self, wtAll, hh_i7, hok, hst]
   refine qcall _ ⟨hok, by simp only [vsAll, okAll, opsA, opA, ↓reduceIte, eq_self], by simp only [vsAll, stAll, opsA, opA, Nat.reduceEqDiff, ↓reduceIte, eq_self, hst]; exact ptri_q (hi0 _)⟩ ?_
   simp only [vsAll, loadA, loadRow, partA, partOk, fieldAddrA, mmA, okAll, stAll, opsA, opA, dstOk, Nat.reduceLT, Nat.reduceEqDiff, ↓reduceIte, reduceCtorEq, eq_self, wtAll, hh_i7, hok, hst]
   refine qcall _ ⟨hok, by simp only [vsAll, okAll, opsA, opA, ↓reduceIte, eq_self], by simp only [vsAll, stAll, opsA, opA, Nat.reduceEqDiff, ↓reduceIte, eq_self, hst]; exact ptri_q (hi0 _)⟩ ?_
   simp only [vsAll, binA, binLitA, intA, cellA, cellsA, fillA, okParts, mmA, okAll, stAll, opsA, partsA, partsOk, opA, newCells, okCells, storeObj, dstOk, Nat.reduceAdd, Nat.reduceLT, Nat.reduceLeDiff, Nat.reduceEqDiff, ↓reduceIte, reduceCtorEq, eq_self, wtAll, hh_i7]
   refine ⟨by simp only [InR_i64]; ((try clear hh_i4 hh_i5 hh_i7); omega), loop_next (i + 1) hil (by ((try clear hh_i4 hh_i5 hh_i7); omega)) ?_ ?_⟩
   ·simp only [vsAll, Nat.reduceEqDiff, ↓reduceIte, reduceCtorEq, eq_self, Int.natCast_add, Int.natCast_one]
   ·have es : spnL F L (i + 1) = (min (spnL F L i).1 (F (L.getD i [])), max (spnL F L i).2 (F (L.getD i []))) := rfl
    rw [es]
    (repeat (first | exact HSub_rfl | refine HSub_put_eq (by simp only [vsAll, ↓reduceIte, eq_self, hh_i5, hh_i7]) ?_ | refine HSub_drop2 (by simp only [eq_self, hh_i4, hh_i5, hh_i7]) ?_ | refine HSub_keep_eq (by simp only [vsAll, ↓reduceIte, eq_self, reduceCtorEq, Nat.reduceEqDiff, hh_i4, hh_i5, hh_i7]) ?_))
  ·have ei : i = L.length := by ((try clear hh_i4 hh_i5); omega)
   subst ei
   simp only [vsAll, loadA, loadRow, partA, partOk, cellA, opA, newCells, okCells, storeObj, dstOk, resA, retA.eq_1, Nat.reduceAdd, Nat.reduceLT, Nat.reduceEqDiff, ↓reduceIte, reduceCtorEq, eq_self, wtAll, Try.results81, hh_i5]
   exact dropR_pure rfl (by (repeat (first | exact HSub_rfl | refine HSub_put_eq (by simp only [vsAll, ↓reduceIte, eq_self, reduceCtorEq, Nat.reduceEqDiff, hh_i4, hh_i5]) ?_ | refine HSub_drop2 (by simp only [eq_self, hh_i4, hh_i5]) ?_ | refine HSub_keep_eq (by simp only [vsAll, ↓reduceIte, eq_self, reduceCtorEq, Nat.reduceEqDiff, hh_i4, hh_i5]) ?_)))
theorem azT168 : azT Try.prog 168 = some (1, 1, [.nilFunc]) := by kernel_rfl
abbrev totA (S : Nat) : AV := .func (.func 82) [] [.rptr 1 1 (fun _ => [.func (.func 80) [] []]) 0 0, .rptr 1 1 (fun _ => [u64 (S : Nat)]) 0 0]
theorem tot1_tri (S : Nat) (l : List Int) (H : Hp) (hl : l.length ≤ 6) (hb : ∀ i, 0 ≤ l.getD i 0 ∧ l.getD i 0 ≤ 4) (hS : S < 2 ^ 60) : PTri Try.prog (totA S) [ifAV l] H (i64 (lsN S l 6)) := by
 refine tri_v0 (fun _ => false) Try.func82 (by kernel_rfl) rfl (by simp only [List.length_append, List.length_cons, List.length_nil, Try.ntmps82]; decide) ?_
 simp only [vsAll, loadA, loadRow, partA, partOk, boxA, boxZ, okAll, stAll, opsA, opA, dstOk, nilSliceOp, argFr, Nat.reduceLT, Nat.reduceEqDiff, ↓reduceIte, eq_self, wtAll, Try.ntmps82]
 refine callK_pure (lsum_tri S l _ hb hS) ?_
 simp only [vsAll, opA, dstOk, nilSliceOp, resA, retA.eq_1, Nat.reduceLT, ↓reduceIte, eq_self, Try.results82]
theorem ltotal_tri {h : Hl} (k : OkH h) (S : Nat) (im : Nat) (H : Hp) (ho : H im = some (.memo (wetM h))) (hT : 0 < (allT h).length) (hN : 0 < h.N) (hS : S < 2 ^ 60) :
  PTri Try.prog (fnA 36) [hP h im, u64 (S : Nat)] H (.agg [i64 (spnV (fun l => lsN S l 6) (allT h)).1, i64 (spnV (fun l => lsN S l 6) (allT h)).2]) := by
 refine Tri.drop ?_
 refine tri_wm Try.func36 (by kernel_rfl) rfl (by simp only [List.length_append, List.length_cons, List.length_nil, Try.ntmps36]; decide) ?_
 refine wps_cutG2 (m := mset [4]) (σ := Nat) (fun i4 => H i4 = none) (fun i4 => [(0, hP h im), (3, .rptr 1 1 (fun _ => [u64 (S : Nat)]) 0 0), (4, .ref i4 0 2 0 0), (5, .rptr 1 1 (fun _ => [.func (.func 80) [] []]) 0 0)])
  (fun i4 => H.set i4 (.box 2 1 fun _ => [i64 0, i64 0])) (fun _ => []) ?_ fun i4 h4 => ?_
 ·simp only [vsAll, boxA, boxZ, cellA, cellsA, opA, allocA, newCells, okCells, storeObj, dstOk, argFr, Nat.reduceAdd, Nat.reduceLT, Nat.reduceBEq, ↓reduceIte, eq_self, wtAll, Try.ntmps36, azT168]
  intro i4 hh_i4; (try simp only [Hp.set_none, ite_none] at hh_i4); intro i5 hh_i5; (try simp only [ite_none] at hh_i5)
  have q1 : ¬ i5 = i4 := hh_i5.1.1
  have q2 : H i5 = none := hh_i5.2
  refine cutG_ent (Ent.of [(0, hP h im), (3, .rptr 1 1 (fun _ => [u64 (S : Nat)]) 0 0), (4, .ref i4 0 2 0 0), (5, .ref i5 0 1 0 0)] (by simp only [vsAll, argFr, Nat.reduceEqDiff, ↓reduceIte, reduceCtorEq, eq_self]) (H' := (H.set i4 (.box 2 1 fun _ => [i64 0, i64 0])).set i5 (.box 1 1 fun _ => [.func (.func 80) [] []])) (by (repeat (first | exact HSub_rfl | refine HSub_put_eq (by simp only [vsAll, ↓reduceIte, eq_self, hh_i5]) ?_ | refine HSub_drop2 (by simp only [eq_self, hh_i4, hh_i5]) ?_ | refine HSub_keep_eq (by simp only [vsAll, ↓reduceIte, eq_self, reduceCtorEq, Nat.reduceEqDiff, hh_i4, hh_i5]) ?_))) ?_)
  refine cutG_ent (Ent.freezeB (id := i5) (st := 1) (n := 1) (f := fun _ => [.func (.func 80) [] []]) (s' := Fr.of [(0, hP h im), (3, .rptr 1 1 (fun _ => [u64 (S : Nat)]) 0 0), (4, .ref i4 0 2 0 0), (5, .rptr 1 1 (fun _ => [.func (.func 80) [] []]) 0 0)]) (Hp.set_same _ _ _) (FzB.frz (.same (.same (.same (.hit (FzB.refl _)))))) ?_)
  rw [Hp.del_set, Hp.del_none _ _ (by rw [Hp.set_ne _ _ q1]; exact q2)]
  exact cutG_of i4 hh_i4 (by simp only [vsAll, Nat.reduceEqDiff, ↓reduceIte, reduceCtorEq, eq_self]) rfl HSub_rfl
 ·refine wps_vs (m := mset [4]) ?_
  have n1 : ¬ im = i4 := fun e => by rw [e, h4] at ho; cases ho
  have hS' : ∀ l ∈ allT h, l.length ≤ 6 ∧ ∀ i, 0 ≤ l.getD i 0 ∧ l.getD i 0 ≤ 4 := fun l hl => by
   have t := (mem_all hN).1 hl
   have tl := t.len
   have nS := k.nS
   have hNe : h.N = h.sm.length := rfl
   refine ⟨by omega, fun i => ?_⟩
   by_cases e : i < h.N
   ·have := t.at_ i e
    have := k.M (i := i) e
    omega
   ·rw [List.getD_eq_getElem?_getD, List.getElem?_eq_none (by omega)]; decide
  skip
  simp only [vsAll, okAll, stAll, opsA, opA, dstOk, Nat.reduceLT, ↓reduceIte, eq_self, Try.ntmps36]
  refine callK_pure (ltru_tri k im _ (by rw [Hp.set_ne _ _ n1]; exact ho) hT) ?_
  simp only [vsAll, okAll, stAll, opsA, opA, dstOk, Nat.reduceLT, Nat.reduceEqDiff, ↓reduceIte, reduceCtorEq, eq_self]
  refine callK_pure (lsums_tri (L := allT h) (F := fun l => lsN S l 6) (fv := totA S) hT (allT_len k) trivial rfl (fun l hl H' => tot1_tri S l H' (hS' l hl).1 (hS' l hl).2 hS)) ?_
  simp only [vsAll, loadA, loadRow, partA, partOk, cellA, opA, newCells, okCells, storeObj, dstOk, resA, retA.eq_1, Nat.reduceAdd, Nat.reduceLT, Nat.reduceEqDiff, ↓reduceIte, reduceCtorEq, eq_self, wtAll, Try.results36]
  exact dropR_pure rfl (by (repeat (first | exact HSub_rfl | refine HSub_put_eq (by simp only [vsAll, ↓reduceIte, eq_self, reduceCtorEq, Nat.reduceEqDiff, h4]) ?_ | refine HSub_drop2 (by simp only [eq_self, h4]) ?_ | refine HSub_keep_eq (by simp only [vsAll, ↓reduceIte, eq_self, reduceCtorEq, Nat.reduceEqDiff, h4]) ?_)))
end Go.Proofs.Ytclkjifgipcamaa
end
section
set_option linter.unusedVariables false
set_option linter.unusedSimpArgs false
set_option maxHeartbeats 4000000
set_option maxRecDepth 100000
namespace Go.Proofs.Ytclkjifgipcamaa
open Go.V
abbrev rTl : RefT := ⟨163, true⟩
theorem lsaid_no (v : AV) (H : Hp) : PTri Try.prog (fnA 33) [.lit .nilIface, v] H (.tuple []) := by
 refine tri_v0 (fun _ => false) Try.func33 (by kernel_rfl) rfl (by simp only [List.length_append, List.length_cons, List.length_nil, Try.ntmps33]; decide) ?_
 simp only [vsAll, binA, binLitA, nilA2, isConst, opA, dstOk, resA, argFr, retA.eq_2, Nat.reduceLT, ↓reduceIte, eq_self, wtAll, Try.ntmps33, Try.results33]
theorem intT163 : intT Try.prog 163 = none := by kernel_rfl
theorem lsaid_err {c : Int} {id : Nat} {f : Nat → List AV} {H : Hp} (ho : H id = some (.box 1 1 f)) (hl : (f 0).length = 1) :
  Tri Try.prog (fnA 33) [refL c, .ref id 0 1 0 0] H fun r H' => H' = H.set id (.box 1 1 fun _ => [i64 c]) ∧ r = .ret (.tuple []) := by
 refine Tri.drop ?_
 refine tri_v0 (mset [4]) Try.func33 (by kernel_rfl) rfl (by simp only [List.length_append, List.length_cons, List.length_nil, Try.ntmps33]; decide) ?_
 simp only [vsAll, binA, nilA2, unA, loadA, loadRow, partA, partOk, fieldAddrA, extractA, nilCheckA, cellA, cellsA, opA, allocA, newCells, okCells, storeObj, taA, dstOk, nilSliceOp, resA, argFr, retA.eq_2, Nat.reduceAdd, Nat.reduceLT, Nat.reduceEqDiff, Nat.reduceBEq, ↓reduceIte, reduceCtorEq, eq_self, wtAll, Try.ntmps33, Try.results33, intT163]
 intro k hh_k; (try simp only [Hp.set_none, ite_none] at hh_k)
 have hk : ¬ id = k := fun e => by rw [e, hh_k] at ho; cases ho
 simp only [vsAll, Nat.reduceLT, ↓reduceIte, eq_self, ho, hk]
 rw [List.drop_eq_nil_of_le (show (f 0).length ≤ 1 by ((try clear hh_k); omega)), Hp.set_set]
 exact ⟨_, HSub.set (HSub.drop (HSub.refl _) hh_k) (.refl _), rfl, rfl⟩
/-- What a deferred function does. -/
theorem lans_of {g : FuncId} {fn : Func} {id : Nat} {p1 p2 : String} {a1 a2 : Array Edge} {ty : Array TypeId} (hf : Try.prog.funcs[g]? = some fn)
  (hb : fn.body = some (.region id #[⟨some 1, .call ⟨.builtin .recover, #[], #[]⟩, 20, p1, a1, none⟩, ⟨some 2, .call ⟨.value (.func 33), #[.tmp 1, .tmp 0], ty⟩, 0, p2, a2, none⟩] false))
  (hr : fn.results = #[]) (hn : fn.ntmps = 3) (he : ∀ (vs : Array Value) (w : World), (callFunc g vs).run Try.prog w = .ok (.enter g vs) w) : AnsOk Try.prog g rTl := by
 refine ⟨fun H id f S vs ho hH ha => ?_, fun H id f c S vs ho hH ha => ?_, he⟩
 ·refine (ansR (m := fun _ => false) (args := [.ref id 0 1 0 0]) (Q := fun H' => H' = H) (u' := .returning) (rv := .lit .nilIface) (cv := .nilIface) hf hb hr (by rw [hn]; exact Nat.le_of_ble_eq_true rfl) (fun c₀ cs hu => .inr ⟨by simp [recoverD, hu], rfl, rfl⟩) hH ha (.lit _) (by rw [hn]; decide) ?_).mono ?_
  ·simp only [vcOps, vsAll, okAll, stAll, opsA, opA, dstOk, argFr, Nat.reduceLT, ↓reduceIte, reduceCtorEq, eq_self, hn]
   refine callK_pure (lsaid_no _ _) ?_
   simp only [vsAll, eq_self]
  ·rintro e u w ⟨h1, h2, S', H', h3, h4, h5, rfl⟩
   exact ⟨h1, h2, S', h3, h4, h5⟩
 ·have hl : (f 0).length = 1 := by
   obtain ⟨bb, cc, e, q1, q2, q3, q4⟩ := hH.obj id _ ho
   exact q4.2.1 0 (by omega)
  refine (ansR (m := fun _ => false) (args := [.ref id 0 1 0 0]) (Q := fun H' => H' = H.set id (.box 1 1 fun _ => [i64 c])) (u' := .panicking [{ v := Go.V.refusal rTl c, recovered := true }]) (rv := refL c) (cv := Go.V.refusal rTl c) hf hb hr (by rw [hn]; exact Nat.le_of_ble_eq_true rfl) (fun c₀ cs hu => .inl (by simp [recoverD, hu])) hH ha (.iface (.agg rfl fun k hk => by
   have : k = 0 := by simp at hk; exact hk
   subst this
   exact .lit _)) (by rw [hn]; decide) ?_).mono ?_
  ·simp only [vcOps, vsAll, okAll, stAll, opsA, opA, dstOk, argFr, Nat.reduceLT, ↓reduceIte, reduceCtorEq, eq_self, hn]
   refine ⟨_, lsaid_err ho hl, ?_⟩
   rintro r H' ⟨rfl, rfl⟩
   simp only [vsAll, eq_self]
  ·rintro e u w ⟨h1, h2, S', H', h3, h4, h5, rfl⟩
   exact ⟨h1, h2, S', h3, h4, h5⟩
theorem ans32 : AnsOk Try.prog 32 rTl := lans_of Try.func32 rfl rfl rfl fun vs w => by kernel_rfl
end Go.Proofs.Ytclkjifgipcamaa
end
section
set_option linter.unusedVariables false
set_option linter.unusedSimpArgs false
set_option maxHeartbeats 4000000
set_option maxRecDepth 100000
namespace Go.Proofs.Ytclkjifgipcamaa
open Go.V
theorem openL_call {h : Hl} {v : Bool} {H : Hp} {K : AV → Hp → Prop} {Kp : AV → Hp → Prop} (k : OkH h) (h1 : v = true → ∀ im, H im = none → K (hP h im) (H.set im (.memo (wetM h)))) (h2 : v = false → Kp (refL 2) H) :
  CallK Try.prog (fnA 34) [h.av, boo v] H K Kp := by
 refine ⟨_, openL_tri h v H k, ?_⟩
 rintro r H' (⟨hv, im, hi, rfl, rfl⟩ | ⟨hv, rfl, rfl⟩)
 ·exact h1 hv im hi
 ·exact h2 hv
abbrev flV (h : Hl) (d l : Int) : Int × Int := spnV (fun b => lsN (wetS h d l) b 6) (allT h)
theorem wlflow_tri (h : Hl) (d l : Int) (H : Hp) (k : OkH h) (hT : 0 < (allT h).length) (hd : 0 ≤ d ∧ d ≤ 12) (hl : -3 ≤ l ∧ l ≤ 3) :
  PTri Try.prog (fnA 9) [h.av, i64 d, i64 l] H (.tuple [.agg [i64 (flV h d l).1, i64 (flV h d l).2], i64 0]) := by
 have hw := wetN_lt h d l h.N
 have p : 2 ^ h.N ≤ 2 ^ 6 := Nat.pow_le_pow_right (by decide) k.nS
 have hS : wetS h d l < 2 ^ 60 := by unfold wetS; omega
 have hN : 0 < h.N := k.n1
 have c1 : ((decide (0 ≤ d) && decide (d ≤ 12)) && (decide (-3 ≤ l) && decide (l ≤ 3))) = true := by
  rw [decide_eq_true hd.1, decide_eq_true hd.2, decide_eq_true hl.1, decide_eq_true hl.2]; rfl
 refine Tri.drop ?_
 refine tri_a (m := mset [6, 7, 8]) ans32 Try.func9 (by kernel_rfl) rfl (by simp only [List.length_append, List.length_cons, List.length_nil, Try.ntmps9]; decide) ?_
 simp only [vsAll, boxA, boxZ, cellA, cellsA, fillA, okParts, okAll, stAll, opsA, partsA, partsOk, opA, allocA, newCells, okCells, storeObj, dstOk, deferV, argFr, Nat.reduceAdd, Nat.reduceLT, Nat.reduceLeDiff, Nat.reduceEqDiff, Nat.reduceBEq, ↓reduceIte, eq_self, wtAll, Try.ntmps9]
 intro i6 hh_i6; (try simp only [Hp.set_none, ite_none] at hh_i6); intro i7 hh_i7; (try simp only [ite_none] at hh_i7); intro i8 hh_i8; (try simp only [ite_none] at hh_i8)
 refine vs_draw2 [0, 0, 0, 1, 2] [([0, 1, 2], [], 3)] [4] (by decide +kernel) ?_
 simp only [vsAll, loadA, loadRow, partA, partOk, opA, dstOk, Nat.reduceLT, Nat.reduceEqDiff, ↓reduceIte, eq_self, wtAll]
 refine qcall _ ⟨trivial, by simp only [vsAll, okAll, opsA, opA, ↓reduceIte, eq_self], isPlace_tri d l _⟩ ?_
 rw [c1]
 simp only [vsAll, okAll, stAll, opsA, opA, dstOk, Nat.reduceLT, Nat.reduceEqDiff, ↓reduceIte, eq_self]
 refine openL_call k (fun _ im him => ?_) (fun hb => by cases hb)
 simp only [Hp.set_none] at him
 obtain ⟨⟨a1, a2⟩, _, ⟨a3, a4⟩, ⟨a5, a6⟩, a7⟩ := him
 skip
 simp only [vsAll, loadA, loadRow, partA, partOk, okAll, stAll, opsA, opA, dstOk, Nat.reduceLT, Nat.reduceEqDiff, ↓reduceIte, eq_self, wtAll, a2]
 refine callK_pure (lwet_tri h im d l _ k (Hp.set_same _ _ _) hd hl) ?_
 simp only [vsAll, okAll, stAll, opsA, opA, dstOk, Nat.reduceLT, Nat.reduceEqDiff, ↓reduceIte, eq_self]
 refine callK_pure (ltotal_tri k (wetS h d l) im _ (Hp.set_same _ _ _) hT hN hS) ?_
 simp only [vsAll, cellA, cellsA, opA, newCells, okCells, storeObj, dstOk, Nat.reduceAdd, Nat.reduceLT, Nat.reduceEqDiff, ↓reduceIte, eq_self, wtAll, hh_i7, hh_i8, a4, a6]
 refine Ent.ret ⟨i7, _, rfl, by simp only [vsAll, ↓reduceIte, eq_self]; try rfl, ?_⟩
 simp only [vsAll, loadA, loadRow, partA, partOk, resA, retA.eq_2, Nat.reduceLT, Nat.reduceEqDiff, ↓reduceIte, eq_self, wtAll, Try.results9, hh_i7]
 refine dropR_pure ?_ (by (repeat (first | exact HSub_rfl | refine HSub_put_eq (by simp only [vsAll, ↓reduceIte, eq_self, reduceCtorEq, Nat.reduceEqDiff, hh_i6, hh_i7, hh_i8, a1, a2, a3, a4, a5, a6, a7]) ?_ | refine HSub_drop2 (by simp only [eq_self, hh_i6, hh_i7, hh_i8, a7]) ?_ | refine HSub_keep_eq (by simp only [vsAll, ↓reduceIte, eq_self, reduceCtorEq, Nat.reduceEqDiff, hh_i6, hh_i7, hh_i8, a1, a2, a3, a4, a5, a6, a7]) ?_)))
 rfl
end Go.Proofs.Ytclkjifgipcamaa
end
section
set_option linter.unusedVariables false
set_option linter.unusedSimpArgs false
set_option maxHeartbeats 4000000
set_option maxRecDepth 100000
namespace Go.Proofs.Ytclkjifgipcamaa
open Go.V
abbrev u16 (n : Int) : AV := .lit (.int .u16 n)
def byF (b : Nat → Int) : Nat → List AV := fun i => [u16 (b i)]
theorem byF_at (b : Nat → Int) (i : Nat) : byF b i = [u16 (b i)] := rfl
def dwR (i3 a : Nat) (n : Int) (H : Hp) : Res → Hp → Prop := fun r H' => ∃ v : Int, (0 ≤ v ∧ v < n) ∧ r = .ret (i64 v) ∧ H' = H.set i3 (.box 1 1 fun _ => [i64 ((a + 1 : Nat) : Int)])
structure OkB (N : Nat) (b : Nat → Int) : Prop where
 n : N ≤ 9223372036854775807
 b : ∀ i, i < N → 0 ≤ b i ∧ b i ≤ 65535
theorem getD_snoc' {α : Type} (l : List α) (x d : α) (i : Nat) : (l ++ [x]).getD i d = if i = l.length then x else l.getD i d := by
 by_cases h : i < l.length
 ·rw [if_neg (by omega)]; simp [List.getD_eq_getElem?_getD, List.getElem?_append_left h]
 ·by_cases e : i = l.length
  ·subst e; simp [List.getD_eq_getElem?_getD]
  ·rw [if_neg e]
   simp [List.getD_eq_getElem?_getD]
   rw [List.getElem?_eq_none (by simp; omega), List.getElem?_eq_none (by omega)]
/-- What soundings are told, so that they hold. -/
def flS (sm : List Lk) (u : List Int) (d l : Int) (i : Nat) : Int := smZ (fun q => if (sm.getD q lk0).ht ≤ d + (sm.getD q lk0).sd * l then u.getD q 0 else 0) i
structure SoA (sm : List Lk) (u : List Int) (so : List Ls) : Prop where
 n : so.length ≤ 8
 q : ∀ i, i < so.length → ((0 ≤ (so.getD i ls0).dr ∧ (so.getD i ls0).dr ≤ 12) ∧ -3 ≤ (so.getD i ls0).li ∧ (so.getD i ls0).li ≤ 3) ∧ 0 ≤ (so.getD i ls0).lo ∧ (so.getD i ls0).hi ≤ 24 ∧
   (so.getD i ls0).lo ≤ flS sm u (so.getD i ls0).dr (so.getD i ls0).li sm.length ∧ flS sm u (so.getD i ls0).dr (so.getD i ls0).li sm.length ≤ (so.getD i ls0).hi
theorem SoA.nil (sm : List Lk) (u : List Int) : SoA sm u [] := ⟨Nat.zero_le _, fun i hi => absurd hi (Nat.not_lt_zero i)⟩
theorem SoA.add {sm : List Lk} {u : List Int} {so : List Ls} (h : SoA sm u so) (hn : so.length < 8) {d l lo hi : Int} (hd : 0 ≤ d ∧ d ≤ 12) (hl : -3 ≤ l ∧ l ≤ 3) (h0 : 0 ≤ lo) (h1 : hi ≤ 24) (h2 : lo ≤ flS sm u d l sm.length) (h3 : flS sm u d l sm.length ≤ hi) :
  SoA sm u (so ++ [⟨d, l, lo, hi⟩]) := by
 refine ⟨by simp; omega, fun i hi => ?_⟩
 rw [getD_snoc']
 by_cases e : i = so.length
 ·rw [if_pos e]; exact ⟨⟨hd, hl⟩, h0, h1, h2, h3⟩
 ·rw [if_neg e]
  simp at hi
  exact h.q i (by omega)
theorem fl_eq (sm : List Lk) (so : List Ls) (u : List Int) (d l : Int) : lsN (wetS ⟨sm, so⟩ d l) u sm.length = flS sm u d l sm.length := by
 unfold lsN flS
 refine smZ_congr sm.length fun i hi => ?_
 unfold inn
 rw [wetS_bit ⟨sm, so⟩ d l (show i < (⟨sm, so⟩ : Hl).N from hi)]
 unfold wetB
 show (if decide ((sm.getD i lk0).ht ≤ d + (sm.getD i lk0).sd * l) = true then u.getD i 0 else 0) = _
 simp only [decide_eq_true_eq]
end Go.Proofs.Ytclkjifgipcamaa
end
section
set_option linter.unusedVariables false
set_option linter.unusedSimpArgs false
namespace Go.Proofs.Ytclkjifgipcamaa
open Go.V Wl
structure SmB (sm : List Lk) (u : List Int) : Prop where
 n : sm.length ≤ 4
 len : u.length = sm.length
 s : ∀ i, i < sm.length → (0 ≤ (sm.getD i lk0).ht ∧ (sm.getD i lk0).ht ≤ 7) ∧ (-1 ≤ (sm.getD i lk0).sd ∧ (sm.getD i lk0).sd ≤ 1) ∧ (0 ≤ (sm.getD i lk0).mo ∧ (sm.getD i lk0).mo ≤ 4) ∧ 0 ≤ u.getD i 0 ∧ u.getD i 0 ≤ (sm.getD i lk0).mo
theorem SmB.nil : SmB [] [] := ⟨Nat.zero_le _, rfl, fun i hi => absurd hi (Nat.not_lt_zero i)⟩
theorem SmB.add {sm : List Lk} {u : List Int} (h : SmB sm u) (hn : sm.length < 4) {v1 v2 v3 v : Int} (h1 : 0 ≤ v1 ∧ v1 < 8) (h2 : 0 ≤ v2 ∧ v2 < 3) (h3 : 0 ≤ v3 ∧ v3 < 5) (h4 : 0 ≤ v ∧ v < v3 + 1) : SmB (sm ++ [⟨v1, v2 - 1, v3⟩]) (u ++ [v]) := by
 refine ⟨by simp; omega, by simp [h.len], fun i hi => ?_⟩
 rw [getD_snoc', getD_snoc', h.len]
 by_cases e : i = sm.length
 ·rw [if_pos e, if_pos e]
  show (0 ≤ v1 ∧ v1 ≤ 7) ∧ (-1 ≤ v2 - 1 ∧ v2 - 1 ≤ 1) ∧ (0 ≤ v3 ∧ v3 ≤ 4) ∧ 0 ≤ v ∧ v ≤ v3
  omega
 ·rw [if_neg e, if_neg e]
  simp at hi
  exact h.s i (by omega)
theorem flB_bd {sm : List Lk} {u : List Int} (h : SmB sm u) (d l : Int) : ∀ i, i ≤ sm.length → 0 ≤ flS sm u d l i ∧ flS sm u d l i ≤ 4 * (i : Int)
 | 0, _ => ⟨Int.le_refl _, Int.le_refl _⟩
 | i + 1, hi => by
   have ih := flB_bd h d l i (by omega)
   have hs := h.s i (by omega)
   have e : flS sm u d l (i + 1) = flS sm u d l i + (if (sm.getD i lk0).ht ≤ d + (sm.getD i lk0).sd * l then u.getD i 0 else 0) := rfl
   rw [e]
   split <;> omega
theorem madeB_ok {sm : List Lk} {u : List Int} {so : List Ls} (hs : SmB sm u) (h1 : 1 ≤ sm.length) (hq : SoA sm u so) : OkH ⟨sm, so⟩ ∧ Tru ⟨sm, so⟩ u := by
 have n5 := hs.n
 refine ⟨⟨h1, show sm.length ≤ 6 by omega, hq.n, fun i hi => ?_, fun i hi => ?_⟩, ⟨hs.len, fun i hi => ?_, fun q hq2 => ?_⟩⟩
 ·have := hs.s i hi
  show (0 ≤ (sm.getD i lk0).ht ∧ (sm.getD i lk0).ht ≤ 12) ∧ (-1 ≤ (sm.getD i lk0).sd ∧ (sm.getD i lk0).sd ≤ 1) ∧ 0 ≤ (sm.getD i lk0).mo ∧ (sm.getD i lk0).mo ≤ 4
  omega
 ·obtain ⟨h1, h2, h3, h4, h5⟩ := hq.q i hi
  exact ⟨h1, h2, Int.le_trans h4 h5, h3⟩
 ·have := hs.s i hi
  show 0 ≤ u.getD i 0 ∧ u.getD i 0 ≤ (((sm.getD i lk0).mo.toNat : Nat) : Int)
  omega
 ·obtain ⟨h1, h2, h3, h4, h5⟩ := hq.q q hq2
  show (so.getD q ls0).lo ≤ lsN (wetS ⟨sm, so⟩ (so.getD q ls0).dr (so.getD q ls0).li) u sm.length ∧ lsN (wetS ⟨sm, so⟩ (so.getD q ls0).dr (so.getD q ls0).li) u sm.length ≤ (so.getD q ls0).hi
  rw [fl_eq]
  exact ⟨h4, h5⟩
theorem lsN_more (S : Nat) (b : List Int) {n : Nat} (hb : b.length ≤ n) : ∀ k, lsN S b (n + k) = lsN S b n
 | 0 => rfl
 | k + 1 => by
   have e : lsN S b (n + (k + 1)) = lsN S b (n + k) + inn S b (n + k) := rfl
   have e2 : inn S b (n + k) = 0 := by
    unfold inn
    have : b.getD (n + k) 0 = 0 := by rw [List.getD_eq_getElem?_getD, List.getElem?_eq_none (by omega)]; rfl
    rw [this]
    split <;> rfl
   rw [e, e2, lsN_more S b hb k]; omega
/-- What is told of what comes in holds what truly does. -/
theorem flB_in {h : Hl} {u : List Int} (ok : OkH h) (tr : Tru h u) (d l : Int) : (flV h d l).1 ≤ flS h.sm u d l h.sm.length ∧ flS h.sm u d l h.sm.length ≤ (flV h d l).2 := by
 have h1 := spnV_in (f := fun b => lsN (wetS h d l) b 6) ((mem_all ok.n1).2 tr)
 have hl : u.length = h.sm.length := tr.len
 have hn := ok.nS
 have h2 := lsN_more (wetS h d l) u (n := h.sm.length) (by omega) (6 - h.sm.length)
 rw [show h.sm.length + (6 - h.sm.length) = 6 by omega] at h2
 have h3 := fl_eq h.sm h.so u d l
 have h4 : lsN (wetS h d l) u 6 = flS h.sm u d l h.sm.length := h2.trans h3
 rw [h4] at h1
 exact h1

end Go.Proofs.Ytclkjifgipcamaa
namespace Go.Proofs.Ytclkjifgipcamaa.Wl
open Go.V
theorem uz_congr {g h : Hd} (hn : g.n = h.n) (hf : g.fl = h.fl) (s t p : Int) : uz g s t p = uz h s t p := by simp only [uz, hn, hf]
theorem volN_congr {g h : Hd} (hn : g.n = h.n) (hf : g.fl = h.fl) (s t : Int) (i : Nat) : volN g s t i = volN h s t i := by
 induction i with
 | zero => rfl
 | succ i ih => simp only [volN, ih, uz_congr hn hf]
theorem hzF_congr {g h : Hd} (hn : g.n = h.n) (hf : g.fl = h.fl) (w t : Int) (f : Nat) (s : Int) : hzF g w t f s = hzF h w t f s := by
 induction f generalizing s with
 | zero => rfl
 | succ f ih =>
   have e : vol g (s + 1) t = vol h (s + 1) t := by simp only [vol, volN_congr hn hf, hn]
   rw [hzF, hzF, e, ih]
theorem dz_congr {g h : Hd} (hn : g.n = h.n) (hf : g.fl = h.fl) (w t p : Int) : dz g w t p = dz h w t p := by
 simp only [dz, hz, hzF_congr hn hf, uz_congr hn hf]
theorem dz_le {h : Hd} (k : HOk h) {w t p : Int} (hw : 0 ≤ w ∧ w ≤ 100) (ht : -2 ≤ t ∧ t ≤ 2) (hp : 0 ≤ p ∧ p < h.n) : 0 ≤ dz h w t p ∧ dz h w t p ≤ w := by
 obtain ⟨_, _, h3, _⟩ := hz_spec h w t k ht hw
 have := volN_part h (hz h w t) t k ht p.toNat h.n (by omega) (Nat.le_refl _)
 rw [show ((p.toNat : Nat) : Int) = p by omega] at this
 have h5 : 0 ≤ dz h w t p := by simp only [dz, uz]; omega
 have h6 : dz h w t p = uz h (hz h w t) t p := rfl
 unfold vol at h3
 omega
def sd0 : Sd := ⟨0, 0, 0, 0, 0⟩
/-- A hold, by its floor and its soundings. -/
def hdL (f : List Int) (l : List Sd) : Hd := ⟨3, fun i => f.getD i 0, l.length, fun i => l.getD i sd0⟩
theorem hdL_dz (f : List Int) (l : List Sd) (w t p : Int) : dz (hdL f l) w t p = dz (hdL f []) w t p := dz_congr rfl rfl w t p
/-- Soundings that are right. -/
structure SdA (f : List Int) (w : Int) (l : List Sd) : Prop where
 n : l.length ≤ 6
 fl : ∀ i, i < 3 → 0 ≤ f.getD i 0 ∧ f.getD i 0 ≤ 9
 q : ∀ i, i < l.length → ((0 ≤ (l.getD i sd0).w ∧ (l.getD i sd0).w < 3) ∧ (-2 ≤ (l.getD i sd0).a ∧ (l.getD i sd0).a ≤ 2) ∧ (l.getD i sd0).b = (l.getD i sd0).a) ∧ 0 ≤ (l.getD i sd0).c ∧ (l.getD i sd0).d ≤ 40 ∧
   (l.getD i sd0).c ≤ dz (hdL f []) w (l.getD i sd0).a (l.getD i sd0).w ∧ dz (hdL f []) w (l.getD i sd0).a (l.getD i sd0).w ≤ (l.getD i sd0).d
theorem SdA.nil {f : List Int} {w : Int} (hf : ∀ i, i < 3 → 0 ≤ f.getD i 0 ∧ f.getD i 0 ≤ 9) : SdA f w [] := ⟨Nat.zero_le _, hf, fun i hi => absurd hi (Nat.not_lt_zero i)⟩
theorem SdA.add {f : List Int} {w : Int} {l : List Sd} (h : SdA f w l) (hn : l.length < 6) {p t c d : Int} (hp : 0 ≤ p ∧ p < 3) (ht : -2 ≤ t ∧ t ≤ 2) (h0 : 0 ≤ c) (h1 : d ≤ 40) (h2 : c ≤ dz (hdL f []) w t p) (h3 : dz (hdL f []) w t p ≤ d) : SdA f w (l ++ [⟨p, t, t, c, d⟩]) := by
 refine ⟨by simp; omega, h.fl, fun i hi => ?_⟩
 rw [getD_snoc']
 by_cases e : i = l.length
 ·rw [if_pos e]; exact ⟨⟨hp, ht, rfl⟩, h0, h1, h2, h3⟩
 ·rw [if_neg e]
  simp at hi
  exact h.q i (by omega)
theorem SdA.ok {f : List Int} {w : Int} {l : List Sd} (h : SdA f w l) : HOk (hdL f l) := by
 refine ⟨.inl rfl, h.n, fun p hp => h.fl p hp, fun i hi => ?_, fun i hi => ?_, fun i hi => ?_⟩
 ·obtain ⟨⟨h1, h2, h3⟩, _⟩ := h.q i hi
  exact h1
 ·obtain ⟨⟨h1, h2, h3⟩, _⟩ := h.q i hi
  show -2 ≤ (l.getD i sd0).a ∧ (l.getD i sd0).a ≤ (l.getD i sd0).b ∧ (l.getD i sd0).b ≤ 2
  omega
 ·obtain ⟨⟨h1, h2, h3⟩, h4, h5, h6, h7⟩ := h.q i hi
  show 0 ≤ (l.getD i sd0).c ∧ (l.getD i sd0).c ≤ (l.getD i sd0).d ∧ (l.getD i sd0).d ≤ 40
  omega
/-- The water that there truly is is one of the amounts that are told. -/
theorem SdA.told {f : List Int} {w : Nat} {l : List Sd} (h : SdA f w l) (hw : w ≤ 100) : w ∈ allA (hdL f l) := by
 unfold allA amts amtsN
 rw [List.mem_filter]
 refine ⟨List.mem_range.2 (by omega), ?_⟩
 unfold canB
 refine decide_eq_true fun i hi => ?_
 obtain ⟨⟨h1, h2, h3⟩, h4, h5, h6, h7⟩ := h.q i hi
 unfold okc
 rw [Bool.or_eq_true]
 refine .inr ?_
 unfold anyN
 rw [List.any_eq_true]
 refine ⟨((l.getD i sd0).a + 2).toNat, List.mem_range.2 (by omega), ?_⟩
 rw [show ((((l.getD i sd0).a + 2).toNat : Nat) : Int) - 2 = (l.getD i sd0).a by omega]
 show rightB (hdL f l) (l.getD i sd0) w (l.getD i sd0).a = true
 simp only [rightB, Bool.and_eq_true, decide_eq_true_eq, hdL_dz]
 omega
/-- The soundings of a hold, as a row. -/
def sdF (l : List Sd) : Nat → List AV := fun i => (l.getD i sd0).cs
theorem dep_ok {f : List Int} {w : Int} {l : List Sd} (h : SdA f w l) (hw : 0 ≤ w ∧ w ≤ 40) {t p : Int} (ht : -2 ≤ t ∧ t ≤ 2) (hp : 0 ≤ p ∧ p < 3) :
  depV (hdL f l) w t p = dz (hdL f []) w t p ∧ depE (hdL f l) w t p = 0 ∧ 0 ≤ dz (hdL f []) w t p ∧ dz (hdL f []) w t p ≤ 40 := by
 have hc : dAsk (hdL f l) w t p = true := by
  have e1 : partB (hdL f l) p = true := (partB_iff _ _).2 ⟨hp.1, by show p < ((3 : Nat) : Int); omega⟩
  have e2 : tiltB t = true := (tiltB_iff t).2 ht
  have e3 : (decide (0 ≤ w) && decide (w ≤ 100)) = true := by rw [decide_eq_true hw.1, decide_eq_true (show w ≤ 100 by omega)]; rfl
  rw [dAsk, e1, e2, e3]; rfl
 have hd := dz_le h.ok (w := w) (t := t) (p := p) (by omega) ht hp
 rw [hdL_dz] at hd
 refine ⟨?_, ?_, hd.1, by omega⟩
 ·unfold depV; rw [if_pos h.ok, if_pos hc, hdL_dz]
 ·unfold depE; rw [if_pos h.ok, if_pos hc]
/-- A number lies in one of the first spans. -/
def inW (l : List (Int × Int)) (w : Int) : Nat → Bool
 | 0 => false
 | i + 1 => inW l w i || (decide ((l.getD i (0, 0)).1 ≤ w) && decide (w ≤ (l.getD i (0, 0)).2))
theorem inW_of {l : List (Int × Int)} {w : Int} {i : Nat} (h1 : (l.getD i (0, 0)).1 ≤ w) (h2 : w ≤ (l.getD i (0, 0)).2) : ∀ n, i < n → inW l w n = true
 | n + 1, hn => by
   rw [inW]
   by_cases e : i = n
   ·subst e; rw [decide_eq_true h1, decide_eq_true h2]; simp
   ·rw [inW_of h1 h2 n (by omega)]; rfl
theorem cov_fold : ∀ (l : List Nat) (s : List (Int × Int)), (∀ r ∈ s, r.1 ≤ r.2) → (∀ r ∈ l.foldl (fun acc (a : Nat) => addS acc a) s, r.1 ≤ r.2) ∧
  (∀ w : Int, (∃ r ∈ s, r.1 ≤ w ∧ w ≤ r.2) → ∃ r ∈ l.foldl (fun acc (a : Nat) => addS acc a) s, r.1 ≤ w ∧ w ≤ r.2) ∧ ∀ a ∈ l, ∃ r ∈ l.foldl (fun acc (a : Nat) => addS acc a) s, r.1 ≤ (a : Int) ∧ (a : Int) ≤ r.2
 | [], s, h => ⟨h, fun w hw => hw, fun a ha => by cases ha⟩
 | b :: l, s, h => by
   have key : (∀ r ∈ addS s b, r.1 ≤ r.2) ∧ (∀ w : Int, (∃ r ∈ s, r.1 ≤ w ∧ w ≤ r.2) → ∃ r ∈ addS s b, r.1 ≤ w ∧ w ≤ r.2) ∧ ∃ r ∈ addS s b, r.1 ≤ (b : Int) ∧ (b : Int) ≤ r.2 := by
    unfold addS
    split
    ·rename_i q hq
     have hs : s = s.dropLast ++ [q] := by
      have hne : s ≠ [] := fun e => by rw [e] at hq; cases hq
      rw [List.getLast?_eq_some_getLast hne, Option.some.injEq] at hq
      rw [← hq]; exact (List.dropLast_concat_getLast hne).symm
     have hqm : q ∈ s := by rw [hs]; simp
     have hq2 := h q hqm
     split
     ·rename_i e
      refine ⟨fun r hr => ?_, fun w ⟨r, hr, h1, h2⟩ => ?_, ⟨(q.1, b), by simp, by show q.1 ≤ (b : Int); omega, Int.le_refl _⟩⟩
      ·rcases List.mem_append.1 hr with hr | hr
       ·exact h r ((List.dropLast_sublist s).subset hr)
       ·rw [List.mem_singleton] at hr; subst hr; show q.1 ≤ (b : Int); omega
      ·rw [hs] at hr
       rcases List.mem_append.1 hr with hr | hr
       ·exact ⟨r, List.mem_append_left _ hr, h1, h2⟩
       ·rw [List.mem_singleton] at hr
        subst hr
        exact ⟨(r.1, b), by simp, h1, by show w ≤ (b : Int); omega⟩
     ·refine ⟨fun r hr => ?_, fun w ⟨r, hr, h1, h2⟩ => ⟨r, List.mem_append_left _ hr, h1, h2⟩, ⟨(b, b), by simp, Int.le_refl _, Int.le_refl _⟩⟩
      rcases List.mem_append.1 hr with hr | hr
      ·exact h r hr
      ·rw [List.mem_singleton] at hr; subst hr; exact Int.le_refl _
    ·refine ⟨fun r hr => ?_, fun w ⟨r, hr, h1, h2⟩ => ⟨r, List.mem_append_left _ hr, h1, h2⟩, ⟨(b, b), by simp, Int.le_refl _, Int.le_refl _⟩⟩
     rcases List.mem_append.1 hr with hr | hr
     ·exact h r hr
     ·rw [List.mem_singleton] at hr; subst hr; exact Int.le_refl _
   obtain ⟨g1, g2, g3⟩ := cov_fold l (addS s b) key.1
   refine ⟨g1, fun w hw => g2 w (key.2.1 w hw), fun a ha => ?_⟩
   rcases List.mem_cons.1 ha with e | e
   ·rw [e]; exact g2 _ key.2.2
   ·exact g3 a e
theorem in_water {h : Hd} {w : Nat} (hw : w ∈ allA h) : inW (spansL (allA h)) w (spansL (allA h)).length = true := by
 obtain ⟨r, hr, h1, h2⟩ := (cov_fold (allA h) [] (fun r hr => by cases hr)).2.2 w hw
 obtain ⟨i, hi, e⟩ := List.getElem_of_mem hr
 have e2 : (spansL (allA h)).getD i (0, 0) = r := by
  have hi' : i < (spansL (allA h)).length := hi
  rw [List.getD_eq_getElem?_getD, List.getElem?_eq_getElem hi']; exact e
 exact inW_of (i := i) (by rw [e2]; exact h1) (by rw [e2]; exact h2) _ hi
end Go.Proofs.Ytclkjifgipcamaa.Wl
end
section
set_option linter.unusedVariables false
set_option linter.unusedSimpArgs false
namespace Go.Proofs.Ytclkjifgipcamaa.Pm
open Go.V Wl
/-- A watch. -/
structure Wt where
 lo : Int
 hi : Int
 ti : Int
 re : Int
/-- A pump. -/
structure Pu where
 fl : List (Int × Int)
 ca : Int
 ws : List Wt
 ho : Hd
def wt0 : Wt := ⟨0, 0, 0, 0⟩
abbrev Wt.cs (x : Wt) : List AV := [i64 x.lo, i64 x.hi, i64 x.ti, i64 x.re]
def wsF (l : List Wt) : Nat → List AV := fun i => (l.getD i wt0).cs
theorem wsF_at (l : List Wt) (i : Nat) : wsF l i = [i64 (l.getD i wt0).lo, i64 (l.getD i wt0).hi, i64 (l.getD i wt0).ti, i64 (l.getD i wt0).re] := rfl
abbrev wsAV (l : List Wt) : AV := .rsl l.length 4 (wsF l)
abbrev Pu.cs (p : Pu) : List AV := [spansAV p.fl, i64 p.ca, wsAV p.ws, flAV p.ho.n p.ho.fl, sdAV p.ho.m p.ho.sd]
abbrev Pu.av (p : Pu) : AV := .agg p.cs
abbrev pptr (p : Pu) : AV := .rptr 1 5 (fun _ => p.cs) 0 0
/-- No far too much of anything. -/
structure Near (p : Pu) : Prop where
 nF : p.fl.length ≤ 40
 nW : p.ws.length ≤ 40
 ho : Wl.Near p.ho
def okF (x : Int × Int) : Prop := 0 ≤ x.1 ∧ x.1 ≤ x.2 ∧ x.2 ≤ 40
def okW (w : Wt) : Prop := (0 ≤ w.lo ∧ w.lo ≤ w.hi ∧ w.hi ≤ 40) ∧ (0 ≤ w.ti ∧ w.ti ≤ 20) ∧ 0 ≤ w.re ∧ w.re ≤ 4
/-- A valid pump. -/
structure Ok (p : Pu) : Prop where
 ho : HOk p.ho
 nF : p.fl.length ≤ 8
 ca : 0 ≤ p.ca ∧ p.ca ≤ 100
 nW : p.ws.length ≤ 3
 f : ∀ i, i < p.fl.length → okF (p.fl.getD i (0, 0))
 w : ∀ i, i < p.ws.length → okW (p.ws.getD i wt0)
instance (x : Int × Int) : Decidable (okF x) := by unfold okF; infer_instance
instance (x : Wt) : Decidable (okW x) := by unfold okW; infer_instance
theorem ok_iff (p : Pu) : Ok p ↔ (HOk p.ho ∧ p.fl.length ≤ 8 ∧ (0 ≤ p.ca ∧ p.ca ≤ 100) ∧ p.ws.length ≤ 3) ∧ (∀ i, i < p.fl.length → okF (p.fl.getD i (0, 0))) ∧ ∀ i, i < p.ws.length → okW (p.ws.getD i wt0) :=
 ⟨fun k => ⟨⟨k.ho, k.nF, k.ca, k.nW⟩, k.f, k.w⟩, fun ⟨⟨a, b, c, d⟩, e, f⟩ => ⟨a, b, c, d, e, f⟩⟩
instance (p : Pu) : Decidable (Ok p) := decidable_of_iff _ (ok_iff p).symm
theorem Ok.near {p : Pu} (k : Ok p) : Near p := ⟨by have := k.nF; omega, by have := k.nW; omega, k.ho.near⟩
def Pu.wt (p : Pu) (i : Nat) : Wt := p.ws.getD i wt0
def isW (p : Pu) (n : Int) : Bool := decide (-1 ≤ n) && decide (n ≤ (p.ws.length : Int) - 1)
def planB (p : Pu) (l : List Int) : Bool := l.all (isW p) && decide (l.length = p.fl.length)
theorem isW_iff (p : Pu) (n : Int) : isW p n = true ↔ -1 ≤ n ∧ n < p.ws.length := by simp [isW]; omega
theorem planB_iff {p : Pu} {l : List Int} : planB p l = true ↔ l.length = p.fl.length ∧ ∀ i, i < l.length → -1 ≤ l.getD i (-1) ∧ l.getD i (-1) < p.ws.length := by
 rw [planB, Bool.and_eq_true, List.all_eq_true, decide_eq_true_eq]
 constructor
 ·rintro ⟨h1, h2⟩
  exact ⟨h2, fun i hi => (isW_iff p _).1 (h1 _ (mem_getD l i _ hi))⟩
 ·rintro ⟨h1, h2⟩
  refine ⟨fun x hx => ?_, h1⟩
  obtain ⟨i, hi, rfl⟩ := Go.V.getD_mem (-1) hx
  exact (isW_iff p _).2 (h2 i hi)
/-- What a watch has done after an hour more: how worn it is, and for how long it rests. -/
def stepW (re : Int) (is : Bool) (s : Nat × Nat) : Nat × Nat :=
 let s' := if is = true then (s.1 + 1, 0) else (s.1, s.2 + 1)
 if re ≤ (s'.2 : Int) then (0, s'.2) else s'
def doneW (re : Int) (l : List Int) (w : Int) : Nat → Nat × Nat
 | 0 => (0, 0)
 | i + 1 => stepW re (decide (l.getD i (-1) = w)) (doneW re l w i)
theorem doneW_le (re : Int) (l : List Int) (w : Int) : ∀ i, (doneW re l w i).1 ≤ i ∧ (doneW re l w i).2 ≤ i := by
 intro i
 induction i with
 | zero => exact ⟨Nat.le_refl _, Nat.le_refl _⟩
 | succ i ih =>
   simp only [doneW, stepW]
   split <;> split <;> simp only [] <;> omega
def wornV (p : Pu) (l : List Int) (w : Nat) (i : Nat) : Nat := (doneW (p.wt w).re l w i).1
/-- How strong a watch is, worst or best. -/
def freshV (p : Pu) (w : Nat) (b : Bool) : Int := if b = true then (p.wt w).hi else (p.wt w).lo
def strV (p : Pu) (l : List Int) (i : Nat) (b : Bool) : Int :=
 if l.getD i (-1) < 0 then 0 else max 0 (freshV p (l.getD i (-1)).toNat b - (p.wt (l.getD i (-1)).toNat).ti * (wornV p l (l.getD i (-1)).toNat i : Nat))
def startV (p : Pu) (b : Bool) : Int := if b = true then ((allA p.ho).getD 0 0 : Nat) else ((allA p.ho).getD ((allA p.ho).length - 1) 0 : Nat)
def flowV (p : Pu) (i : Nat) (b : Bool) : Int := if b = true then (p.fl.getD i (0, 0)).1 else (p.fl.getD i (0, 0)).2
/-- The water after so many hours, in the worst truth or in the best one. -/
def watV (p : Pu) (l : List Int) (b : Bool) : Nat → Int
 | 0 => startV p b
 | i + 1 => max 0 (watV p l b i + flowV p i b - strV p l i b)
def aftL (p : Pu) (l : List Int) (b : Bool) (n : Nat) : List Int := (List.range n).map fun i => watV p l b (i + 1)
/-- The first hour after which there is too much; below 0: none. -/
def lostV (ca : Int) (L : List Int) : Int := match (List.range L.length).find? fun i => decide (ca < L.getD i 0) with
 | some i => (i : Int)
 | none => -1
def safeB (p : Pu) (l : List Int) : Bool := decide (lostV p.ca (aftL p l false l.length) < 0)
def errE (p : Pu) (v : Bool) : Int := if Ok p then if v = true then if (allA p.ho).length = 0 then 10 else 0 else 2 else 1
theorem errE_no {p : Pu} (h : ¬ Ok p) (v : Bool) : errE p v = 1 := if_neg h
theorem errE_bad {p : Pu} (k : Ok p) : errE p false = 2 := by rw [errE, if_pos k, if_neg (by decide)]
theorem errE_clash {p : Pu} (k : Ok p) (h : (allA p.ho).length = 0) : errE p true = 10 := by rw [errE, if_pos k, if_pos rfl, if_pos h]
theorem errE_ok {p : Pu} (k : Ok p) (h : ¬ (allA p.ho).length = 0) : errE p true = 0 := by rw [errE, if_pos k, if_pos rfl, if_neg h]
theorem errE_zero {p : Pu} {v : Bool} (h : errE p v = 0) : Ok p ∧ v = true ∧ 0 < (allA p.ho).length := by
 unfold errE at h
 split at h
 ·rename_i k
  split at h
  ·rename_i hv
   split at h
   ·omega
   ·exact ⟨k, hv, by omega⟩
  ·omega
 ·omega
def playE (p : Pu) (l : List Int) : Int := errE p (planB p l)
def playV (p : Pu) (l : List Int) : List (Int × Int) := if playE p l = 0 then (List.range l.length).map fun i => (watV p l true (i + 1), watV p l false (i + 1)) else []
def outE (p : Pu) (l : List Int) (h : Int) : Int := errE p (planB p l && (decide (0 ≤ h) && decide (h ≤ (p.fl.length : Int) - 1)))
def outV (p : Pu) (l : List Int) (h : Int) : Int × Int := if outE p l h = 0 then (strV p l h.toNat false, strV p l h.toNat true) else (0, 0)
def floV (p : Pu) (l : List Int) : Int := if playE p l = 0 then if safeB p l = true then 2 else if 0 ≤ lostV p.ca (aftL p l true l.length) then 0 else 1 else 0
def losE (p : Pu) (l : List Int) : Int := if playE p l = 0 then if safeB p l = true then 4 else 0 else playE p l
def losV (p : Pu) (l : List Int) : Int := if losE p l = 0 then lostV p.ca (aftL p l false l.length) else 0
def moreP (p : Pu) (n : Int) : Pu := { p with fl := p.fl.map fun x => (x.1 + n, x.2 + n) }
/-- How much more can come in: tried from some number on. -/
def spareN (p : Pu) (l : List Int) : Nat → Nat → Nat
 | 0, n => n
 | k + 1, n => if safeB (moreP p ((n : Int) + 1)) l = true then spareN p l k (n + 1) else n
def spaV (p : Pu) (l : List Int) : Int := if losE p l = 4 then (spareN p l 40 0 : Nat) else 0
def spaE (p : Pu) (l : List Int) : Int := if playE p l = 0 then if safeB p l = true then 0 else 4 else playE p l
end Go.Proofs.Ytclkjifgipcamaa.Pm
end
section
set_option linter.unusedVariables false
set_option linter.unusedSimpArgs false
set_option maxHeartbeats 4000000
set_option maxRecDepth 100000
namespace Go.Proofs.Ytclkjifgipcamaa.Pm
open Go.V Wl
/-- A pump whose hold and watches are valid. -/
structure Okm (p : Pu) : Prop where
 ho : HOk p.ho
 nW : p.ws.length ≤ 3
 w : ∀ i, i < p.ws.length → okW (p.ws.getD i wt0)
theorem Ok.m {p : Pu} (k : Ok p) : Okm p := ⟨k.ho, k.nW, k.w⟩
theorem Okm.wt {p : Pu} (k : Okm p) {w : Nat} (hw : w < p.ws.length) : (0 ≤ (p.wt w).lo ∧ (p.wt w).lo ≤ (p.wt w).hi ∧ (p.wt w).hi ≤ 40) ∧ (0 ≤ (p.wt w).ti ∧ (p.wt w).ti ≤ 20) ∧ 0 ≤ (p.wt w).re ∧ (p.wt w).re ≤ 4 := k.w w hw
/-- A list for the first hours. -/
structure FirstP (p : Pu) (l : List Int) : Prop where
 len : l.length ≤ 8
 at_ : ∀ i, i < l.length → -1 ≤ l.getD i (-1) ∧ l.getD i (-1) < p.ws.length
theorem wt_prod {t : Int} {n : Nat} (h : 0 ≤ t ∧ t ≤ 20) (hn : n ≤ 8) : 0 ≤ t * (n : Int) ∧ t * (n : Int) ≤ 160 := by
 have h1 : 0 ≤ t * (n : Int) := Int.mul_nonneg h.1 (by omega)
 have h2 : t * (n : Int) ≤ 20 * 8 := Int.mul_le_mul h.2 (by omega) (by omega) (by omega)
 omega
theorem aft_len (p : Pu) (l : List Int) (b : Bool) (n : Nat) : (aftL p l b n).length = n := by simp [aftL]
theorem aft_at (p : Pu) (l : List Int) (b : Bool) {n i : Nat} (hi : i < n) : (aftL p l b n).getD i 0 = watV p l b (i + 1) := by simp [aftL, List.getD_eq_getElem?_getD, hi]
theorem str_nn (p : Pu) (l : List Int) (i : Nat) (b : Bool) : 0 ≤ strV p l i b := by unfold strV; split <;> omega
theorem flow_rng {p : Pu} (k : Ok p) {i : Nat} (hi : i < p.fl.length) (b : Bool) : 0 ≤ flowV p i b ∧ flowV p i b ≤ 40 := by
 have := k.f i hi
 unfold okF at this
 unfold flowV
 split <;> omega
/-- Flow that is within so much, as far as a list reaches. -/
def FlowLe (p : Pu) (n : Nat) : Prop := ∀ i b, i < n → 0 ≤ flowV p i b ∧ flowV p i b ≤ 80
theorem start_rng (p : Pu) (b : Bool) : 0 ≤ startV p b ∧ startV p b ≤ 100 := by
 have hg : ∀ i, (allA p.ho).getD i 0 ≤ 100 := fun i => by
  by_cases h : i < (allA p.ho).length
  ·exact amts_le (mem_getD (allA p.ho) i 0 h)
  ·rw [List.getD_eq_getElem?_getD, List.getElem?_eq_none (by omega)]; decide
 unfold startV
 split
 ·have := hg 0; omega
 ·have := hg ((allA p.ho).length - 1); omega
theorem wat_rng {p : Pu} {n : Nat} (hf : FlowLe p n) (l : List Int) (b : Bool) : ∀ i, i ≤ n → 0 ≤ watV p l b i ∧ watV p l b i ≤ 100 + 80 * i := by
 intro i
 induction i with
 | zero => intro _; have := start_rng p b; simp only [watV]; omega
 | succ i ih =>
   intro hi
   have h1 := ih (by omega)
   have h2 := hf i b (by omega)
   have h3 := str_nn p l i b
   simp only [watV]
   omega
theorem flowLe_ok {p : Pu} (k : Ok p) {n : Nat} (h : n ≤ p.fl.length) : FlowLe p n := fun i b hi => by have := flow_rng k (i := i) (by omega) b; omega
end Go.Proofs.Ytclkjifgipcamaa.Pm
end
section
set_option linter.unusedVariables false
set_option linter.unusedSimpArgs false
set_option maxHeartbeats 4000000
set_option maxRecDepth 100000
namespace Go.Proofs.Ytclkjifgipcamaa.Pm
open Go.V Wl
/-- The water after so many hours, span by span. -/
def plyL (p : Pu) (l : List Int) (n : Nat) : List (Int × Int) := (List.range n).map fun i => (watV p l true (i + 1), watV p l false (i + 1))
theorem ply_len (p : Pu) (l : List Int) (n : Nat) : (plyL p l n).length = n := by simp [plyL]
theorem app_spans' {l : List (Int × Int)} {n : Nat} (hn : l.length = n) (a b : Int) (g : Nat → List AV) (hg : g 0 = [i64 a, i64 b]) : appF n 1 (spanF l) g = spanF (l ++ [(a, b)]) := by
 subst hn; exact app_spans l a b g hg
theorem more_at (p : Pu) (n : Int) {i : Nat} (hi : i < p.fl.length) : (moreP p n).fl.getD i (0, 0) = ((p.fl.getD i (0, 0)).1 + n, (p.fl.getD i (0, 0)).2 + n) := by
 simp [moreP, List.getD_eq_getElem?_getD, hi]
theorem more_flow {p : Pu} (k : Ok p) {n : Int} (hn : 0 ≤ n ∧ n ≤ 40) {q : Nat} (hq : q ≤ p.fl.length) : FlowLe (moreP p n) q := by
 intro i b hi
 have := k.f i (by omega)
 unfold okF at this
 unfold flowV
 rw [more_at p n (by omega)]
 split <;> simp only [] <;> omega
def mrL (p : Pu) (n : Int) (i : Nat) : List (Int × Int) := (p.fl.take i).map fun x => (x.1 + n, x.2 + n)
end Go.Proofs.Ytclkjifgipcamaa.Pm
end
section
set_option linter.unusedVariables false
set_option linter.unusedSimpArgs false
set_option maxHeartbeats 4000000
set_option maxRecDepth 100000
namespace Go.Proofs.Ytclkjifgipcamaa.Pm
open Go.V Wl
theorem pin_tri (n lo hi : Int) (H : Hp) : PTri Try.prog (fnA 86) [i64 n, i64 lo, i64 hi] H (boo (decide (lo ≤ n) && decide (n ≤ hi))) := by
 refine tri_v0 (fun _ => false) Try.func86 (by kernel_rfl) rfl (by simp only [List.length_append, List.length_cons, List.length_nil, Try.ntmps86]; decide) ?_
 simp only [vsAll, binA, binLitA, intA, pickA, opA, guardV, dstOk, nilSliceOp, resA, argFr, retA.eq_1, Nat.reduceLT, Nat.reduceEqDiff, ↓reduceIte, reduceCtorEq, implies_true, eq_self, Try.ntmps86, Try.results86]
theorem pspan_tri (a b hi : Int) (H : Hp) : PTri Try.prog (fnA 87) [.agg [i64 a, i64 b], i64 hi] H (boo (decide (0 ≤ a) && decide (a ≤ b) && decide (b ≤ hi))) := by
 refine tri_v0 (fun _ => false) Try.func87 (by kernel_rfl) rfl (by simp only [List.length_append, List.length_cons, List.length_nil, Try.ntmps87]; decide) ?_
 simp only [vsAll, binA, binLitA, intA, loadA, loadRow, partA, partOk, fieldAddrA, boxA, boxZ, pickA, opA, guardV, dstOk, nilSliceOp, resA, argFr, retA.eq_1, Nat.reduceAdd, Nat.reduceLT, Nat.reduceEqDiff, ↓reduceIte, implies_true, eq_self, wtAll, Try.ntmps87, Try.results87]
theorem pask_tri (b : Bool) (e : Int) (H : Hp) : Tri Try.prog (fnA 47) [boo b, i64 e] H fun r H' => H' = H ∧ r = if b then .ret (.tuple []) else .pan (.iface 175 (i64 e)) := by
 refine tri_v0 (fun _ => false) Try.func47 (by kernel_rfl) rfl (by simp only [List.length_append, List.length_cons, List.length_nil, Try.ntmps47]; decide) ?_
 cases b
 ·simp only [vsAll, unA, ifaceA, opA, dstOk, panA, argFr, Nat.reduceLT, Nat.reduceEqDiff, ↓reduceIte, eq_self, wtAll, Try.ntmps47]
 ·simp only [vsAll, unA, opA, dstOk, resA, argFr, retA.eq_2, Nat.reduceLT, ↓reduceIte, eq_self, Try.ntmps47, Try.results47]
theorem pask_call {b : Bool} {e : Int} {H : Hp} {K : AV → Hp → Prop} {Kp : AV → Hp → Prop} (h1 : b = true → K (.tuple []) H) (h2 : b = false → Kp (.iface 175 (i64 e)) H) :
  CallK Try.prog (fnA 47) [boo b, i64 e] H K Kp := by
 refine ⟨_, pask_tri b e H, fun r H' hr => ?_⟩
 obtain ⟨rfl, rfl⟩ := hr
 cases b
 ·exact h2 rfl
 ·exact h1 rfl
theorem left_tri (n x : Int) (H : Hp) (hn : -100000 ≤ n ∧ n ≤ 100000) (hx : -100000 ≤ x ∧ x ≤ 100000) : PTri Try.prog (fnA 91) [i64 n, .rsl 1 1 fun i => [[i64 x]].getD i []] H (i64 (max 0 (n - x))) := by
 refine tri_v0 (fun _ => false) Try.func91 (by kernel_rfl) rfl (by simp only [List.length_append, List.length_cons, List.length_nil, Try.ntmps91]; decide) ?_
 simp only [vsAll, lenA, opA, dstOk, nilSliceOp, argFr, Nat.reduceLT, Nat.reduceEqDiff, ↓reduceIte, eq_self, wtAll, Try.ntmps91]
 refine vs_loop (σ := Nat) (fun i => i ≤ 1) (fun i => [(0, i64 (if i = 0 then n else n - x)), (7, .rsl 1 1 fun i => [[i64 x]].getD i []), (8, i64 1), (9, i64 i)]) (fun _ => H) (fun i => 1 - i) 0 (Nat.zero_le _) ?_ HSub_rfl fun i hi => ?_
 ·simp only [vsAll, argFr, Nat.reduceEqDiff, ↓reduceIte, reduceCtorEq, eq_self, Int.natCast_zero]
  exact AV.Le.refl _
 ·simp only [vsAll, binA, binLitA, intA, opA, dstOk, Nat.reduceLT, Nat.reduceEqDiff, ↓reduceIte, reduceCtorEq, eq_self]
  refine condD (fun hd => ?_) (fun hd => ?_)
  ·have e0 : i = 0 := by omega
   subst e0
   have eg : ((fun i => [[i64 x]].getD i []) 0 : List AV) = [i64 x] := rfl
   simp only [vsAll, binA, binLitA, intA, loadA, loadRow, partA, partOk, indexAddrA, opA, dstOk, nilSliceOp, Nat.reduceLT, Nat.reduceEqDiff, Int.reduceAdd, Int.reduceLE, Int.reduceLT, Int.reduceToNat, ↓reduceIte, reduceCtorEq, eq_self, wtAll, Int.natCast_zero]
   refine ⟨by omega, by simp only [InR_i64]; omega, by simp only [InR_i64]; omega, loop_next 1 (by omega) (by omega) ?_ HSub_rfl⟩
   simp only [vsAll, Nat.reduceEqDiff, ↓reduceIte, reduceCtorEq, eq_self, Int.natCast_one]
  ·have e1 : i = 1 := by omega
   subst e1
   simp only [vsAll, mmA, okAll, stAll, opsA, opA, dstOk, nilSliceOp, resA, retA.eq_1, Nat.reduceLT, ↓reduceIte, reduceCtorEq, eq_self, Try.results91]
/-- What a watch has done, as the program keeps it. -/
def capM (s : Nat × Nat) : Nat × Nat := (s.1, min s.2 4)
theorem cap_step {re : Int} (hr : 0 ≤ re ∧ re ≤ 4) (is : Bool) (s : Nat × Nat) : capM (stepW re is s) = (let s' := if is = true then ((capM s).1 + 1, 0) else ((capM s).1, min ((capM s).2 + 1) 4); if re ≤ (s'.2 : Int) then (0, s'.2) else s') := by
 unfold capM stepW
 cases is
 ·simp only [Bool.false_eq_true, if_false]
  by_cases h : re ≤ ((s.2 + 1 : Nat) : Int)
  ·rw [if_pos h, if_pos (by omega)]
   exact Prod.ext rfl (by simp only []; omega)
  ·rw [if_neg h, if_neg (by omega)]
   exact Prod.ext rfl (by simp only []; omega)
 ·by_cases h : re ≤ 0
  ·simp [h]
  ·simp [h]
theorem pumped_tri (s : Nat × Nat) (is : Bool) (re : Int) (H : Hp) (hr : 0 ≤ re ∧ re ≤ 4) (hs : s.1 ≤ 100) : PTri Try.prog (fnA 93) [.agg [i64 (capM s).1, i64 (capM s).2], boo is, i64 re] H (.agg [i64 (capM (stepW re is s)).1, i64 (capM (stepW re is s)).2]) := by
 have e := cap_step hr is s
 have h1 : (capM s).1 ≤ 100 := hs
 have h2 : (capM s).2 ≤ 4 := Nat.min_le_right _ _
 generalize capM (stepW re is s) = r at e ⊢
 generalize capM s = c at e h1 h2 ⊢
 refine Tri.drop ?_
 refine tri_v0 (mset [3]) Try.func93 (by kernel_rfl) rfl (by simp only [List.length_append, List.length_cons, List.length_nil, Try.ntmps93]; decide) ?_
 simp only [vsAll, opA, allocA, boxMutA, dstOk, argFr, Nat.reduceAdd, Nat.reduceLT, Nat.reduceEqDiff, Nat.reduceBEq, ↓reduceIte, eq_self, wtAll, Try.ntmps93]
 intro i3 hh_i3; (try simp only [Hp.set_none, ite_none] at hh_i3); intro i6 hh_i6; (try simp only [ite_none] at hh_i6)
 cases is
 ·simp only [Bool.false_eq_true, if_false] at e
  refine condV (fun h => by cases h) (fun _ => ?_)
  simp only [vsAll, binA, binLitA, intA, loadA, loadRow, partA, partOk, fieldAddrA, cellA, cellsA, mmA, okAll, stAll, opsA, opA, newCells, okCells, storeObj, dstOk, argFr, Nat.reduceAdd, Nat.reduceLT, Nat.reduceEqDiff, ↓reduceIte, eq_self, wtAll, hh_i6]
  have em : min ((c.2 : Int) + 1) 4 = ((min (c.2 + 1) 4 : Nat) : Int) := by ((try clear hh_i3 hh_i6); omega)
  rw [em]
  refine ⟨by simp only [InR_i64]; ((try clear hh_i3 hh_i6); omega), condV (fun hc => ?_) (fun hc => ?_)⟩
  ·rw [if_pos (of_decide_eq_true hc)] at e
   subst e
   simp only [vsAll, loadA, loadRow, partA, partOk, fieldAddrA, cellA, cellsA, opA, newCells, okCells, storeObj, dstOk, resA, retA.eq_1, Nat.reduceAdd, Nat.reduceLT, Nat.reduceLeDiff, Nat.reduceEqDiff, ↓reduceIte, eq_self, wtAll, Try.results93, hh_i6, Int.natCast_zero]
   exact dropR_pure rfl (by (repeat (first | exact HSub_rfl | refine HSub_put_eq (by simp only [vsAll, binA, binLitA, intA, aggA, aggV, boolA, nilA2, isConst, unA, loadA, loadRow, partA, partOk, fieldAddrA, indexAddrA, indexA, fieldA, extractA, lenA, nilCheckA, boxA, boxZ, cellA, cellsA, fillA, okParts, buildSliceA, buildMutA, makeSliceA, partIdx, elemsA, lensA, ifaceA, convA, mmA, pickA, okAll, stAll, opsA, partsA, partsOk, opA, allocA, boxMutA, newCells, okCells, storeObj, appendA, guardV, taA, nM, mapUpA, rangeA, nextA, entryA, lookA, sliceA, sliceM, sliceS, boundsA, opO, okO, copyA, dstOk, nilA, quietOk, nilSliceOp, deferV, panA, resA, argFr, retA.eq_1, retA.eq_2, Nat.reduceAdd, Nat.reduceSub, Nat.reduceMul, Nat.reduceLT, Nat.reduceLeDiff, Nat.reduceEqDiff, Nat.reduceBEq, Int.reduceAdd, Int.reduceSub, Int.reduceMul, Int.reduceNeg, Int.reduceLE, Int.reduceLT, Int.reduceEq, Int.reduceNe, Int.reduceToNat, ↓reduceIte, reduceCtorEq, implies_true, forall_const, eq_self, ne_eq, wtAll, Try.ntmps93, Try.results93, hh_i3, hh_i6]) ?_ | refine HSub_drop2 (by simp only [eq_self, hh_i3, hh_i6]) ?_ | refine HSub_keep_eq (by simp only [vsAll, binA, binLitA, intA, aggA, aggV, boolA, nilA2, isConst, unA, loadA, loadRow, partA, partOk, fieldAddrA, indexAddrA, indexA, fieldA, extractA, lenA, nilCheckA, boxA, boxZ, cellA, cellsA, fillA, okParts, buildSliceA, buildMutA, makeSliceA, partIdx, elemsA, lensA, ifaceA, convA, mmA, pickA, okAll, stAll, opsA, partsA, partsOk, opA, allocA, boxMutA, newCells, okCells, storeObj, appendA, guardV, taA, nM, mapUpA, rangeA, nextA, entryA, lookA, sliceA, sliceM, sliceS, boundsA, opO, okO, copyA, dstOk, nilA, quietOk, nilSliceOp, deferV, panA, resA, argFr, retA.eq_1, retA.eq_2, Nat.reduceAdd, Nat.reduceSub, Nat.reduceMul, Nat.reduceLT, Nat.reduceLeDiff, Nat.reduceEqDiff, Nat.reduceBEq, Int.reduceAdd, Int.reduceSub, Int.reduceMul, Int.reduceNeg, Int.reduceLE, Int.reduceLT, Int.reduceEq, Int.reduceNe, Int.reduceToNat, ↓reduceIte, reduceCtorEq, implies_true, forall_const, eq_self, ne_eq, wtAll, Try.ntmps93, Try.results93, hh_i3, hh_i6]) ?_)))
  ·rw [if_neg (of_decide_eq_false hc)] at e
   subst e
   simp only [vsAll, loadA, loadRow, partA, partOk, cellA, opA, newCells, okCells, storeObj, dstOk, resA, retA.eq_1, Nat.reduceAdd, Nat.reduceLT, Nat.reduceEqDiff, ↓reduceIte, eq_self, wtAll, Try.results93, hh_i6]
   exact dropR_pure rfl (by (repeat (first | exact HSub_rfl | refine HSub_put_eq (by simp only [vsAll, binA, binLitA, intA, aggA, aggV, boolA, nilA2, isConst, unA, loadA, loadRow, partA, partOk, fieldAddrA, indexAddrA, indexA, fieldA, extractA, lenA, nilCheckA, boxA, boxZ, cellA, cellsA, fillA, okParts, buildSliceA, buildMutA, makeSliceA, partIdx, elemsA, lensA, ifaceA, convA, mmA, pickA, okAll, stAll, opsA, partsA, partsOk, opA, allocA, boxMutA, newCells, okCells, storeObj, appendA, guardV, taA, nM, mapUpA, rangeA, nextA, entryA, lookA, sliceA, sliceM, sliceS, boundsA, opO, okO, copyA, dstOk, nilA, quietOk, nilSliceOp, deferV, panA, resA, argFr, retA.eq_1, retA.eq_2, Nat.reduceAdd, Nat.reduceSub, Nat.reduceMul, Nat.reduceLT, Nat.reduceLeDiff, Nat.reduceEqDiff, Nat.reduceBEq, Int.reduceAdd, Int.reduceSub, Int.reduceMul, Int.reduceNeg, Int.reduceLE, Int.reduceLT, Int.reduceEq, Int.reduceNe, Int.reduceToNat, ↓reduceIte, reduceCtorEq, implies_true, forall_const, eq_self, ne_eq, wtAll, Try.ntmps93, Try.results93, hh_i3, hh_i6]) ?_ | refine HSub_drop2 (by simp only [eq_self, hh_i3, hh_i6]) ?_ | refine HSub_keep_eq (by simp only [vsAll, binA, binLitA, intA, aggA, aggV, boolA, nilA2, isConst, unA, loadA, loadRow, partA, partOk, fieldAddrA, indexAddrA, indexA, fieldA, extractA, lenA, nilCheckA, boxA, boxZ, cellA, cellsA, fillA, okParts, buildSliceA, buildMutA, makeSliceA, partIdx, elemsA, lensA, ifaceA, convA, mmA, pickA, okAll, stAll, opsA, partsA, partsOk, opA, allocA, boxMutA, newCells, okCells, storeObj, appendA, guardV, taA, nM, mapUpA, rangeA, nextA, entryA, lookA, sliceA, sliceM, sliceS, boundsA, opO, okO, copyA, dstOk, nilA, quietOk, nilSliceOp, deferV, panA, resA, argFr, retA.eq_1, retA.eq_2, Nat.reduceAdd, Nat.reduceSub, Nat.reduceMul, Nat.reduceLT, Nat.reduceLeDiff, Nat.reduceEqDiff, Nat.reduceBEq, Int.reduceAdd, Int.reduceSub, Int.reduceMul, Int.reduceNeg, Int.reduceLE, Int.reduceLT, Int.reduceEq, Int.reduceNe, Int.reduceToNat, ↓reduceIte, reduceCtorEq, implies_true, forall_const, eq_self, ne_eq, wtAll, Try.ntmps93, Try.results93, hh_i3, hh_i6]) ?_)))
 ·simp only [if_true] at e
  refine condV (fun _ => ?_) (fun h => by cases h)
  simp only [vsAll, binA, binLitA, intA, loadA, loadRow, partA, partOk, fieldAddrA, cellA, cellsA, fillA, okParts, partsA, partsOk, opA, newCells, okCells, storeObj, dstOk, argFr, Nat.reduceAdd, Nat.reduceLT, Nat.reduceLeDiff, Nat.reduceEqDiff, ↓reduceIte, eq_self, wtAll, hh_i6]
  refine ⟨by simp only [InR_i64]; ((try clear hh_i3 hh_i6); omega), condV (fun hc => ?_) (fun hc => ?_)⟩
  ·rw [if_pos (by have := of_decide_eq_true hc; ((try clear hh_i3 hh_i6); omega))] at e
   subst e
   simp only [vsAll, loadA, loadRow, partA, partOk, fieldAddrA, cellA, cellsA, opA, newCells, okCells, storeObj, dstOk, resA, retA.eq_1, Nat.reduceAdd, Nat.reduceLT, Nat.reduceLeDiff, Nat.reduceEqDiff, ↓reduceIte, eq_self, wtAll, Try.results93, hh_i6, Int.natCast_zero]
   exact dropR_pure rfl (by (repeat (first | exact HSub_rfl | refine HSub_put_eq (by simp only [vsAll, binA, binLitA, intA, aggA, aggV, boolA, nilA2, isConst, unA, loadA, loadRow, partA, partOk, fieldAddrA, indexAddrA, indexA, fieldA, extractA, lenA, nilCheckA, boxA, boxZ, cellA, cellsA, fillA, okParts, buildSliceA, buildMutA, makeSliceA, partIdx, elemsA, lensA, ifaceA, convA, mmA, pickA, okAll, stAll, opsA, partsA, partsOk, opA, allocA, boxMutA, newCells, okCells, storeObj, appendA, guardV, taA, nM, mapUpA, rangeA, nextA, entryA, lookA, sliceA, sliceM, sliceS, boundsA, opO, okO, copyA, dstOk, nilA, quietOk, nilSliceOp, deferV, panA, resA, argFr, retA.eq_1, retA.eq_2, Nat.reduceAdd, Nat.reduceSub, Nat.reduceMul, Nat.reduceLT, Nat.reduceLeDiff, Nat.reduceEqDiff, Nat.reduceBEq, Int.reduceAdd, Int.reduceSub, Int.reduceMul, Int.reduceNeg, Int.reduceLE, Int.reduceLT, Int.reduceEq, Int.reduceNe, Int.reduceToNat, ↓reduceIte, reduceCtorEq, implies_true, forall_const, eq_self, ne_eq, wtAll, Try.ntmps93, Try.results93, hh_i3, hh_i6]) ?_ | refine HSub_drop2 (by simp only [eq_self, hh_i3, hh_i6]) ?_ | refine HSub_keep_eq (by simp only [vsAll, binA, binLitA, intA, aggA, aggV, boolA, nilA2, isConst, unA, loadA, loadRow, partA, partOk, fieldAddrA, indexAddrA, indexA, fieldA, extractA, lenA, nilCheckA, boxA, boxZ, cellA, cellsA, fillA, okParts, buildSliceA, buildMutA, makeSliceA, partIdx, elemsA, lensA, ifaceA, convA, mmA, pickA, okAll, stAll, opsA, partsA, partsOk, opA, allocA, boxMutA, newCells, okCells, storeObj, appendA, guardV, taA, nM, mapUpA, rangeA, nextA, entryA, lookA, sliceA, sliceM, sliceS, boundsA, opO, okO, copyA, dstOk, nilA, quietOk, nilSliceOp, deferV, panA, resA, argFr, retA.eq_1, retA.eq_2, Nat.reduceAdd, Nat.reduceSub, Nat.reduceMul, Nat.reduceLT, Nat.reduceLeDiff, Nat.reduceEqDiff, Nat.reduceBEq, Int.reduceAdd, Int.reduceSub, Int.reduceMul, Int.reduceNeg, Int.reduceLE, Int.reduceLT, Int.reduceEq, Int.reduceNe, Int.reduceToNat, ↓reduceIte, reduceCtorEq, implies_true, forall_const, eq_self, ne_eq, wtAll, Try.ntmps93, Try.results93, hh_i3, hh_i6]) ?_)))
  ·rw [if_neg (by have := of_decide_eq_false hc; ((try clear hh_i3 hh_i6); omega))] at e
   subst e
   simp only [vsAll, loadA, loadRow, partA, partOk, cellA, opA, newCells, okCells, storeObj, dstOk, resA, retA.eq_1, Nat.reduceAdd, Nat.reduceLT, Nat.reduceEqDiff, ↓reduceIte, eq_self, wtAll, Try.results93, hh_i6, Int.natCast_zero, Int.natCast_add, Int.natCast_one]
   exact dropR_pure rfl (by (repeat (first | exact HSub_rfl | refine HSub_put_eq (by simp only [vsAll, binA, binLitA, intA, aggA, aggV, boolA, nilA2, isConst, unA, loadA, loadRow, partA, partOk, fieldAddrA, indexAddrA, indexA, fieldA, extractA, lenA, nilCheckA, boxA, boxZ, cellA, cellsA, fillA, okParts, buildSliceA, buildMutA, makeSliceA, partIdx, elemsA, lensA, ifaceA, convA, mmA, pickA, okAll, stAll, opsA, partsA, partsOk, opA, allocA, boxMutA, newCells, okCells, storeObj, appendA, guardV, taA, nM, mapUpA, rangeA, nextA, entryA, lookA, sliceA, sliceM, sliceS, boundsA, opO, okO, copyA, dstOk, nilA, quietOk, nilSliceOp, deferV, panA, resA, argFr, retA.eq_1, retA.eq_2, Nat.reduceAdd, Nat.reduceSub, Nat.reduceMul, Nat.reduceLT, Nat.reduceLeDiff, Nat.reduceEqDiff, Nat.reduceBEq, Int.reduceAdd, Int.reduceSub, Int.reduceMul, Int.reduceNeg, Int.reduceLE, Int.reduceLT, Int.reduceEq, Int.reduceNe, Int.reduceToNat, ↓reduceIte, reduceCtorEq, implies_true, forall_const, eq_self, ne_eq, wtAll, Try.ntmps93, Try.results93, hh_i3, hh_i6]) ?_ | refine HSub_drop2 (by simp only [eq_self, hh_i3, hh_i6]) ?_ | refine HSub_keep_eq (by simp only [vsAll, binA, binLitA, intA, aggA, aggV, boolA, nilA2, isConst, unA, loadA, loadRow, partA, partOk, fieldAddrA, indexAddrA, indexA, fieldA, extractA, lenA, nilCheckA, boxA, boxZ, cellA, cellsA, fillA, okParts, buildSliceA, buildMutA, makeSliceA, partIdx, elemsA, lensA, ifaceA, convA, mmA, pickA, okAll, stAll, opsA, partsA, partsOk, opA, allocA, boxMutA, newCells, okCells, storeObj, appendA, guardV, taA, nM, mapUpA, rangeA, nextA, entryA, lookA, sliceA, sliceM, sliceS, boundsA, opO, okO, copyA, dstOk, nilA, quietOk, nilSliceOp, deferV, panA, resA, argFr, retA.eq_1, retA.eq_2, Nat.reduceAdd, Nat.reduceSub, Nat.reduceMul, Nat.reduceLT, Nat.reduceLeDiff, Nat.reduceEqDiff, Nat.reduceBEq, Int.reduceAdd, Int.reduceSub, Int.reduceMul, Int.reduceNeg, Int.reduceLE, Int.reduceLT, Int.reduceEq, Int.reduceNe, Int.reduceToNat, ↓reduceIte, reduceCtorEq, implies_true, forall_const, eq_self, ne_eq, wtAll, Try.ntmps93, Try.results93, hh_i3, hh_i6]) ?_)))
theorem meth128o : methT Try.prog 128 "caulkworks/pump.of" 166 := fun v args w => by kernel_rfl
theorem meth128s : methT Try.prog 128 "caulkworks/pump.strength" 167 := fun v args w => by kernel_rfl
theorem meth178o : methT Try.prog 178 "caulkworks/pump.of" 169 := fun v args w => by kernel_rfl
theorem meth178s : methT Try.prog 178 "caulkworks/pump.strength" 170 := fun v args w => by kernel_rfl
def trT (b : Bool) : Nat := if b = true then 128 else 178
def strT (b : Bool) : Nat := if b = true then 167 else 170
/-- The pump, in one of the two truths, with so much more in each hour. -/
abbrev pmC (p : Pu) (b : Bool) (m : Int) : List AV := [spansAV p.fl, i64 p.ca, wsAV p.ws, flAV p.ho.n p.ho.fl, sdAV p.ho.m p.ho.sd, .iface (trT b) (.agg []), i64 (startV p true), i64 (startV p false), i64 m]
abbrev PmAt (p : Pu) (b : Bool) (m : Int) (id : Nat) (H : Hp) : Prop := H id = some (.box 9 1 fun _ => pmC p b m)
/-- How it is after so many hours of a plan. -/
def menV (p : Pu) (l : List Int) (i w : Nat) : Nat × Nat := if w < p.ws.length then capM (doneW (p.wt w).re l w i) else (0, 0)
abbrev dkC (p : Pu) (l : List Int) (b : Bool) (m : Int) (i : Nat) : List AV := [i64 i, i64 (menV p l i 0).1, i64 (menV p l i 0).2, i64 (menV p l i 1).1, i64 (menV p l i 1).2, i64 (menV p l i 2).1, i64 (menV p l i 2).2, i64 (watV (moreP p m) l b i)]
theorem of_tri (b : Bool) (x y : Int) (H : Hp) : PTri Try.prog (.func (.func (if b = true then 166 else 169)) [] []) [.agg [], .agg [i64 x, i64 y]] H (i64 (if b = true then x else y)) := by
 cases b
 ·show PTri Try.prog (fnA 169) _ H (i64 y)
  refine tri_v0 (fun _ => false) Try.func169 (by kernel_rfl) rfl (by simp only [List.length_append, List.length_cons, List.length_nil, Try.ntmps169]; decide) ?_
  simp only [vsAll, loadA, loadRow, partA, partOk, fieldAddrA, boxA, boxZ, opA, dstOk, nilSliceOp, resA, argFr, retA.eq_1, Nat.reduceAdd, Nat.reduceLT, Nat.reduceEqDiff, ↓reduceIte, eq_self, wtAll, Try.ntmps169, Try.results169]
 ·show PTri Try.prog (fnA 166) _ H (i64 x)
  refine tri_v0 (fun _ => false) Try.func166 (by kernel_rfl) rfl (by simp only [List.length_append, List.length_cons, List.length_nil, Try.ntmps166]; decide) ?_
  simp only [vsAll, loadA, loadRow, partA, partOk, fieldAddrA, boxA, boxZ, opA, dstOk, nilSliceOp, resA, argFr, retA.eq_1, Nat.reduceAdd, Nat.reduceLT, Nat.reduceEqDiff, ↓reduceIte, eq_self, wtAll, Try.ntmps166, Try.results166]
theorem stren_tri (b : Bool) (w : Wt) (H : Hp) : PTri Try.prog (.func (.func (if b = true then 167 else 170)) [] []) [.agg [], .agg w.cs] H (i64 (if b = true then w.hi else w.lo)) := by
 cases b
 ·show PTri Try.prog (fnA 170) _ H (i64 w.lo)
  refine tri_v0 (fun _ => false) Try.func170 (by kernel_rfl) rfl (by simp only [List.length_append, List.length_cons, List.length_nil, Try.ntmps170]; decide) ?_
  simp only [vsAll, loadA, loadRow, partA, partOk, fieldAddrA, boxA, boxZ, opA, dstOk, nilSliceOp, resA, argFr, retA.eq_1, Nat.reduceAdd, Nat.reduceLT, Nat.reduceEqDiff, ↓reduceIte, eq_self, wtAll, Try.ntmps170, Try.results170]
 ·show PTri Try.prog (fnA 167) _ H (i64 w.hi)
  refine tri_v0 (fun _ => false) Try.func167 (by kernel_rfl) rfl (by simp only [List.length_append, List.length_cons, List.length_nil, Try.ntmps167]; decide) ?_
  simp only [vsAll, loadA, loadRow, partA, partOk, fieldAddrA, boxA, boxZ, opA, dstOk, nilSliceOp, resA, argFr, retA.eq_1, Nat.reduceAdd, Nat.reduceLT, Nat.reduceEqDiff, ↓reduceIte, eq_self, wtAll, Try.ntmps167, Try.results167]
end Go.Proofs.Ytclkjifgipcamaa.Pm
end
section
set_option linter.unusedVariables false
set_option linter.unusedSimpArgs false
set_option maxHeartbeats 4000000
set_option maxRecDepth 100000
namespace Go.Proofs.Ytclkjifgipcamaa.Pm
open Go.V Wl
/-- A method of a truth, called. -/
theorem ofm_tri (b : Bool) (x y : Int) (H : Hp) : PTri Try.prog (.func (.method "caulkworks/pump.of") [] []) [.iface (trT b) (.agg []), .agg [i64 x, i64 y]] H (i64 (if b = true then x else y)) := by
 cases b
 ·exact tri_inv meth178o (of_tri false x y H)
 ·exact tri_inv meth128o (of_tri true x y H)
theorem strm_tri (b : Bool) (w : Wt) (H : Hp) : PTri Try.prog (.func (.method "caulkworks/pump.strength") [] []) [.iface (trT b) (.agg []), .agg w.cs] H (i64 (if b = true then w.hi else w.lo)) := by
 cases b
 ·exact tri_inv meth178s (stren_tri false w H)
 ·exact tri_inv meth128s (stren_tri true w H)
theorem begin_tri (p : Pu) (l : List Int) (b : Bool) (m : Int) (id : Nat) (H : Hp) (ho : PmAt p b m id H) : PTri Try.prog (fnA 46) [.ref id 0 9 0 0] H (.agg (dkC p l b m 0)) := by
 have e0 : watV (moreP p m) l b 0 = if b = true then startV p true else startV p false := by cases b <;> rfl
 have em : ∀ w, menV p l 0 w = (0, 0) := fun w => by unfold menV; split <;> rfl
 refine Tri.drop ?_
 refine tri_v0 (fun _ => false) Try.func46 (by kernel_rfl) rfl (by simp only [List.length_append, List.length_cons, List.length_nil, Try.ntmps46]; decide) ?_
 skip
 simp only [vsAll, allocA, dstOk, Nat.reduceAdd, Nat.reduceLT, eq_self, wtAll, Try.ntmps46]
 intro i2 hh_i2; (try simp only [Hp.set_none, ite_none] at hh_i2)
 have n1 := ne_some hh_i2 ho
 skip
 refine vs_draw2 [0, 0, 0, 0, 0, 0, 0, 0, 0, 0, 0, 0, 1] [([0, 1, 2, 3, 4, 5, 6, 7, 8, 9, 10, 11], [], 12)] [] (by decide +kernel) ?_
 simp only [vsAll, loadA, loadRow, partA, partOk, fieldAddrA, nilCheckA, opA, dstOk, argFr, Nat.reduceAdd, Nat.reduceLT, Nat.reduceLeDiff, Nat.reduceEqDiff, ↓reduceIte, reduceCtorEq, eq_self, wtAll, ho, n1]
 refine qcall _ ⟨trivial, by simp only [vsAll, okAll, opsA, opA, Nat.reduceEqDiff, ↓reduceIte, eq_self], ofm_tri b (startV p true) (startV p false) _⟩ ?_
 simp only [vsAll, loadA, loadRow, partA, partOk, cellA, cellsA, fillA, okParts, partsA, partsOk, opA, newCells, okCells, storeObj, dstOk, resA, retA.eq_1, Nat.reduceAdd, Nat.reduceLT, Nat.reduceEqDiff, ↓reduceIte, eq_self, wtAll, Try.results46]
 rw [← e0]
 refine dropR_pure ?_ (by (repeat (first | exact HSub_rfl | refine HSub_put_eq (by simp only [vsAll, binA, binLitA, intA, aggA, aggV, boolA, nilA2, isConst, unA, loadA, loadRow, partA, partOk, fieldAddrA, indexAddrA, indexA, fieldA, extractA, lenA, nilCheckA, boxA, boxZ, cellA, cellsA, fillA, okParts, buildSliceA, buildMutA, makeSliceA, partIdx, elemsA, lensA, ifaceA, convA, mmA, pickA, okAll, stAll, opsA, partsA, partsOk, opA, allocA, boxMutA, newCells, okCells, storeObj, appendA, guardV, taA, nM, mapUpA, rangeA, nextA, entryA, lookA, sliceA, sliceM, sliceS, boundsA, opO, okO, copyA, dstOk, nilA, quietOk, nilSliceOp, deferV, panA, resA, argFr, retA.eq_1, retA.eq_2, Nat.reduceAdd, Nat.reduceSub, Nat.reduceMul, Nat.reduceLT, Nat.reduceLeDiff, Nat.reduceEqDiff, Nat.reduceBEq, Int.reduceAdd, Int.reduceSub, Int.reduceMul, Int.reduceNeg, Int.reduceLE, Int.reduceLT, Int.reduceEq, Int.reduceNe, Int.reduceToNat, ↓reduceIte, reduceCtorEq, implies_true, forall_const, eq_self, ne_eq, wtAll, Try.ntmps46, Try.results46, ho, hh_i2, n1]) ?_ | refine HSub_drop2 (by simp only [eq_self, hh_i2]) ?_ | refine HSub_keep_eq (by simp only [vsAll, binA, binLitA, intA, aggA, aggV, boolA, nilA2, isConst, unA, loadA, loadRow, partA, partOk, fieldAddrA, indexAddrA, indexA, fieldA, extractA, lenA, nilCheckA, boxA, boxZ, cellA, cellsA, fillA, okParts, buildSliceA, buildMutA, makeSliceA, partIdx, elemsA, lensA, ifaceA, convA, mmA, pickA, okAll, stAll, opsA, partsA, partsOk, opA, allocA, boxMutA, newCells, okCells, storeObj, appendA, guardV, taA, nM, mapUpA, rangeA, nextA, entryA, lookA, sliceA, sliceM, sliceS, boundsA, opO, okO, copyA, dstOk, nilA, quietOk, nilSliceOp, deferV, panA, resA, argFr, retA.eq_1, retA.eq_2, Nat.reduceAdd, Nat.reduceSub, Nat.reduceMul, Nat.reduceLT, Nat.reduceLeDiff, Nat.reduceEqDiff, Nat.reduceBEq, Int.reduceAdd, Int.reduceSub, Int.reduceMul, Int.reduceNeg, Int.reduceLE, Int.reduceLT, Int.reduceEq, Int.reduceNe, Int.reduceToNat, ↓reduceIte, reduceCtorEq, implies_true, forall_const, eq_self, ne_eq, wtAll, Try.ntmps46, Try.results46, ho, hh_i2, n1]) ?_)))
 simp only [dkC, em, Int.natCast_zero]
/-- What a watch pumps out. -/
theorem out_tri (p : Pu) (l : List Int) (b : Bool) (m : Int) (i : Nat) (w : Int) (id : Nat) (H : Hp) (k : Ok p) (ho : PmAt p b m id H) (hi : i ≤ 8) (hw : -1 ≤ w ∧ w < p.ws.length) :
  PTri Try.prog (fnA 92) [.ref id 0 9 0 0, .agg (dkC p l b m i), i64 w] H (i64 (if w < 0 then 0 else max 0 (freshV p w.toNat b - (p.wt w.toNat).ti * (wornV p l w.toNat i : Nat)))) := by
 have nW := k.nW
 refine Tri.drop ?_
 refine tri_v0 (fun _ => false) Try.func92 (by kernel_rfl) rfl (by simp only [List.length_append, List.length_cons, List.length_nil, Try.ntmps92]; decide) ?_
 skip
 simp only [vsAll, binA, binLitA, intA, boxA, boxZ, opA, dstOk, nilSliceOp, argFr, Nat.reduceAdd, Nat.reduceLT, Nat.reduceEqDiff, ↓reduceIte, eq_self, wtAll, Try.ntmps92]
 refine condV (fun hc => ?_) (fun hc => ?_)
 ·rw [if_pos (of_decide_eq_true hc)]
  simp only [vsAll, opA, dstOk, nilSliceOp, resA, retA.eq_1, Nat.reduceLT, ↓reduceIte, eq_self, Try.results92]
  exact dropR_pure rfl HSub_rfl
 ·have hc := of_decide_eq_false hc
  rw [if_neg hc]
  obtain ⟨v, rfl⟩ : ∃ v : Nat, w = (v : Int) := ⟨w.toNat, by ((try clear ho); omega)⟩
  have hv : v < p.ws.length := by ((try clear ho); omega)
  have hk := k.m.wt hv
  rw [Int.toNat_natCast]
  have hle := (doneW_le (p.wt v).re l v i).1
  have hp := wt_prod (n := wornV p l v i) hk.2.1 (by unfold wornV; ((try clear ho); omega))
  have ewt : p.ws.getD v wt0 = p.wt v := rfl
  have hv3 : v = 0 ∨ v = 1 ∨ v = 2 := by ((try clear ho); omega)
  have em : (menV p l i v).1 = wornV p l v i := by unfold menV; rw [if_pos hv]; rfl
  simp only [vsAll]
  refine vs_draw2 [0, 0, 0, 0, 0, 0, 0, 0, 0, 0, 0, 0, 0, 0, 0, 0, 0, 0, 0, 0, 0, 0, 0, 0, 0, 0, 0, 0, 0, 0, 0, 0, 0] [] [0, 1, 2, 3, 4, 5, 6, 7, 8, 9, 10, 11, 12, 13, 14, 15, 16, 17, 18, 19, 20, 21, 22, 23, 24, 25, 26, 27, 28, 29, 30, 31, 32] (by decide +kernel) ?_
  simp only [vsAll, loadA, loadRow, partA, partOk, fieldAddrA, indexAddrA, nilCheckA, opA, dstOk, argFr, Nat.reduceLT, Nat.reduceEqDiff, ↓reduceIte, reduceCtorEq, eq_self, wtAll, ho, wsF_at, ewt]
  refine ⟨⟨by ((try clear ho); omega), by ((try clear ho); omega)⟩, hv, ?_⟩
  refine qcall _ ⟨trivial, by simp only [vsAll, okAll, opsA, opA, Nat.reduceEqDiff, ↓reduceIte, eq_self], strm_tri b (p.wt v) _⟩ ?_
  have efr : (if b = true then (p.wt v).hi else (p.wt v).lo) = freshV p v b := rfl
  have hfr : 0 ≤ freshV p v b ∧ freshV p v b ≤ 40 := by unfold freshV; split <;> ((try clear ho); omega)
  rw [efr]
  generalize freshV p v b = F at hfr ⊢
  have ecell : (List.drop (1 + v * 2) (dkC p l b m i)).getD 0 AV.any = i64 (wornV p l v i : Nat) := by
   rw [← em]
   rcases hv3 with rfl | rfl | rfl <;> rfl
  simp only [vsAll, binA, binLitA, intA, loadA, loadRow, partA, partOk, fieldAddrA, indexAddrA, nilCheckA, cellA, cellsA, okParts, buildSliceA, partIdx, elemsA, lensA, partsA, partsOk, opA, dstOk, argFr, Nat.reduceMul, Nat.reduceLT, Nat.reduceLeDiff, Nat.reduceEqDiff, ↓reduceIte, reduceCtorEq, eq_self, wtAll, ho, wsF_at, ewt, ecell]
  refine ⟨⟨by ((try clear ho); omega), by ((try clear ho); omega)⟩, hv, ⟨by ((try clear ho); omega), by ((try clear ho); omega)⟩, by ((try clear ho); omega), by simp only [InR_i64]; ((try clear ho); omega), ?_⟩
  refine qcall _ ⟨trivial, by simp only [vsAll, okAll, opsA, opA, Nat.reduceEqDiff, ↓reduceIte, eq_self], left_tri F ((p.wt v).ti * (wornV p l v i : Nat)) _ (by ((try clear ho); omega)) (by ((try clear ho); omega))⟩ ?_
  simp only [vsAll, opA, dstOk, resA, retA.eq_1, Nat.reduceLT, ↓reduceIte, eq_self, Try.results92]
  exact dropR_pure rfl HSub_rfl
theorem floats_tri (p : Pu) (l : List Int) (b : Bool) (m : Int) (i : Nat) (id : Nat) (H : Hp) (ho : PmAt p b m id H) :
  PTri Try.prog (fnA 49) [.ref id 0 9 0 0, .agg (dkC p l b m i)] H (boo (decide (watV (moreP p m) l b i ≤ p.ca))) := by
 refine Tri.drop ?_
 refine tri_v0 (fun _ => false) Try.func49 (by kernel_rfl) rfl (by simp only [List.length_append, List.length_cons, List.length_nil, Try.ntmps49]; decide) ?_
 skip
 simp only [vsAll, boxA, boxZ, opA, dstOk, nilSliceOp, argFr, Nat.reduceAdd, Nat.reduceLT, eq_self, wtAll, Try.ntmps49]
 refine vs_draw2 [0, 0, 0, 0, 0, 0, 0, 0, 0] [] [0, 1, 2, 3, 4, 5, 6, 7, 8] (by decide +kernel) ?_
 simp only [vsAll, binA, binLitA, intA, loadA, loadRow, partA, partOk, fieldAddrA, nilCheckA, opA, dstOk, resA, argFr, retA.eq_1, Nat.reduceLT, Nat.reduceEqDiff, ↓reduceIte, reduceCtorEq, eq_self, wtAll, Try.results49, ho]
 exact dropR_pure rfl HSub_rfl
/-- Men, of whom the first ones have an hour more. -/
def mq (p : Pu) (l : List Int) (i q w : Nat) : Nat × Nat := if w < q then menV p l (i + 1) w else menV p l i w
abbrev dqC (p : Pu) (l : List Int) (b : Bool) (m : Int) (i q : Nat) : List AV := [i64 i, i64 (mq p l i q 0).1, i64 (mq p l i q 0).2, i64 (mq p l i q 1).1, i64 (mq p l i q 1).2, i64 (mq p l i q 2).1, i64 (mq p l i q 2).2, i64 (watV (moreP p m) l b (i + 1))]
theorem mq_zero (p : Pu) (l : List Int) (i w : Nat) : mq p l i 0 w = menV p l i w := by unfold mq; rw [if_neg (Nat.not_lt_zero w)]
theorem mq_all (p : Pu) (l : List Int) (i w : Nat) : mq p l i p.ws.length w = menV p l (i + 1) w := by
 unfold mq
 by_cases h : w < p.ws.length
 ·rw [if_pos h]
 ·rw [if_neg h, menV, menV, if_neg h, if_neg h]
theorem next_tri (p : Pu) (l : List Int) (b : Bool) (m : Int) (i : Nat) (w : Int) (id : Nat) (H : Hp) (k : Ok p) (hA : 0 < (allA p.ho).length) (ho : PmAt p b m id H) (hi : i < p.fl.length) (hw : -1 ≤ w ∧ w < p.ws.length) (hl : l.getD i (-1) = w) (hm : 0 ≤ m ∧ m ≤ 40) :
  PTri Try.prog (fnA 48) [.ref id 0 9 0 0, .agg (dkC p l b m i), i64 w] H (.agg (dkC p l b m (i + 1))) := by
 have nW := k.nW
 have nF := k.nF
 have hfk := k.f i hi
 unfold okF at hfk
 have hfr := more_flow k hm (q := i + 1) (by omega) i b (by omega)
 have hwr := wat_rng (more_flow k hm (q := i + 1) (by omega)) l b i (by omega)
 have eflow : flowV (moreP p m) i b = (if b = true then (p.fl.getD i (0, 0)).1 else (p.fl.getD i (0, 0)).2) + m := by
  unfold flowV
  rw [more_at p m hi]
  split <;> rfl
 have estr : strV (moreP p m) l i b = if w < 0 then 0 else max 0 (freshV p w.toNat b - (p.wt w.toNat).ti * (wornV p l w.toNat i : Nat)) := by
  show strV p l i b = _
  unfold strV
  rw [hl]
 have hsr := str_nn p l i b
 have hsr : 0 ≤ strV (moreP p m) l i b ∧ strV (moreP p m) l i b ≤ 100 := by
  rw [estr]
  split
  ·omega
  ·rename_i hc
   have hk := k.m.wt (w := w.toNat) (by omega)
   have hle := (doneW_le (p.wt w.toNat).re l w.toNat i).1
   have hp := wt_prod (n := wornV p l w.toNat i) hk.2.1 (by unfold wornV; omega)
   have : freshV p w.toNat b ≤ 40 := by unfold freshV; split <;> omega
   omega
 have ewat : watV (moreP p m) l b (i + 1) = max 0 (watV (moreP p m) l b i + flowV (moreP p m) i b - strV (moreP p m) l i b) := rfl
 refine Tri.drop ?_
 refine tri_v0 (mset [4]) Try.func48 (by kernel_rfl) rfl (by simp only [List.length_append, List.length_cons, List.length_nil, Try.ntmps48]; decide) ?_
 skip
 simp only [vsAll, opA, allocA, boxMutA, dstOk, argFr, Nat.reduceAdd, Nat.reduceLT, Nat.reduceBEq, eq_self, wtAll, Try.ntmps48]
 intro i4 hh_i4; (try simp only [Hp.set_none, ite_none] at hh_i4); intro i6 hh_i6; (try simp only [ite_none] at hh_i6)
 have n1 := ne_some hh_i4 ho
 have n2 := ne_some hh_i6.2 ho
 have ho2 : ∀ X Y, PmAt p b m id ((H.set i4 X).set i6 Y) := fun X Y => by
  show ((H.set i4 X).set i6 Y) id = _
  rw [Hp.set_ne _ _ (by simp_all), Hp.set_ne _ _ (by simp_all)]; exact ho
 skip
 refine vs_draw2 [0, 0, 0, 0, 0, 0, 0, 0, 0, 0, 0, 0, 0, 0, 0, 0, 0, 0, 0, 0, 0, 0, 0, 0, 0, 0, 0, 0, 0, 0, 0, 1] [([0, 1, 2, 3, 4, 5, 6, 7, 8, 9, 10, 11, 12, 13, 14, 15, 16, 17, 18, 19, 20, 21, 22, 23, 24, 25, 26, 27, 28, 29, 30], [], 31)] [] (by decide +kernel) ?_
 simp only [vsAll, loadA, loadRow, partA, partOk, fieldAddrA, indexAddrA, nilCheckA, opA, dstOk, argFr, Nat.reduceLT, Nat.reduceEqDiff, ↓reduceIte, reduceCtorEq, eq_self, wtAll, ho, hh_i6, n1, n2, spanF_at]
 refine ⟨⟨by ((try clear ho hh_i4 hh_i6 n1 n2); omega), by ((try clear ho hh_i4 hh_i6 n1 n2); omega)⟩, hi, ?_⟩
 refine qcall _ ⟨trivial, by simp only [vsAll, okAll, opsA, opA, Nat.reduceEqDiff, ↓reduceIte, eq_self], ofm_tri b (p.fl.getD i (0, 0)).1 (p.fl.getD i (0, 0)).2 _⟩ ?_
 generalize hfl : (if b = true then (p.fl.getD i (0, 0)).1 else (p.fl.getD i (0, 0)).2) = fl at eflow ⊢
 have hflr : 0 ≤ fl ∧ fl ≤ 40 := by rw [← hfl]; split <;> ((try clear ho hh_i4 hh_i6 n1 n2); omega)
 simp only [vsAll, binA, binLitA, intA, loadA, loadRow, partA, partOk, fieldAddrA, nilCheckA, opA, dstOk, argFr, Nat.reduceLT, Nat.reduceEqDiff, ↓reduceIte, reduceCtorEq, eq_self, wtAll, ho, hh_i6, n1, n2]
 refine ⟨by simp only [InR_i64]; ((try clear ho hh_i4 hh_i6 n1 n2); omega), by simp only [InR_i64]; ((try clear ho hh_i4 hh_i6 n1 n2); omega), ?_⟩
 refine qcall _ ⟨trivial, by simp only [vsAll, okAll, opsA, opA, Nat.reduceEqDiff, ↓reduceIte, eq_self], out_tri p l b m i w id _ k (ho2 _ _) (by ((try clear ho hh_i4 hh_i6 n1 n2); omega)) hw⟩ ?_
 rw [← estr]
 simp only [vsAll, cellA, cellsA, okParts, buildSliceA, partIdx, elemsA, lensA, partsA, partsOk, opA, dstOk, Nat.reduceMul, Nat.reduceLT, Nat.reduceLeDiff, ↓reduceIte, eq_self, wtAll]
 refine qcall _ ⟨trivial, by simp only [vsAll, okAll, opsA, opA, Nat.reduceEqDiff, ↓reduceIte, eq_self], left_tri (watV (moreP p m) l b i + fl + m) (strV (moreP p m) l i b) _ (by ((try clear ho hh_i4 hh_i6 n1 n2); omega)) (by ((try clear ho hh_i4 hh_i6 n1 n2); omega))⟩ ?_
 have ew : max 0 (watV (moreP p m) l b i + fl + m - strV (moreP p m) l i b) = watV (moreP p m) l b (i + 1) := by rw [ewat, eflow, Int.add_assoc]
 rw [ew]
 simp only [vsAll, loadA, loadRow, partA, partOk, fieldAddrA, lenA, nilCheckA, cellA, cellsA, opA, newCells, okCells, storeObj, dstOk, argFr, Nat.reduceAdd, Nat.reduceLT, Nat.reduceEqDiff, ↓reduceIte, reduceCtorEq, eq_self, wtAll, ho, hh_i6, n1, n2]
 refine vs_loop (σ := Nat) (fun q => q ≤ p.ws.length) (fun q => [(2, i64 w), (4, .ref i4 0 8 0 0), (6, .ref i6 0 8 0 0), (44, wsAV p.ws), (45, i64 p.ws.length), (46, i64 q)])
  (fun q => (H.set i4 (.box 8 1 fun _ => dqC p l b m i q)).set i6 (.box 8 1 fun _ => [i64 0, i64 0, i64 0, i64 0, i64 0, i64 0, i64 0, i64 0])) (fun q => p.ws.length - q) 0 (Nat.zero_le _) ?_ ?_ fun q hq => ?_
 ·simp only [vsAll, argFr, Nat.reduceEqDiff, ↓reduceIte, eq_self, Int.natCast_zero]
 ·simp only [dqC, mq_zero]
  (repeat (first | exact HSub_rfl | refine HSub_put_eq (by simp only [vsAll, ↓reduceIte, eq_self, hh_i6]) ?_ | refine HSub_drop2 (by simp only [eq_self, hh_i4, hh_i6]) ?_ | refine HSub_keep_eq (by simp only [vsAll, binA, binLitA, intA, aggA, aggV, boolA, nilA2, isConst, unA, loadA, loadRow, partA, partOk, fieldAddrA, indexAddrA, indexA, fieldA, extractA, lenA, nilCheckA, boxA, boxZ, cellA, cellsA, fillA, okParts, buildSliceA, buildMutA, makeSliceA, partIdx, elemsA, lensA, ifaceA, convA, mmA, pickA, okAll, stAll, opsA, partsA, partsOk, opA, allocA, boxMutA, newCells, okCells, storeObj, appendA, guardV, taA, nM, mapUpA, rangeA, nextA, entryA, lookA, sliceA, sliceM, sliceS, boundsA, opO, okO, copyA, dstOk, nilA, quietOk, nilSliceOp, deferV, panA, resA, argFr, retA.eq_1, retA.eq_2, Nat.reduceAdd, Nat.reduceSub, Nat.reduceMul, Nat.reduceLT, Nat.reduceLeDiff, Nat.reduceEqDiff, Nat.reduceBEq, Int.reduceAdd, Int.reduceSub, Int.reduceMul, Int.reduceNeg, Int.reduceLE, Int.reduceLT, Int.reduceEq, Int.reduceNe, Int.reduceToNat, ↓reduceIte, reduceCtorEq, implies_true, forall_const, eq_self, ne_eq, wtAll, Try.ntmps48, Try.results48, ho, hh_i4, hh_i6, n1, n2]) ?_))
 ·simp only [vsAll, binA, binLitA, intA, opA, dstOk, Nat.reduceLT, Nat.reduceEqDiff, ↓reduceIte, eq_self]
  refine condD (fun hd => ?_) (fun hd => ?_)
  ·have hqs : q < p.ws.length := by ((try clear ho hh_i4 hh_i6 n1 n2); omega)
   have hk := k.m.wt hqs
   have ewt : p.ws.getD q wt0 = p.wt q := rfl
   have hq3 : q = 0 ∨ q = 1 ∨ q = 2 := by ((try clear ho hh_i4 hh_i6 n1 n2); omega)
   have e1 : menV p l i q = capM (doneW (p.wt q).re l q i) := if_pos hqs
   have e2 : menV p l (i + 1) q = capM (stepW (p.wt q).re (decide ((q : Int) = w)) (doneW (p.wt q).re l q i)) := by
    unfold menV
    rw [if_pos hqs]
    have : doneW (p.wt q).re l q (i + 1) = stepW (p.wt q).re (decide (l.getD i (-1) = (q : Int))) (doneW (p.wt q).re l q i) := rfl
    rw [this, hl]
    congr 2
    exact decide_eq_decide.2 ⟨fun h => h.symm, fun h => h.symm⟩
   have hle := (doneW_le (p.wt q).re l q i).1
   have hcell : List.take 2 (List.drop (1 + q * 2) (dqC p l b m i q)) = [i64 (menV p l i q).1, i64 (menV p l i q).2] := by
    rcases hq3 with rfl | rfl | rfl <;> rfl
   simp only [vsAll, loadA, loadRow, partA, partOk, indexAddrA, cellA, opA, allocA, newCells, okCells, storeObj, dstOk, nilSliceOp, Nat.reduceAdd, Nat.reduceLT, Nat.reduceEqDiff, Nat.reduceBEq, ↓reduceIte, eq_self, wtAll, wsF_at, ewt]
   refine ⟨⟨by ((try clear ho hh_i4 hh_i6 n1 n2); omega), by ((try clear ho hh_i4 hh_i6 n1 n2); omega)⟩, hqs, ?_⟩
   intro i8 hh_i8; (try simp only [ite_none] at hh_i8)
   refine vs_draw2 [0, 0, 0, 0, 0, 0, 0, 0, 0, 0, 0, 0, 0, 1] [([0, 1, 2, 3, 4, 5, 6, 7, 8, 9, 10, 11, 12], [], 13)] [] (by decide +kernel) ?_
   simp only [vsAll, binA, binLitA, intA, loadA, loadRow, partA, partOk, fieldAddrA, indexAddrA, opA, dstOk, Nat.reduceLT, Nat.reduceLeDiff, Nat.reduceEqDiff, ↓reduceIte, eq_self, wtAll, hh_i6, hh_i8]
   rw [hcell, e1]
   refine ⟨⟨by ((try clear ho hh_i4 hh_i6 n1 n2 hh_i8); omega), by ((try clear ho hh_i4 hh_i6 n1 n2 hh_i8); omega)⟩, by ((try clear ho hh_i4 hh_i6 n1 n2 hh_i8); omega), ?_⟩
   refine qcall _ ⟨trivial, by simp only [vsAll, okAll, opsA, opA, Nat.reduceEqDiff, ↓reduceIte, eq_self], pumped_tri (doneW (p.wt q).re l q i) (decide ((q : Int) = w)) (p.wt q).re _ (by ((try clear ho hh_i4 hh_i6 n1 n2 hh_i8); omega)) (by ((try clear ho hh_i4 hh_i6 n1 n2 hh_i8); omega))⟩ ?_
   rw [← e2]
   simp only [vsAll, binA, binLitA, intA, fieldAddrA, indexAddrA, cellA, opA, newCells, okCells, storeObj, dstOk, Nat.reduceAdd, Nat.reduceLT, Nat.reduceLeDiff, Nat.reduceEqDiff, ↓reduceIte, eq_self, wtAll, hh_i6, hh_i8]
   have hup : List.take (1 + q * 2) (dqC p l b m i q) ++ [i64 (menV p l (i + 1) q).1, i64 (menV p l (i + 1) q).2] ++ List.drop (1 + q * 2) [i64 (mq p l i q 0).2, i64 (mq p l i q 1).1, i64 (mq p l i q 1).2, i64 (mq p l i q 2).1, i64 (mq p l i q 2).2, i64 (watV (moreP p m) l b (i + 1))] = dqC p l b m i (q + 1) := by
    rcases hq3 with rfl | rfl | rfl <;> rfl
   rw [hup]
   refine ⟨⟨by ((try clear ho hh_i4 hh_i6 n1 n2 hh_i8); omega), by ((try clear ho hh_i4 hh_i6 n1 n2 hh_i8); omega)⟩, by ((try clear ho hh_i4 hh_i6 n1 n2 hh_i8); omega), by simp only [InR_i64]; ((try clear ho hh_i4 hh_i6 n1 n2 hh_i8); omega), loop_next (q + 1) (by ((try clear ho hh_i4 hh_i6 n1 n2 hh_i8); omega)) (by ((try clear ho hh_i4 hh_i6 n1 n2 hh_i8); omega)) ?_ ?_⟩
   ·simp only [vsAll, Nat.reduceEqDiff, ↓reduceIte, eq_self, Int.natCast_add, Int.natCast_one]
   ·(repeat (first | exact HSub_rfl | refine HSub_put_eq (by simp only [vsAll, ↓reduceIte, eq_self, hh_i6, hh_i8]) ?_ | refine HSub_drop2 (by simp only [eq_self, hh_i4, hh_i6, hh_i8]) ?_ | refine HSub_keep_eq (by simp only [vsAll, binA, binLitA, intA, aggA, aggV, boolA, nilA2, isConst, unA, loadA, loadRow, partA, partOk, fieldAddrA, indexAddrA, indexA, fieldA, extractA, lenA, nilCheckA, boxA, boxZ, cellA, cellsA, fillA, okParts, buildSliceA, buildMutA, makeSliceA, partIdx, elemsA, lensA, ifaceA, convA, mmA, pickA, okAll, stAll, opsA, partsA, partsOk, opA, allocA, boxMutA, newCells, okCells, storeObj, appendA, guardV, taA, nM, mapUpA, rangeA, nextA, entryA, lookA, sliceA, sliceM, sliceS, boundsA, opO, okO, copyA, dstOk, nilA, quietOk, nilSliceOp, deferV, panA, resA, argFr, retA.eq_1, retA.eq_2, Nat.reduceAdd, Nat.reduceSub, Nat.reduceMul, Nat.reduceLT, Nat.reduceLeDiff, Nat.reduceEqDiff, Nat.reduceBEq, Int.reduceAdd, Int.reduceSub, Int.reduceMul, Int.reduceNeg, Int.reduceLE, Int.reduceLT, Int.reduceEq, Int.reduceNe, Int.reduceToNat, ↓reduceIte, reduceCtorEq, implies_true, forall_const, eq_self, ne_eq, wtAll, Try.ntmps48, Try.results48, ho, hh_i4, hh_i6, n1, n2, hh_i8]) ?_))
  ·have eq : q = p.ws.length := by ((try clear ho hh_i4 hh_i6 n1 n2); omega)
   subst eq
   simp only [vsAll, binA, binLitA, intA, loadA, loadRow, partA, partOk, fieldAddrA, cellA, cellsA, opA, newCells, okCells, storeObj, dstOk, resA, retA.eq_1, Nat.reduceAdd, Nat.reduceLT, Nat.reduceLeDiff, Nat.reduceEqDiff, ↓reduceIte, eq_self, wtAll, Try.results48, hh_i6]
   refine ⟨by simp only [InR_i64]; ((try clear ho hh_i4 hh_i6 n1 n2); omega), dropR_pure ?_ (by (repeat (first | exact HSub_rfl | refine HSub_put_eq (by simp only [vsAll, binA, binLitA, intA, aggA, aggV, boolA, nilA2, isConst, unA, loadA, loadRow, partA, partOk, fieldAddrA, indexAddrA, indexA, fieldA, extractA, lenA, nilCheckA, boxA, boxZ, cellA, cellsA, fillA, okParts, buildSliceA, buildMutA, makeSliceA, partIdx, elemsA, lensA, ifaceA, convA, mmA, pickA, okAll, stAll, opsA, partsA, partsOk, opA, allocA, boxMutA, newCells, okCells, storeObj, appendA, guardV, taA, nM, mapUpA, rangeA, nextA, entryA, lookA, sliceA, sliceM, sliceS, boundsA, opO, okO, copyA, dstOk, nilA, quietOk, nilSliceOp, deferV, panA, resA, argFr, retA.eq_1, retA.eq_2, Nat.reduceAdd, Nat.reduceSub, Nat.reduceMul, Nat.reduceLT, Nat.reduceLeDiff, Nat.reduceEqDiff, Nat.reduceBEq, Int.reduceAdd, Int.reduceSub, Int.reduceMul, Int.reduceNeg, Int.reduceLE, Int.reduceLT, Int.reduceEq, Int.reduceNe, Int.reduceToNat, ↓reduceIte, reduceCtorEq, implies_true, forall_const, eq_self, ne_eq, wtAll, Try.ntmps48, Try.results48, ho, hh_i4, hh_i6, n1, n2]) ?_ | refine HSub_drop2 (by simp only [eq_self, hh_i4, hh_i6]) ?_ | refine HSub_keep_eq (by simp only [vsAll, binA, binLitA, intA, aggA, aggV, boolA, nilA2, isConst, unA, loadA, loadRow, partA, partOk, fieldAddrA, indexAddrA, indexA, fieldA, extractA, lenA, nilCheckA, boxA, boxZ, cellA, cellsA, fillA, okParts, buildSliceA, buildMutA, makeSliceA, partIdx, elemsA, lensA, ifaceA, convA, mmA, pickA, okAll, stAll, opsA, partsA, partsOk, opA, allocA, boxMutA, newCells, okCells, storeObj, appendA, guardV, taA, nM, mapUpA, rangeA, nextA, entryA, lookA, sliceA, sliceM, sliceS, boundsA, opO, okO, copyA, dstOk, nilA, quietOk, nilSliceOp, deferV, panA, resA, argFr, retA.eq_1, retA.eq_2, Nat.reduceAdd, Nat.reduceSub, Nat.reduceMul, Nat.reduceLT, Nat.reduceLeDiff, Nat.reduceEqDiff, Nat.reduceBEq, Int.reduceAdd, Int.reduceSub, Int.reduceMul, Int.reduceNeg, Int.reduceLE, Int.reduceLT, Int.reduceEq, Int.reduceNe, Int.reduceToNat, ↓reduceIte, reduceCtorEq, implies_true, forall_const, eq_self, ne_eq, wtAll, Try.ntmps48, Try.results48, ho, hh_i4, hh_i6, n1, n2]) ?_)))⟩
   simp only [mq_all, dkC, Int.natCast_add, Int.natCast_one]
end Go.Proofs.Ytclkjifgipcamaa.Pm
end
section
set_option linter.unusedVariables false
set_option linter.unusedSimpArgs false
set_option maxHeartbeats 4000000
set_option maxRecDepth 100000
namespace Go.Proofs.Ytclkjifgipcamaa.Pm
open Go.V Wl
/-- The pump in another truth: a copy. -/
def inR (p : Pu) (b : Bool) (m : Int) (H : Hp) : Res → Hp → Prop := fun r H' => ∃ id, H id = none ∧ r = .ret (.ref id 0 9 0 0) ∧ H' = H.set id (.box 9 1 fun _ => pmC p b m)
theorem in_tri (p : Pu) (b c : Bool) (m : Int) (H : Hp) : Tri Try.prog (fnA 54) [.agg (pmC p b m), .iface (trT c) (.agg [])] H (inR p c m H) := by
 refine tri_v0 (mset [2]) Try.func54 (by kernel_rfl) rfl (by simp only [List.length_append, List.length_cons, List.length_nil, Try.ntmps54]; decide) ?_
 simp only [vsAll, fieldAddrA, cellA, cellsA, opA, boxMutA, newCells, okCells, storeObj, dstOk, nilSliceOp, resA, argFr, retA.eq_1, Nat.reduceAdd, Nat.reduceLT, Nat.reduceLeDiff, Nat.reduceEqDiff, Nat.reduceBEq, ↓reduceIte, eq_self, wtAll, Try.ntmps54, Try.results54]
 intro i2 hh_i2; (try simp only [Hp.set_none, ite_none] at hh_i2)
 rw [Hp.set_set]
 exact ⟨i2, hh_i2, rfl, rfl⟩
/-- What a run yields, hour after hour. -/
abbrev runF (l : List Int) (id : Nat) : AV := .func (.func 97) [] [.rptr 1 1 (fun _ => [.ref id 0 9 0 0]) 0 0, .rptr 1 1 (fun _ => [intsAV l]) 0 0]
theorem run_tri (p : Pu) (l : List Int) (id : Nat) (H : Hp) : PTri Try.prog (fnA 55) [.ref id 0 9 0 0, intsAV l] H (runF l id) := by
 refine tri_v0 (fun _ => false) Try.func55 (by kernel_rfl) rfl (by simp only [List.length_append, List.length_cons, List.length_nil, Try.ntmps55]; decide) ?_
 simp only [vsAll, boxA, boxZ, cellA, okAll, stAll, opsA, opA, dstOk, nilSliceOp, resA, argFr, retA.eq_1, Nat.reduceLT, Nat.reduceEqDiff, ↓reduceIte, eq_self, wtAll, Try.ntmps55, Try.results55]
def runL (p : Pu) (l : List Int) (b : Bool) (m : Int) : List (List AV) := (List.range l.length).map fun i : Nat => [i64 (i : Int), .agg (dkC p l b m (i + 1))]
theorem runL_drop (p : Pu) (l : List Int) (b : Bool) (m : Int) {i : Nat} (hi : i < l.length) : (runL p l b m).drop i = [i64 i, .agg (dkC p l b m (i + 1))] :: (runL p l b m).drop (i + 1) := by
 rw [List.drop_eq_getElem_cons (by simpa [runL] using hi)]
 simp [runL]
theorem run1_tri (p : Pu) (l : List Int) (b : Bool) (m : Int) (id : Nat) (k : Ok p) (hA : 0 < (allA p.ho).length) (hl : FirstP p l) (hn : l.length ≤ p.fl.length) (hm : 0 ≤ m ∧ m ≤ 40) (yf : Fn) (H : Hp) (K : Hp → Prop)
  (hit : IterB Try.prog (.func yf [] []) (PmAt p b m id) (runL p l b m) H K) (ho : PmAt p b m id H) :
  Tri Try.prog (runF l id) [.func yf [] []] H fun r H' => (∃ v, r = .ret v) ∧ K H' := by
 have hll := hl.len
 refine Tri.drop ?_
 refine tri_v0 (fun _ => false) Try.func97 (by kernel_rfl) rfl (by simp only [List.length_append, List.length_cons, List.length_nil, Try.ntmps97]; decide) ?_
 skip
 simp only [vsAll, loadA, loadRow, partA, partOk, okAll, stAll, opsA, opA, dstOk, argFr, Nat.reduceLT, ↓reduceIte, eq_self, wtAll, Try.ntmps97]
 refine callK_pure (begin_tri p l b m id _ ho) ?_
 simp only [vsAll, loadA, loadRow, partA, partOk, lenA, cellA, opA, allocA, newCells, okCells, storeObj, dstOk, nilSliceOp, argFr, Nat.reduceAdd, Nat.reduceLT, Nat.reduceEqDiff, ↓reduceIte, eq_self, wtAll]
 intro i4 hh_i4; (try simp only [Hp.set_none, ite_none] at hh_i4)
 rw [Hp.set_set]
 refine vs_loop (σ := Nat × Hp) (fun x => x.1 ≤ l.length ∧ x.2 i4 = none ∧ IterB Try.prog (.func yf [] []) (PmAt p b m id) ((runL p l b m).drop x.1) x.2 K)
  (fun x => [(0, .func yf [] []), (1, .rptr 1 1 (fun _ => [.ref id 0 9 0 0]) 0 0), (4, .ref i4 0 8 0 0), (5, .func (.func 48) [] []), (10, intsAV l), (11, i64 l.length), (12, i64 x.1)]) (fun x => x.2.set i4 (.box 8 1 fun _ => dkC p l b m x.1)) (fun x => l.length - x.1) (0, H) ⟨Nat.zero_le _, hh_i4, hit⟩ ?_ (HSub.refl _) fun x hx => ?_
 ·simp only [vsAll, argFr, Nat.reduceEqDiff, ↓reduceIte, reduceCtorEq, eq_self, Int.natCast_zero]
 ·obtain ⟨i, H1⟩ := x
  obtain ⟨hi, hn4, hx⟩ := hx
  simp only [] at hi hn4 hx
  simp only [vsAll, binA, binLitA, intA, opA, dstOk, Nat.reduceLT, Nat.reduceEqDiff, ↓reduceIte, reduceCtorEq, eq_self]
  refine condD (fun hd => ?_) (fun hd => ?_)
  ·have his : i < l.length := by ((try clear ho hh_i4); omega)
   rw [runL_drop p l b m his] at hx
   obtain ⟨hpre, hx⟩ := hx
   have hne := ne_some hn4 hpre
   have hp2 : ∀ X, PmAt p b m id (H1.set i4 X) := fun X => by
    show (H1.set i4 X) id = _
    rw [Hp.set_ne _ _ hne.2]; exact hpre
   have hat := hl.at_ i his
   have e0 : l.getD i 0 = l.getD i (-1) := by simp [List.getD_eq_getElem?_getD, his]
   skip
   simp only [vsAll, loadA, loadRow, partA, partOk, indexAddrA, okAll, stAll, opsA, opA, dstOk, nilSliceOp, Nat.reduceLT, Nat.reduceEqDiff, Int.reduceNeg, ↓reduceIte, reduceCtorEq, eq_self, wtAll, intF_at, e0]
   refine ⟨⟨by ((try clear ho hh_i4 hn4); omega), by ((try clear ho hh_i4 hn4); omega)⟩, his, ?_⟩
   refine callK_pure (next_tri p l b m i (l.getD i (-1)) id _ k hA (hp2 _) (by ((try clear ho hh_i4 hn4); omega)) hat rfl hm) ?_
   simp only [vsAll, loadA, loadRow, partA, partOk, cellA, okAll, stAll, opsA, opA, newCells, okCells, storeObj, dstOk, Nat.reduceAdd, Nat.reduceLT, Nat.reduceEqDiff, Int.reduceNeg, ↓reduceIte, reduceCtorEq, eq_self, wtAll]
   rw [Hp.set_set]
   refine callK (hx i4 _ hn4) ?_
   rintro r H'' (⟨rfl, H2, hn2, rfl, hr⟩ | ⟨rfl, hr⟩)
   ·simp only [vsAll, binA, binLitA, intA, unA, opA, dstOk, Nat.reduceLT, Nat.reduceEqDiff, Int.reduceNeg, ↓reduceIte, reduceCtorEq, eq_self]
    refine ⟨by simp only [InR_i64]; ((try clear ho hh_i4 hn4); omega), loop_next (i + 1, H2) ⟨by simp only []; ((try clear ho hh_i4 hn4); omega), hn2, hr⟩ (by simp only []; ((try clear ho hh_i4 hn4); omega)) ?_ (HSub.refl _)⟩
    simp only [vsAll, Nat.reduceEqDiff, Int.reduceNeg, ↓reduceIte, reduceCtorEq, eq_self, Int.natCast_add, Int.natCast_one]
   ·simp only [vsAll, unA, opA, dstOk, resA, retA.eq_2, Nat.reduceLT, Int.reduceNeg, ↓reduceIte, eq_self, Try.results97]
    exact ⟨_, HSub_rfl, ⟨_, rfl⟩, hr⟩
  ·have ei : i = l.length := by ((try clear ho hh_i4); omega)
   subst ei
   have : (runL p l b m).drop l.length = [] := List.drop_eq_nil_of_le (by simp [runL])
   rw [this] at hx
   simp only [vsAll, resA, retA.eq_2, ↓reduceIte, eq_self, Try.results97]
   exact ⟨H1, HSub_drop2 hn4 HSub_rfl, ⟨_, rfl⟩, hx⟩
end Go.Proofs.Ytclkjifgipcamaa.Pm
end
section
set_option linter.unusedVariables false
set_option linter.unusedSimpArgs false
set_option maxHeartbeats 4000000
set_option maxRecDepth 100000
namespace Go.Proofs.Ytclkjifgipcamaa.Pm
open Go.V Wl
theorem runL_get {p : Pu} {l : List Int} {b : Bool} {m : Int} {i : Nat} {v : List AV} (h : (runL p l b m)[i]? = some v) : i < l.length ∧ v = [i64 i, .agg (dkC p l b m (i + 1))] := by
 obtain ⟨h1, h2⟩ := List.getElem?_eq_some_iff.1 h
 have h1 : i < l.length := by simpa [runL] using h1
 refine ⟨h1, ?_⟩
 rw [← h2]
 simp [runL]
theorem runL_len (p : Pu) (l : List Int) (b : Bool) (m : Int) : (runL p l b m).length = l.length := by simp [runL]
theorem lost_first {ca : Int} {L : List Int} {i : Nat} (hi : i < L.length) (h1 : ca < L.getD i 0) (h2 : ∀ j, j < i → ¬ ca < L.getD j 0) : lostV ca L = i := by
 have : (List.range L.length).find? (fun i => decide (ca < L.getD i 0)) = some i := by
  rw [List.find?_range_eq_some]
  exact ⟨by simpa using h1, by simpa using hi, fun j hj => by simpa using h2 j hj⟩
 unfold lostV
 rw [this]
theorem lost_none {ca : Int} {L : List Int} (h : ∀ j, j < L.length → ¬ ca < L.getD j 0) : lostV ca L = -1 := by
 have : (List.range L.length).find? (fun i => decide (ca < L.getD i 0)) = none := by
  rw [List.find?_eq_none]
  intro j hj
  rw [List.mem_range] at hj
  simpa using h j hj
 unfold lostV
 rw [this]
theorem azT119q : azT Try.prog 119 = some (1, 1, [.nilFunc]) := by kernel_rfl
theorem lost_tri (p : Pu) (l : List Int) (b : Bool) (m : Int) (id : Nat) (H : Hp) (k : Ok p) (hA : 0 < (allA p.ho).length) (hl : FirstP p l) (hn : l.length ≤ p.fl.length) (hm : 0 ≤ m ∧ m ≤ 40) (ho : PmAt p b m id H) :
  PTri Try.prog (fnA 94) [.ref id 0 9 0 0, intsAV l] H (i64 (lostV p.ca (aftL (moreP p m) l b l.length))) := by
 have hll := hl.len
 have hL : (aftL (moreP p m) l b l.length).length = l.length := aft_len _ _ _ _
 have hLa : ∀ j, j < l.length → (aftL (moreP p m) l b l.length).getD j 0 = watV (moreP p m) l b (j + 1) := fun j hj => aft_at _ _ _ hj
 refine Tri.drop ?_
 refine tri_m (m := fun _ => false) Try.func94 (by kernel_rfl) rfl (by simp only [List.length_append, List.length_cons, List.length_nil, Try.ntmps94]; decide) ?_
 simp only [vsAll, cellA, cellsA, okAll, stAll, opsA, opA, allocA, newCells, okCells, storeObj, dstOk, argFr, Nat.reduceLT, Nat.reduceEqDiff, Int.reduceNeg, ↓reduceIte, reduceCtorEq, eq_self, wtAll, Try.ntmps94, azT119q]
 intro i4 hh_i4; (try simp only [Hp.set_none, ite_none] at hh_i4); intro i5 hh_i5; (try simp only [ite_none] at hh_i5)
 have a4 := ne_some hh_i4 ho
 have a5 := ne_some hh_i5.2 ho
 skip
 refine callK_pure (run_tri p l id _) ?_
 simp only [vsAll, Int.reduceNeg]
 refine vs_rangeB (σ := Unit) (runL p l b m) (fun i _ => ∀ j, j < i → ¬ p.ca < watV (moreP p m) l b (j + 1))
  (fun _ _ => (H.set i4 (.box 1 1 fun _ => [i64 0])).set i5 (.box 1 1 fun _ => [.func (.func 49) [.ref id 0 9 0 0] []])) () (PmAt p b m id) Try.func97 (by kernel_rfl) rfl (by simp only [vsAll, opA, ↓reduceIte, eq_self]) (by simp only [vsAll, opA, ↓reduceIte, eq_self]) (by decide) (fun v hv => by obtain ⟨q, _, rfl⟩ := List.mem_map.1 hv; rfl)
  (fun yf H K hp hi => run1_tri p l b m id k hA hl hn hm yf H K hi hp) (fun q hq => absurd hq (Nat.not_lt_zero _)) ?_ ?_ ?_ ?_ ?_
 ·(repeat (first | exact HSub_rfl | refine HSub_put_eq (by simp only [vsAll, ↓reduceIte, eq_self, hh_i5]) ?_ | refine HSub_drop2 (by simp only [eq_self, hh_i4, hh_i5]) ?_ | refine HSub_keep_eq (by simp only [vsAll, binA, binLitA, intA, aggA, aggV, boolA, nilA2, isConst, unA, loadA, loadRow, partA, partOk, fieldAddrA, indexAddrA, indexA, fieldA, extractA, lenA, nilCheckA, boxA, boxZ, cellA, cellsA, fillA, okParts, buildSliceA, buildMutA, makeSliceA, partIdx, elemsA, lensA, ifaceA, convA, mmA, pickA, okAll, stAll, opsA, partsA, partsOk, opA, allocA, boxMutA, newCells, okCells, storeObj, appendA, guardV, taA, nM, mapUpA, rangeA, nextA, entryA, lookA, sliceA, sliceM, sliceS, boundsA, opO, okO, copyA, dstOk, nilA, quietOk, nilSliceOp, deferV, panA, resA, argFr, retA.eq_1, retA.eq_2, Nat.reduceAdd, Nat.reduceSub, Nat.reduceMul, Nat.reduceLT, Nat.reduceLeDiff, Nat.reduceEqDiff, Nat.reduceBEq, Int.reduceAdd, Int.reduceSub, Int.reduceMul, Int.reduceNeg, Int.reduceLE, Int.reduceLT, Int.reduceEq, Int.reduceNe, Int.reduceToNat, ↓reduceIte, reduceCtorEq, implies_true, forall_const, eq_self, ne_eq, wtAll, Try.ntmps94, Try.results94, hh_i4, hh_i5, ho, a4, a5]) ?_))
 ·intro j _ _ q; exact Iff.rfl
 ·intro i x hi lid did o1 o2 h1 h2
  simp only [Hp.set_none] at h1 h2
  have b1 := ne_some h1.2.2 ho
  have b2 := ne_some h2.2.2 ho
  show Hp.set (Hp.set (Hp.set (Hp.set H i4 _) i5 _) did _) lid _ id = _
  simp only [vsAll, ↓reduceIte, eq_self, ho, a4, a5, b1, b2]
 ·rintro j o i v ⟨⟩ hv hi hj lid did l' lo h1 h2 h3 h5 h6
  simp only [Hp.set_none] at hj h1 h2
  have h4 : ¬ did = lid := fun e => h3 e.symm
  have h5' : ¬ lid = j := fun e => h5 e.symm
  have h6' : ¬ did = j := fun e => h6 e.symm
  have b1 := ne_some h1.2.2 ho
  have b2 := ne_some h2.2.2 ho
  have b3 := ne_some hj.2.2 ho
  skip
  obtain ⟨his, rfl⟩ := runL_get hv
  simp only [vsAll, loadA, loadRow, partA, partOk, cellA, okAll, stAll, opsA, opA, allocA, newCells, okCells, storeObj, dstOk, quietOk, nilSliceOp, Nat.reduceAdd, Nat.reduceLT, Nat.reduceEqDiff, Int.reduceNeg, ↓reduceIte, eq_self, wtAll, hj, h1, h2]
  intro i7 hh_i7; (try simp only [ite_none] at hh_i7)
  have n7 := ne_some hh_i7.2.2.2.2.2 ho
  skip
  refine ⟨?_, ?_⟩
  ·simp only [↓reduceIte, eq_self, hh_i7]
  simp only [vsAll, Nat.reduceLT, Int.reduceNeg, ↓reduceIte, eq_self, hh_i7]
  have hlen : (allA p.ho).length = (allA p.ho).length := rfl
  refine callK_pure (tri_bound (floats_tri p l b m (i + 1) id _ ?_)) ?_
  ·show Hp.set (Hp.set (Hp.set (Hp.set (Hp.set (Hp.set (Hp.set (Hp.set H i4 _) i5 _) j _) did _) lid _) i7 _) i7 _) lid _ id = _
   simp only [vsAll, ↓reduceIte, eq_self, ho, a4, a5, b3, n7, b1, b2]
  simp only [vsAll, unA, opA, dstOk, Nat.reduceLT, Int.reduceNeg, ↓reduceIte, eq_self]
  refine condV (fun hg => ?_) (fun hg => ?_)
  ·have hg : p.ca < watV (moreP p m) l b (i + 1) := by
    simp only [Bool.not_eq_true', decide_eq_false_iff_not] at hg; ((try clear hh_i4 hh_i5 ho a4 a5 hj h1 h2 h3 h4 h5 h6 h5' h6' b1 b2 b3 hh_i7 n7); omega)
   simp only [vsAll, loadA, loadRow, partA, partOk, cellA, cellsA, opA, newCells, okCells, storeObj, dstOk, quietOk, resA, retA.eq_1, Nat.reduceLT, Nat.reduceEqDiff, Int.reduceNeg, ↓reduceIte, eq_self, wtAll, Try.results94, hh_i5, hj, h1, h2, h4, hh_i7]
   have e : lostV p.ca (aftL (moreP p m) l b l.length) = i := lost_first (by rw [hL]; exact his) (by rw [hLa i his]; exact hg) (fun q hq => by rw [hLa q (Nat.lt_trans hq his)]; exact hi q hq)
   rw [e]
   exact ⟨⟨_, _, rfl⟩, dropR_pure rfl (by (repeat (first | exact HSub_rfl | refine HSub_put_eq (by simp only [vsAll, binA, binLitA, intA, aggA, aggV, boolA, nilA2, isConst, unA, loadA, loadRow, partA, partOk, fieldAddrA, indexAddrA, indexA, fieldA, extractA, lenA, nilCheckA, boxA, boxZ, cellA, cellsA, fillA, okParts, buildSliceA, buildMutA, makeSliceA, partIdx, elemsA, lensA, ifaceA, convA, mmA, pickA, okAll, stAll, opsA, partsA, partsOk, opA, allocA, boxMutA, newCells, okCells, storeObj, appendA, guardV, taA, nM, mapUpA, rangeA, nextA, entryA, lookA, sliceA, sliceM, sliceS, boundsA, opO, okO, copyA, dstOk, nilA, quietOk, nilSliceOp, deferV, panA, resA, argFr, retA.eq_1, retA.eq_2, Nat.reduceAdd, Nat.reduceSub, Nat.reduceMul, Nat.reduceLT, Nat.reduceLeDiff, Nat.reduceEqDiff, Nat.reduceBEq, Int.reduceAdd, Int.reduceSub, Int.reduceMul, Int.reduceNeg, Int.reduceLE, Int.reduceLT, Int.reduceEq, Int.reduceNe, Int.reduceToNat, ↓reduceIte, reduceCtorEq, implies_true, forall_const, eq_self, ne_eq, wtAll, Try.ntmps94, Try.results94, hh_i4, hh_i5, ho, a4, a5, hj, h1, h2, h3, h4, h5, h6, h5', h6', b1, b2, b3, hh_i7, n7]) ?_ | refine HSub_drop2 (by simp only [eq_self, hh_i4, hh_i5, hj, h1, h2, hh_i7]) ?_ | refine HSub_keep_eq (by simp only [vsAll, binA, binLitA, intA, aggA, aggV, boolA, nilA2, isConst, unA, loadA, loadRow, partA, partOk, fieldAddrA, indexAddrA, indexA, fieldA, extractA, lenA, nilCheckA, boxA, boxZ, cellA, cellsA, fillA, okParts, buildSliceA, buildMutA, makeSliceA, partIdx, elemsA, lensA, ifaceA, convA, mmA, pickA, okAll, stAll, opsA, partsA, partsOk, opA, allocA, boxMutA, newCells, okCells, storeObj, appendA, guardV, taA, nM, mapUpA, rangeA, nextA, entryA, lookA, sliceA, sliceM, sliceS, boundsA, opO, okO, copyA, dstOk, nilA, quietOk, nilSliceOp, deferV, panA, resA, argFr, retA.eq_1, retA.eq_2, Nat.reduceAdd, Nat.reduceSub, Nat.reduceMul, Nat.reduceLT, Nat.reduceLeDiff, Nat.reduceEqDiff, Nat.reduceBEq, Int.reduceAdd, Int.reduceSub, Int.reduceMul, Int.reduceNeg, Int.reduceLE, Int.reduceLT, Int.reduceEq, Int.reduceNe, Int.reduceToNat, ↓reduceIte, reduceCtorEq, implies_true, forall_const, eq_self, ne_eq, wtAll, Try.ntmps94, Try.results94, hh_i4, hh_i5, ho, a4, a5, hj, h1, h2, h3, h4, h5, h6, h5', h6', b1, b2, b3, hh_i7, n7]) ?_)))⟩
  ·have hg : ¬ p.ca < watV (moreP p m) l b (i + 1) := by
    simp only [Bool.not_eq_false', decide_eq_true_eq] at hg; ((try clear hh_i4 hh_i5 ho a4 a5 hj h1 h2 h3 h4 h5 h6 h5' h6' b1 b2 b3 hh_i7 n7); omega)
   simp only [vsAll, Int.reduceNeg, ↓reduceIte, eq_self]
   exact ⟨⟨_, _, rfl⟩, _, ⟨(), fun q hq => by
    rcases Nat.lt_succ_iff_lt_or_eq.1 hq with h | rfl
    ·exact hi q h
    ·exact hg, rfl⟩, by (repeat (first | exact HSub_rfl | refine HSub_put_eq (by simp only [vsAll, ↓reduceIte, eq_self, hh_i5, hj, h1, h2, h4, h5, h6, hh_i7]) ?_ | refine HSub_drop2 (by simp only [eq_self, hh_i4, hh_i5, hj, h1, h2, hh_i7]) ?_ | refine HSub_keep_eq (by simp only [vsAll, binA, binLitA, intA, aggA, aggV, boolA, nilA2, isConst, unA, loadA, loadRow, partA, partOk, fieldAddrA, indexAddrA, indexA, fieldA, extractA, lenA, nilCheckA, boxA, boxZ, cellA, cellsA, fillA, okParts, buildSliceA, buildMutA, makeSliceA, partIdx, elemsA, lensA, ifaceA, convA, mmA, pickA, okAll, stAll, opsA, partsA, partsOk, opA, allocA, boxMutA, newCells, okCells, storeObj, appendA, guardV, taA, nM, mapUpA, rangeA, nextA, entryA, lookA, sliceA, sliceM, sliceS, boundsA, opO, okO, copyA, dstOk, nilA, quietOk, nilSliceOp, deferV, panA, resA, argFr, retA.eq_1, retA.eq_2, Nat.reduceAdd, Nat.reduceSub, Nat.reduceMul, Nat.reduceLT, Nat.reduceLeDiff, Nat.reduceEqDiff, Nat.reduceBEq, Int.reduceAdd, Int.reduceSub, Int.reduceMul, Int.reduceNeg, Int.reduceLE, Int.reduceLT, Int.reduceEq, Int.reduceNe, Int.reduceToNat, ↓reduceIte, reduceCtorEq, implies_true, forall_const, eq_self, ne_eq, wtAll, Try.ntmps94, Try.results94, hh_i4, hh_i5, ho, a4, a5, hj, h1, h2, h3, h4, h5, h6, h5', h6', b1, b2, b3, hh_i7, n7]) ?_))⟩
 ·rintro ⟨⟩ hi lid did lo h1 h2 h3
  simp only [Hp.set_none] at h1 h2
  have h4 : ¬ did = lid := fun e => h3 e.symm
  skip
  rw [runL_len] at hi
  have e : lostV p.ca (aftL (moreP p m) l b l.length) = -1 := lost_none fun j hj => by
   rw [hL] at hj
   rw [hLa j hj]; exact hi j hj
  simp only [vsAll, loadA, loadRow, partA, partOk, cellA, cellsA, opA, newCells, okCells, storeObj, dstOk, resA, retA.eq_1, Nat.reduceLT, Nat.reduceEqDiff, Int.reduceNeg, ↓reduceIte, eq_self, wtAll, Try.results94, hh_i5, h1, h2, h4, e]
  exact dropR_pure rfl (by (repeat (first | exact HSub_rfl | refine HSub_put_eq (by simp only [vsAll, binA, binLitA, intA, aggA, aggV, boolA, nilA2, isConst, unA, loadA, loadRow, partA, partOk, fieldAddrA, indexAddrA, indexA, fieldA, extractA, lenA, nilCheckA, boxA, boxZ, cellA, cellsA, fillA, okParts, buildSliceA, buildMutA, makeSliceA, partIdx, elemsA, lensA, ifaceA, convA, mmA, pickA, okAll, stAll, opsA, partsA, partsOk, opA, allocA, boxMutA, newCells, okCells, storeObj, appendA, guardV, taA, nM, mapUpA, rangeA, nextA, entryA, lookA, sliceA, sliceM, sliceS, boundsA, opO, okO, copyA, dstOk, nilA, quietOk, nilSliceOp, deferV, panA, resA, argFr, retA.eq_1, retA.eq_2, Nat.reduceAdd, Nat.reduceSub, Nat.reduceMul, Nat.reduceLT, Nat.reduceLeDiff, Nat.reduceEqDiff, Nat.reduceBEq, Int.reduceAdd, Int.reduceSub, Int.reduceMul, Int.reduceNeg, Int.reduceLE, Int.reduceLT, Int.reduceEq, Int.reduceNe, Int.reduceToNat, ↓reduceIte, reduceCtorEq, implies_true, forall_const, eq_self, ne_eq, wtAll, Try.ntmps94, Try.results94, hh_i4, hh_i5, ho, a4, a5, h1, h2, h3, h4]) ?_ | refine HSub_drop2 (by simp only [eq_self, hh_i4, hh_i5, h1, h2]) ?_ | refine HSub_keep_eq (by simp only [vsAll, binA, binLitA, intA, aggA, aggV, boolA, nilA2, isConst, unA, loadA, loadRow, partA, partOk, fieldAddrA, indexAddrA, indexA, fieldA, extractA, lenA, nilCheckA, boxA, boxZ, cellA, cellsA, fillA, okParts, buildSliceA, buildMutA, makeSliceA, partIdx, elemsA, lensA, ifaceA, convA, mmA, pickA, okAll, stAll, opsA, partsA, partsOk, opA, allocA, boxMutA, newCells, okCells, storeObj, appendA, guardV, taA, nM, mapUpA, rangeA, nextA, entryA, lookA, sliceA, sliceM, sliceS, boundsA, opO, okO, copyA, dstOk, nilA, quietOk, nilSliceOp, deferV, panA, resA, argFr, retA.eq_1, retA.eq_2, Nat.reduceAdd, Nat.reduceSub, Nat.reduceMul, Nat.reduceLT, Nat.reduceLeDiff, Nat.reduceEqDiff, Nat.reduceBEq, Int.reduceAdd, Int.reduceSub, Int.reduceMul, Int.reduceNeg, Int.reduceLE, Int.reduceLT, Int.reduceEq, Int.reduceNe, Int.reduceToNat, ↓reduceIte, reduceCtorEq, implies_true, forall_const, eq_self, ne_eq, wtAll, Try.ntmps94, Try.results94, hh_i4, hh_i5, ho, a4, a5, h1, h2, h3, h4]) ?_)))
end Go.Proofs.Ytclkjifgipcamaa.Pm
end
section
set_option linter.unusedVariables false
set_option linter.unusedSimpArgs false
namespace Go.Proofs.Ytclkjifgipcamaa.Pm
open Go.V Wl
theorem getD_app (l : List Int) (x : List Int) {i : Nat} (hi : i < l.length) : (l ++ x).getD i (-1) = l.getD i (-1) := by
 simp [List.getD_eq_getElem?_getD, List.getElem?_append_left hi]
theorem getD_app_len (l : List Int) (w : Int) : (l ++ [w]).getD l.length (-1) = w := by
 simp [List.getD_eq_getElem?_getD]
theorem done_pre (re : Int) (l x : List Int) (w : Int) : ∀ i, i ≤ l.length → doneW re (l ++ x) w i = doneW re l w i
 | 0, _ => rfl
 | i + 1, h => by
   simp only [doneW]
   rw [done_pre re l x w i (by omega), getD_app l x (by omega)]
theorem worn_pre (p : Pu) (l x : List Int) (w i : Nat) (h : i ≤ l.length) : wornV p (l ++ x) w i = wornV p l w i := by
 unfold wornV; rw [done_pre _ _ _ _ _ h]
theorem men_pre (p : Pu) (l x : List Int) (w i : Nat) (h : i ≤ l.length) : menV p (l ++ x) i w = menV p l i w := by
 unfold menV; rw [done_pre _ _ _ _ _ h]
theorem str_pre (p : Pu) (l x : List Int) (i : Nat) (b : Bool) (h : i < l.length) : strV p (l ++ x) i b = strV p l i b := by
 unfold strV
 rw [getD_app l x h, worn_pre p l x _ i (by omega)]
theorem wat_pre (p : Pu) (l x : List Int) (b : Bool) : ∀ i, i ≤ l.length → watV p (l ++ x) b i = watV p l b i
 | 0, _ => rfl
 | i + 1, h => by
   simp only [watV]
   rw [wat_pre p l x b i (by omega), str_pre p l x i b (by omega)]
theorem deck_pre (p : Pu) (l x : List Int) (b : Bool) (m : Int) (i : Nat) (h : i ≤ l.length) : dkC p (l ++ x) b m i = dkC p l b m i := by
 simp only [dkC, men_pre p l x _ i h, wat_pre _ l x b i h]
/-- How it is after a plan so far: eight numbers. -/
def dkI (p : Pu) (l : List Int) : List Int := [(l.length : Int), ((menV p l l.length 0).1 : Int), ((menV p l l.length 0).2 : Int), ((menV p l l.length 1).1 : Int), ((menV p l l.length 1).2 : Int), ((menV p l l.length 2).1 : Int), ((menV p l l.length 2).2 : Int), watV p l false l.length]
theorem dkI_inj {p : Pu} {l l' : List Int} (h : dkI p l = dkI p l') : l.length = l'.length ∧ (∀ v, v < 3 → menV p l l.length v = menV p l' l'.length v) ∧ watV p l false l.length = watV p l' false l'.length := by
 unfold dkI at h
 simp only [List.cons.injEq, and_true] at h
 obtain ⟨h1, a0, b0, a1, b1, a2, b2, h3⟩ := h
 refine ⟨by omega, fun v hv => ?_, h3⟩
 have : v = 0 ∨ v = 1 ∨ v = 2 := by omega
 rcases this with rfl | rfl | rfl
 ·exact Prod.ext (by omega) (by omega)
 ·exact Prod.ext (by omega) (by omega)
 ·exact Prod.ext (by omega) (by omega)
theorem men_step (p : Pu) (k : Ok p) (l : List Int) (w : Int) {v : Nat} (hv : v < p.ws.length) : menV p (l ++ [w]) (l.length + 1) v = (let s' := if decide (w = (v : Int)) = true then ((menV p l l.length v).1 + 1, 0) else ((menV p l l.length v).1, min ((menV p l l.length v).2 + 1) 4); if (p.wt v).re ≤ (s'.2 : Int) then (0, s'.2) else s') := by
 have hw := (k.w v hv).2.2
 unfold menV
 rw [if_pos hv, if_pos hv]
 simp only [doneW]
 rw [done_pre _ l [w] _ _ (Nat.le_refl _), getD_app_len]
 exact cap_step hw _ _
theorem dk_step {p : Pu} (k : Ok p) {l l' : List Int} (h : dkI p l = dkI p l') (w : Int) (hw : -1 ≤ w ∧ w < p.ws.length) : dkI p (l ++ [w]) = dkI p (l' ++ [w]) := by
 obtain ⟨h1, h2, h3⟩ := dkI_inj h
 have nW := k.nW
 have hm : ∀ v, v < 3 → menV p (l ++ [w]) (l ++ [w]).length v = menV p (l' ++ [w]) (l' ++ [w]).length v := by
  intro v hv
  rw [List.length_append, List.length_singleton, List.length_append, List.length_singleton]
  by_cases hvw : v < p.ws.length
  ·rw [men_step p k l w hvw, men_step p k l' w hvw, h2 v hv]
  ·unfold menV
   rw [if_neg hvw, if_neg hvw]
 have hwat : watV p (l ++ [w]) false (l ++ [w]).length = watV p (l' ++ [w]) false (l' ++ [w]).length := by
  rw [List.length_append, List.length_singleton, List.length_append, List.length_singleton]
  simp only [watV]
  rw [wat_pre p l [w] false _ (Nat.le_refl _), wat_pre p l' [w] false _ (Nat.le_refl _), h3, h1]
  have hs : strV p (l ++ [w]) l'.length false = strV p (l' ++ [w]) l'.length false := by
   unfold strV
   have e1 : (l ++ [w]).getD l'.length (-1) = w := by rw [← h1]; exact getD_app_len l w
   rw [e1, getD_app_len]
   by_cases hn : w < 0
   ·rw [if_pos hn, if_pos hn]
   ·rw [if_neg hn, if_neg hn]
    have hv : w.toNat < p.ws.length := by omega
    have e2 : wornV p (l ++ [w]) w.toNat l'.length = wornV p (l' ++ [w]) w.toNat l'.length := by
     rw [worn_pre p l [w] _ _ (by omega), worn_pre p l' [w] _ _ (Nat.le_refl _)]
     have := congrArg Prod.fst (h2 w.toNat (by omega))
     unfold menV at this
     rw [if_pos hv, if_pos hv, h1] at this
     exact this
    rw [e2]
  rw [hs]
 unfold dkI
 rw [hm 0 (by decide), hm 1 (by decide), hm 2 (by decide), hwat, List.length_append, List.length_append, h1]
def costW (w n : Int) : Int := if 0 ≤ w then n + 1 else n
/-- One watch more is tried. -/
def stepB (p : Pu) (S : Nat) (f : List Int → Option Int) (l : List Int) (acc : Option Int) (w : Int) : Option Int :=
 if (0 ≤ w ∧ S.testBit w.toNat = false) ∨ ¬ watV p (l ++ [w]) false (l.length + 1) ≤ p.ca then acc else
  match f (l ++ [w]) with
  | none => acc
  | some x => match acc with
    | none => some (costW w x)
    | some y => if costW w x < y then some (costW w x) else acc
/-- What is least of the first watches; the first of all is none. -/
def rowB (p : Pu) (S : Nat) (f : List Int → Option Int) (l : List Int) : Nat → Option Int
 | 0 => none
 | j + 1 => stepB p S f l (rowB p S f l j) ((j : Int) - 1)
/-- The least hours of pumping from a plan so far, if it goes on for so many hours. -/
def leastB (p : Pu) (S : Nat) : Nat → List Int → Option Int
 | 0, _ => some 0
 | k + 1, l => rowB p S (leastB p S k) l (p.ws.length + 1)
theorem row_congr {p : Pu} (k : Ok p) (S : Nat) {f : List Int → Option Int} (hf : ∀ l l', dkI p l = dkI p l' → f l = f l') {l l' : List Int} (h : dkI p l = dkI p l') : ∀ j, j ≤ p.ws.length + 1 → rowB p S f l j = rowB p S f l' j
 | 0, _ => rfl
 | j + 1, hj => by
   have hd := dk_step k h ((j : Int) - 1) (by omega)
   have h1 := hf _ _ hd
   have h2 := (dkI_inj hd).2.2
   rw [List.length_append, List.length_singleton, List.length_append, List.length_singleton] at h2
   simp only [rowB, stepB]
   rw [row_congr k S hf h j (by omega), h1, h2]
theorem least_congr {p : Pu} (k : Ok p) (S : Nat) : ∀ n (l l' : List Int), dkI p l = dkI p l' → leastB p S n l = leastB p S n l'
 | 0, _, _, _ => rfl
 | n + 1, l, l', h => row_congr k S (least_congr k S n) h _ (Nat.le_refl _)
/-- It is a number from 0 on. -/
theorem least_rng {p : Pu} (S : Nat) : ∀ n l x, leastB p S n l = some x → 0 ≤ x ∧ x ≤ n := by
 have row : ∀ (n : Nat) (f : List Int → Option Int) l, (∀ l x, f l = some x → 0 ≤ x ∧ x ≤ n) → ∀ j x, rowB p S f l j = some x → 0 ≤ x ∧ x ≤ (n : Int) + 1 := by
  intro n f l hf j
  induction j with
  | zero => intro x h; cases h
  | succ j ih =>
    intro x h
    simp only [rowB, stepB] at h
    have hc : ∀ x, f (l ++ [(j : Int) - 1]) = some x → 0 ≤ costW ((j : Int) - 1) x ∧ costW ((j : Int) - 1) x ≤ (n : Int) + 1 := fun x hx => by
     have := hf _ _ hx
     unfold costW; split <;> omega
    split at h
    ·exact ih x h
    ·split at h
     ·exact ih x h
     ·rename_i y hy
      split at h
      ·simp only [Option.some.injEq] at h; subst h; exact hc _ hy
      ·split at h
       ·simp only [Option.some.injEq] at h; subst h; exact hc _ hy
       ·exact ih x h
 intro n
 induction n with
 | zero => intro l x h; simp only [leastB, Option.some.injEq] at h; omega
 | succ n ih =>
   intro l x h
   have := row n _ l ih _ x h
   omega
end Go.Proofs.Ytclkjifgipcamaa.Pm
end
section
set_option linter.unusedVariables false
set_option linter.unusedSimpArgs false
set_option maxHeartbeats 4000000
set_option maxRecDepth 100000
namespace Go.Proofs.Ytclkjifgipcamaa.Pm
open Go.V Wl
theorem palways_tri (H : Hp) : PTri Try.prog (fnA 42) [] H (boo true) := by
 refine tri_v0 (fun _ => false) Try.func42 (by kernel_rfl) rfl (by simp only [List.length_append, List.length_nil, Try.ntmps42]; decide) ?_
 simp only [vsAll, opA, dstOk, nilSliceOp, resA, retA.eq_1, Nat.reduceLT, ↓reduceIte, eq_self, Try.ntmps42, Try.results42]
abbrev hoursA : AV := .agg [.func (.func 88) [] [], .func (.func 89) [] []]
theorem hours_tri (H : Hp) : PTri Try.prog (fnA 43) [] H hoursA := by
 refine Tri.drop ?_
 refine tri_v0 (fun _ => false) Try.func43 (by kernel_rfl) rfl (by simp only [List.length_append, List.length_nil, Try.ntmps43]; decide) ?_
 simp only [vsAll, loadA, loadRow, partA, partOk, cellA, cellsA, fillA, okParts, partsA, partsOk, opA, allocA, newCells, okCells, storeObj, dstOk, resA, retA.eq_1, Nat.reduceAdd, Nat.reduceLT, Nat.reduceLeDiff, ↓reduceIte, reduceCtorEq, eq_self, wtAll, Try.ntmps43, Try.results43]
 intro i0 hh_i0; (try simp only [Hp.set_none, ite_none] at hh_i0)
 exact dropR_pure rfl (by (repeat (first | exact HSub_rfl | refine HSub_put_eq (by simp only [vsAll, binA, binLitA, intA, aggA, aggV, boolA, nilA2, isConst, unA, loadA, loadRow, partA, partOk, fieldAddrA, indexAddrA, indexA, fieldA, extractA, lenA, nilCheckA, boxA, boxZ, cellA, cellsA, fillA, okParts, buildSliceA, buildMutA, makeSliceA, partIdx, elemsA, lensA, ifaceA, convA, mmA, pickA, okAll, stAll, opsA, partsA, partsOk, opA, allocA, boxMutA, newCells, okCells, storeObj, appendA, guardV, taA, nM, mapUpA, rangeA, nextA, entryA, lookA, sliceA, sliceM, sliceS, boundsA, opO, okO, copyA, dstOk, nilA, quietOk, nilSliceOp, deferV, panA, resA, argFr, retA.eq_1, retA.eq_2, Nat.reduceAdd, Nat.reduceSub, Nat.reduceMul, Nat.reduceLT, Nat.reduceLeDiff, Nat.reduceEqDiff, Nat.reduceBEq, Int.reduceAdd, Int.reduceSub, Int.reduceMul, Int.reduceNeg, Int.reduceLE, Int.reduceLT, Int.reduceEq, Int.reduceNe, Int.reduceToNat, ↓reduceIte, reduceCtorEq, implies_true, forall_const, eq_self, ne_eq, wtAll, Try.ntmps43, Try.results43, hh_i0]) ?_ | refine HSub_drop2 (by simp only [eq_self, hh_i0]) ?_ | refine HSub_keep_eq (by simp only [vsAll, binA, binLitA, intA, aggA, aggV, boolA, nilA2, isConst, unA, loadA, loadRow, partA, partOk, fieldAddrA, indexAddrA, indexA, fieldA, extractA, lenA, nilCheckA, boxA, boxZ, cellA, cellsA, fillA, okParts, buildSliceA, buildMutA, makeSliceA, partIdx, elemsA, lensA, ifaceA, convA, mmA, pickA, okAll, stAll, opsA, partsA, partsOk, opA, allocA, boxMutA, newCells, okCells, storeObj, appendA, guardV, taA, nM, mapUpA, rangeA, nextA, entryA, lookA, sliceA, sliceM, sliceS, boundsA, opO, okO, copyA, dstOk, nilA, quietOk, nilSliceOp, deferV, panA, resA, argFr, retA.eq_1, retA.eq_2, Nat.reduceAdd, Nat.reduceSub, Nat.reduceMul, Nat.reduceLT, Nat.reduceLeDiff, Nat.reduceEqDiff, Nat.reduceBEq, Int.reduceAdd, Int.reduceSub, Int.reduceMul, Int.reduceNeg, Int.reduceLE, Int.reduceLT, Int.reduceEq, Int.reduceNe, Int.reduceToNat, ↓reduceIte, reduceCtorEq, implies_true, forall_const, eq_self, ne_eq, wtAll, Try.ntmps43, Try.results43, hh_i0]) ?_)))
theorem every_tri (p : Pu) (b : Bool) (m : Int) (id : Nat) (H : Hp) (k : Ok p) (ho : PmAt p b m id H) : PTri Try.prog (fnA 45) [.ref id 0 9 0 0] H (u64 ((2 ^ p.ws.length - 1 : Nat) : Int)) := by
 have nW := k.nW
 refine tri_v0 (fun _ => false) Try.func45 (by kernel_rfl) rfl (by simp only [List.length_append, List.length_cons, List.length_nil, Try.ntmps45]; decide) ?_
 skip
 simp only [vsAll, binA, binLitA, intA, loadA, loadRow, partA, partOk, fieldAddrA, lenA, nilCheckA, opA, dstOk, nilSliceOp, resA, argFr, retA.eq_1, Nat.reduceLT, ↓reduceIte, reduceCtorEq, eq_self, wtAll, Try.ntmps45, Try.results45, ho]
 generalize p.ws.length = n at nW ⊢
 have : n = 0 ∨ n = 1 ∨ n = 2 ∨ n = 3 := by ((try clear ho); omega)
 rcases this with rfl | rfl | rfl | rfl <;> exact ⟨⟨by decide, by decide, by simp only [InR_u64]; decide⟩, by simp only [InR_u64]; decide, rfl⟩
theorem of_tri2 (w n : Int) (H : Hp) (hn : -1000 ≤ n ∧ n ≤ 1000) : PTri Try.prog (fnA 88) [i64 w, i64 n] H (i64 (costW w n)) := by
 refine tri_v0 (fun _ => false) Try.func88 (by kernel_rfl) rfl (by simp only [List.length_append, List.length_cons, List.length_nil, Try.ntmps88]; decide) ?_
 simp only [vsAll, binA, binLitA, intA, opA, dstOk, nilSliceOp, argFr, Nat.reduceLT, ↓reduceIte, reduceCtorEq, eq_self, Try.ntmps88]
 unfold costW
 refine condD (fun hc => ?_) (fun hc => ?_)
 ·simp only [vsAll, binA, binLitA, intA, opA, dstOk, nilSliceOp, resA, argFr, retA.eq_1, Nat.reduceLT, Nat.reduceEqDiff, ↓reduceIte, eq_self, Try.results88]
  refine ⟨by simp only [InR_i64]; omega, ?_⟩
  rw [if_pos hc]
 ·rw [if_neg hc]
  simp only [vsAll, opA, dstOk, nilSliceOp, resA, argFr, retA.eq_1, Nat.reduceLT, Nat.reduceEqDiff, ↓reduceIte, eq_self, Try.results88]
theorem less_tri (a b : Int) (H : Hp) : PTri Try.prog (fnA 89) [i64 a, i64 b] H (boo (decide (a < b))) := by
 refine tri_v0 (fun _ => false) Try.func89 (by kernel_rfl) rfl (by simp only [List.length_append, List.length_cons, List.length_nil, Try.ntmps89]; decide) ?_
 simp only [vsAll, binA, binLitA, intA, opA, dstOk, nilSliceOp, resA, argFr, retA.eq_1, Nat.reduceLT, Nat.reduceEqDiff, ↓reduceIte, reduceCtorEq, eq_self, Try.ntmps89, Try.results89]
end Go.Proofs.Ytclkjifgipcamaa.Pm
end
section
set_option linter.unusedVariables false
set_option linter.unusedSimpArgs false
namespace Go.V
set_option linter.unusedSectionVars false
variable [Inhabited GivT]
theorem kl_arr3s {P : Program} {d c : Nat} {T e : TypeId} {l0 l1 l2 : List Int} (hu : P.underlying T = some (.array 3 e)) (hc : P.cellsOf T = 3 * c) (hce : P.cellsOf e = c) (h0 : l0.length = c) (h1 : l1.length = c) (h2 : l2.length = c)
  (k0 : P.keyLits d e (l0.map (Value.int .i64)) = some (l0.map (Lit.int .i64))) (k1 : P.keyLits d e (l1.map (Value.int .i64)) = some (l1.map (Lit.int .i64))) (k2 : P.keyLits d e (l2.map (Value.int .i64)) = some (l2.map (Lit.int .i64))) :
  P.keyLits (d + 1) T (l0.map (Value.int .i64) ++ l1.map (Value.int .i64) ++ l2.map (Value.int .i64)) = some (l0.map (Lit.int .i64) ++ l1.map (Lit.int .i64) ++ l2.map (Lit.int .i64)) := by
 rw [Program.keyLits]
 rotate_left 3
 ·exact hu
 rw [if_pos (by simp only [List.length_append, List.length_map, hc, h0, h1, h2]; omega), hce, show List.range 3 = [0, 1, 2] from rfl]
 have e0 : (List.take c (List.drop (0 * c) (l0.map (Value.int .i64) ++ l1.map (Value.int .i64) ++ l2.map (Value.int .i64)))) = l0.map (Value.int .i64) := by
  rw [Nat.zero_mul, List.drop_zero, List.append_assoc, List.take_append_of_le_length (by rw [List.length_map, h0]; exact Nat.le_refl _), List.take_of_length_le (by rw [List.length_map, h0]; exact Nat.le_refl _)]
 have e1 : (List.take c (List.drop (1 * c) (l0.map (Value.int .i64) ++ l1.map (Value.int .i64) ++ l2.map (Value.int .i64)))) = l1.map (Value.int .i64) := by
  rw [Nat.one_mul, List.append_assoc, List.drop_append_of_le_length (by rw [List.length_map, h0]; exact Nat.le_refl _), List.drop_of_length_le (by rw [List.length_map, h0]; exact Nat.le_refl _), List.nil_append, List.take_append_of_le_length (by rw [List.length_map, h1]; exact Nat.le_refl _), List.take_of_length_le (by rw [List.length_map, h1]; exact Nat.le_refl _)]
 have e2 : (List.take c (List.drop (2 * c) (l0.map (Value.int .i64) ++ l1.map (Value.int .i64) ++ l2.map (Value.int .i64)))) = l2.map (Value.int .i64) := by
  have : 2 * c = (l0.map (Value.int .i64) ++ l1.map (Value.int .i64)).length := by simp only [List.length_append, List.length_map, h0, h1]; omega
  rw [this, List.drop_left, List.take_of_length_le (by rw [List.length_map, h2]; exact Nat.le_refl _)]
 simp only [List.mapM_cons, List.mapM_nil, e0, e1, e2, k0, k1, k2]
 simp
theorem kl_three {P : Program} {d : Nat} {T : TypeId} {fs : Array Field} {f0 f1 f2 : Field} {v0 v2 : Value} {r : List Value} {L0 L1 L2 : List Lit} (hu : P.underlying T = some (.struct fs)) (hf : fs.toList = [f0, f1, f2]) (hn : f0.name ≠ "_" ∧ f1.name ≠ "_" ∧ f2.name ≠ "_") (hc : P.cellsOf T = r.length + 2)
  (h0 : f0.offset = 0 ∧ P.cellsOf f0.type = 1) (h1 : f1.offset = 1 ∧ P.cellsOf f1.type = r.length) (h2 : f2.offset = r.length + 1 ∧ P.cellsOf f2.type = 1) (k0 : P.keyLits d f0.type [v0] = some L0) (k1 : P.keyLits d f1.type r = some L1) (k2 : P.keyLits d f2.type [v2] = some L2) :
  P.keyLits (d + 1) T (v0 :: (r ++ [v2])) = some (L0 ++ L1 ++ L2) := by
 have hall : fs.all (fun f => f.name != "_") = true := by
  rw [Array.all_eq_true_iff_forall_mem]
  intro f hf'
  have : f ∈ fs.toList := by simpa using hf'
  rw [hf] at this
  rcases List.mem_cons.1 this with rfl | this
  ·simpa using hn.1
  ·rcases List.mem_cons.1 this with rfl | this
   ·simpa using hn.2.1
   ·have := List.mem_singleton.1 this
    subst this; simpa using hn.2.2
 have g1 : List.take r.length (r ++ [v2]) = r := List.take_left
 have g2 : List.drop r.length (r ++ [v2]) = [v2] := List.drop_left
 simp only [Program.keyLits, hu, List.length_cons, List.length_append, List.length_nil, hc, hall, and_self, if_true, hf, List.mapM_cons, List.mapM_nil, h0.1, h0.2, h1.1, h1.2, h2.1, h2.2, List.drop_zero, List.take_succ_cons, List.take_zero, List.drop_succ_cons, g1, g2, k0, k1, k2]
 simp
end Go.V
end
section
set_option linter.unusedVariables false
set_option linter.unusedSimpArgs false
set_option maxHeartbeats 4000000
set_option maxRecDepth 100000
namespace Go.Proofs.Ytclkjifgipcamaa.Pm
open Go.V Wl
theorem mapZ179q : mapZ Try.prog 179 = some (.agg #[.int .i64 0, .bool false]) := by kernel_rfl
theorem und179q : Program.underlying Try.prog 179 = some (.map 113 181) := by kernel_rfl
theorem key113q : Maps.Keyed Try.prog 113 := Maps.Keyed.of_law (deep_law_laid (by kernel_rfl) (m := 10) (by decide) (by decide +kernel) (by kernel_rfl) (by kernel_rfl))
/-- A deck, as a key. -/
abbrev dkV (a b c d e f g i : Int) : Value := .agg #[.int .i64 a, .int .i64 b, .int .i64 c, .int .i64 d, .int .i64 e, .int .i64 f, .int .i64 g, .int .i64 i]
theorem dkK {a b c d e f g i : Int} (h : ∀ x ∈ [a, b, c, d, e, f, g, i], -1000000 ≤ x ∧ x ≤ 1000000) : ∃ s, keyOf Try.prog 113 (dkV a b c d e f g i) = some s := by
 have hw : ∀ x ∈ [a, b, c, d, e, f, g, i], (Lit.int .i64 x).wf = true := fun x hx => wf_i64 (by
  have := h x hx
  simp only [InR_i64]; omega)
 have hsz : Try.prog.types.size + 1 = (Try.prog.types.size - 4) + 5 := by
  have : 4 ≤ Try.prog.types.size := by decide +kernel
  omega
 have hsz2 : (Try.prog.fieldsOf 113).toList.length = 3 := by decide +kernel
 have hu : Program.underlying Try.prog 113 = some (.struct (Try.prog.fieldsOf 113)) := by kernel_rfl
 obtain ⟨f0, e0⟩ : ∃ f0, f0 = (Try.prog.fieldsOf 113).toList[0]'(by rw [hsz2]; decide) := ⟨_, rfl⟩
 obtain ⟨f1, e1⟩ : ∃ f1, f1 = (Try.prog.fieldsOf 113).toList[1]'(by rw [hsz2]; decide) := ⟨_, rfl⟩
 obtain ⟨f2, e2⟩ : ∃ f2, f2 = (Try.prog.fieldsOf 113).toList[2]'(by rw [hsz2]; decide) := ⟨_, rfl⟩
 have hf : (Try.prog.fieldsOf 113).toList = [f0, f1, f2] := by
  rw [e0, e1, e2]
  generalize (Try.prog.fieldsOf 113).toList = L at hsz2 ⊢
  match L, hsz2 with
  | [x, y, z], _ => rfl
 have hn : f0.name ≠ "_" ∧ f1.name ≠ "_" ∧ f2.name ≠ "_" := by
  have h : (Try.prog.fieldsOf 113).toList.map (fun f => decide (f.name ≠ "_")) = [true, true, true] := by decide +kernel
  rw [hf] at h
  simpa using h
 have t0 : f0.type = 3 := by rw [e0]; kernel_rfl
 have t1 : f1.type = 111 := by rw [e1]; kernel_rfl
 have t2 : f2.type = 3 := by rw [e2]; kernel_rfl
 have o0 : f0.offset = 0 := by rw [e0]; kernel_rfl
 have o1 : f1.offset = 1 := by rw [e1]; kernel_rfl
 have o2 : f2.offset = 7 := by rw [e2]; kernel_rfl
 have k0 : Try.prog.keyLits (Try.prog.types.size - 4 + 4) f0.type [.int .i64 a] = some [.int .i64 a] := by
  rw [t0]; exact kl_int (by kernel_rfl) (hw _ (by simp))
 have k2 : Try.prog.keyLits (Try.prog.types.size - 4 + 4) f2.type [.int .i64 i] = some [.int .i64 i] := by
  rw [t2]; exact kl_int (by kernel_rfl) (hw _ (by simp))
 have hm : ∀ x y : Int, (Lit.int .i64 x).wf = true → (Lit.int .i64 y).wf = true → Try.prog.keyLits (Try.prog.types.size - 4 + 3) 110 ([x, y].map (Value.int .i64)) = some ([x, y].map (Lit.int .i64)) := fun x y hx hy =>
  (keyJ_spec (P := Try.prog) 3 110 2 (by kernel_rfl)).2 _ (by omega) [x, y] rfl (by
   intro z hz
   rcases List.mem_cons.1 hz with rfl | hz
   ·exact hx
   ·rw [List.mem_singleton] at hz; subst hz; exact hy)
 have k1 : Try.prog.keyLits (Try.prog.types.size - 4 + 4) f1.type [.int .i64 b, .int .i64 c, .int .i64 d, .int .i64 e, .int .i64 f, .int .i64 g] = some [.int .i64 b, .int .i64 c, .int .i64 d, .int .i64 e, .int .i64 f, .int .i64 g] := by
  rw [t1]
  exact kl_arr3s (c := 2) (e := 110) (l0 := [b, c]) (l1 := [d, e]) (l2 := [f, g]) (by kernel_rfl) (by kernel_rfl) (by kernel_rfl) rfl rfl rfl (hm _ _ (hw _ (by simp)) (hw _ (by simp))) (hm _ _ (hw _ (by simp)) (hw _ (by simp))) (hm _ _ (hw _ (by simp)) (hw _ (by simp)))
 have hk := kl_three hu hf hn (r := [.int .i64 b, .int .i64 c, .int .i64 d, .int .i64 e, .int .i64 f, .int .i64 g]) (by kernel_rfl) ⟨o0, by rw [t0]; kernel_rfl⟩ ⟨o1, by rw [t1]; kernel_rfl⟩ ⟨o2, by rw [t2]; kernel_rfl⟩ k0 k1 k2
 unfold keyOf
 rw [hu]
 have hg : (Try.prog.keyType 113 && (dkV a b c d e f g i).formed Try.prog 113) = true := by kernel_rfl
 simp only [hg, if_true, hsz, Value.cells, List.toList_toArray]
 have hk' : Try.prog.keyLits (Try.prog.types.size - 4 + 5) 113 [.int .i64 a, .int .i64 b, .int .i64 c, .int .i64 d, .int .i64 e, .int .i64 f, .int .i64 g, .int .i64 i] = some _ := hk
 rw [hk']
 exact ⟨_, rfl⟩
/-- What is known of a deck. -/
abbrev knV (o : Option Int) : Value := .agg #[.int .i64 (o.getD 0), .bool o.isSome]
abbrev knA (o : Option Int) : AV := .tuple [i64 (o.getD 0), boo o.isSome]
/-- A plan so far, as a key. -/
abbrev dkP (p : Pu) (l : List Int) : Value := dkV (l.length : Int) (menV p l l.length 0).1 (menV p l l.length 0).2 (menV p l l.length 1).1 (menV p l l.length 1).2 (menV p l l.length 2).1 (menV p l l.length 2).2 (watV p l false l.length)
/-- A plan so far, as it is looked at. -/
structure FirstL (p : Pu) (u : Nat) (l : List Int) : Prop where
 len : l.length ≤ u
 at_ : ∀ i, i < l.length → -1 ≤ l.getD i (-1) ∧ l.getD i (-1) < p.ws.length
def memT (p : Pu) (u S : Nat) : Value → Value → Prop := fun k v => ∃ l, FirstL p u l ∧ k = dkP p l ∧ v = knV (leastB p S (u - l.length) l)
theorem dkP_inj {p : Pu} {l l' : List Int} (h : dkP p l = dkP p l') : dkI p l = dkI p l' := by
 simp only [Value.agg.injEq, Array.mk.injEq, List.cons.injEq, Value.int.injEq, true_and, and_true] at h
 obtain ⟨h1, h2, h3, h4, h5, h6, h7, h8⟩ := h
 unfold dkI
 rw [h1, h2, h3, h4, h5, h6, h7, h8]
theorem FirstL.snoc {p : Pu} {u : Nat} {l : List Int} (h : FirstL p u l) {w : Int} (hu : l.length < u) (hw : -1 ≤ w ∧ w < p.ws.length) : FirstL p u (l ++ [w]) := by
 refine ⟨by rw [List.length_append, List.length_singleton]; omega, fun i hi => ?_⟩
 rw [List.length_append, List.length_singleton] at hi
 by_cases e : i = l.length
 ·subst e; rw [getD_app_len]; exact hw
 ·rw [getD_app l [w] (by omega)]; exact h.at_ i (by omega)
end Go.Proofs.Ytclkjifgipcamaa.Pm
end
