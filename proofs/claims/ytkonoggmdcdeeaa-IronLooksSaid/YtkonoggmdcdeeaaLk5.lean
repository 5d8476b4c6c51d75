/- WHAT IS PROVED: the given statement of this claim. Conditions: none beyond the given row. -/
import Derived.Test.YtkonoggmdcdeeaaRows
import Derived.Test.YtkonoggmdcdeeaaLk4
section
set_option linter.unusedVariables false
set_option linter.unusedSimpArgs false
set_option maxHeartbeats 4000000
set_option maxRecDepth 100000
namespace Go.Proofs.Ytkonoggmdcdeeaa
open Go.V
/-- What is known: a number, and whether there is a truth. -/
abbrev knVW (o : Option (Nat × Nat)) : Value := .agg #[.int .i64 ((o.getD (0, 0)).1 : Nat), .int .i64 ((o.getD (0, 0)).2 : Nat), .bool o.isSome]
abbrev knAW (o : Option (Nat × Nat)) : AV := .tuple [wrA (o.getD (0, 0)), boo o.isSome]
section
variable (x : Ir) (S C : Nat) (m : Bool) (e0 : Nat × Nat) (more : Nat → Int → Nat × Nat → Nat × Nat) (join : Nat × Nat → Nat × Nat → Nat × Nat)
/-- What is kept of what was told. -/
def memW : Value → Value → Prop := fun k v => ∃ (s : Nat) (a b c d e : Int), s ≤ x.st.length ∧ (∀ z ∈ [a, b, c, d, e], 0 ≤ z ∧ z ≤ (s : Int)) ∧ k = givV s a b c d e ∧ v = knVW (tl x S C m e0 more join (x.st.length - s) s [a, b, c, d, e])
/-- A teller, and what its functions do. -/
structure TelW (fm fj : Fn) (cm cj : List AV) where
  V : Nat → Nat → Nat × Nat → Prop
  vd : Vd more join V e0
  tM : ∀ (n k s : Nat) (o : Int) (r : Nat × Nat) (H : Hp), n < 6 → k ≤ 20000 → s < x.st.length → -1 ≤ o → o < x.ow.length → (S.testBit s = true → 0 ≤ o) → V n k r → PTri Try.prog (.func fm [] cm) [i64 (s : Nat), i64 o, wrA r] H (wrA (more s o r))
  tJ : ∀ (n j k : Nat) (a b : Nat × Nat) (H : Hp), n ≤ 6 → j + k ≤ 20000 → V n j a → V n k b → PTri Try.prog (.func fj [] cj) [wrA a, wrA b] H (wrA (join a b))
abbrev onW (fm fj : Fn) (cm cj : List AV) (i5 i6 : Nat) : AV := .func (.func 95) [] [.rptr 1 1 (fun _ => [irP x S C m]) 0 0, .rptr 1 4 (fun _ => [i64 (e0.1 : Nat), i64 (e0.2 : Nat), .func fm [] cm, .func fj [] cj]) 0 0, .ref i5 0 1 0 0, .ref i6 0 1 0 0]
end
theorem memW_key {x : Ir} {S C : Nat} {m : Bool} {e0 : Nat × Nat} {more : Nat → Int → Nat × Nat → Nat × Nat} {join : Nat × Nat → Nat × Nat → Nat × Nat} {k v : Value} (kx : Gd x) (h : memW x S C m e0 more join k v) : ∃ l, keyOf Try.prog 103 k = some l := by
  obtain ⟨s, a, b, c, d, e, hs, hz, rfl, _⟩ := h
  have := kx.nS
  refine givK s a b c d e fun z hz2 => ?_
  rcases List.mem_cons.1 hz2 with rfl | hz2
  · omega
  · have := hz z hz2; omega
theorem onw_tri {x : Ir} {S C : Nat} {m : Bool} {e0 : Nat × Nat} {more : Nat → Int → Nat × Nat → Nat × Nat} {join : Nat × Nat → Nat × Nat → Nat × Nat} {fm fj : Fn} {cm cj : List AV} {i5 i6 im : Nat} (k : Gd x) (hS : S < 2 ^ 60) (hC : C < 2 ^ 60) (T : TelW x S e0 more join fm fj cm cj) :
    ∀ (n s : Nat) (a b c d e : Int) (H : Hp), s + n = x.st.length → (∀ z ∈ [a, b, c, d, e], 0 ≤ z ∧ z ≤ (s : Int)) → H i5 = some (.box 1 1 fun _ => [.map im]) → H i6 = some (.box 1 1 fun _ => [onW x S C m e0 fm fj cm cj i5 i6]) → H im = some (.memo (memW x S C m e0 more join)) →
      PTri Try.prog (onW x S C m e0 fm fj cm cj i5 i6) [.agg (givC s [a, b, c, d, e])] H (knAW (tl x S C m e0 more join n s [a, b, c, d, e])) := by
  have nS := k.nS
  have nO := k.nO
  intro n
  induction n with
  | zero =>
    intro s a b c d e H hs hu h5 h6 hm
    refine Tri.drop ?_
    refine tri_m (m := fun _ => false) Try.func95 (by kernel_rfl) rfl (by simp only [List.length_append, List.length_cons, List.length_nil, Try.ntmps95]; decide) ?_
    have es : s = x.st.length := by omega
    subst es
    simp only [vsAll, boxA, opA, allocA, dstOk, nilSliceOp, argFr, Nat.reduceAdd, Nat.reduceLT, eq_self, wtAll, Try.ntmps95]
    intro ir hh_ir; (try simp only [Hp.set_none, ite_none] at hh_ir)
    refine vs_draw2 [0, 0, 0, 0, 0, 0, 0, 0, 0] [] [0, 1, 2, 3, 4, 5, 6, 7, 8] (by decide +kernel) ?_
    simp only [vsAll, binA, binLitA, intA, loadA, loadRow, partA, partOk, fieldAddrA, lenA, nilCheckA, cellA, cellsA, opA, newCells, okCells, storeObj, dstOk, nilSliceOp, resA, argFr, retA.eq_2, Nat.reduceAdd, Nat.reduceLT, Nat.reduceLeDiff, Nat.reduceEqDiff, ↓reduceIte, eq_self, wtAll, Try.results95]
    exact dropR_pure rfl (by (repeat (first | exact HSub_rfl | refine HSub_put_eq (by simp only [vsAll, binA, binLitA, intA, aggA, boolA, nilA2, isConst, unA, loadA, loadRow, partA, partOk, fieldAddrA, indexAddrA, indexA, fieldA, extractA, lenA, nilCheckA, boxA, cellA, cellsA, fillA, okParts, buildSliceA, buildMutA, makeSliceA, partIdx, elemsA, lensA, ifaceA, convA, mmA, pickA, okAll, stAll, opsA, partsA, partsOk, opA, allocA, boxMutA, newCells, okCells, storeObj, appendA, guardV, taA, nM, mapUpA, lookA, sliceA, boundsA, opO, okO, copyA, dstOk, nilA, quietOk, nilSliceOp, panA, resA, argFr, retA.eq_1, retA.eq_2, Nat.reduceAdd, Nat.reduceSub, Nat.reduceMul, Nat.reduceLT, Nat.reduceLeDiff, Nat.reduceEqDiff, Nat.reduceBEq, Int.reduceAdd, Int.reduceSub, Int.reduceMul, Int.reduceNeg, Int.reduceLE, Int.reduceLT, Int.reduceEq, Int.reduceNe, Int.reduceToNat, ↓reduceIte, reduceCtorEq, implies_true, forall_const, eq_self, ne_eq, wtAll, Try.ntmps95, Try.results95, hh_ir]) ?_ | refine HSub_drop2 (by simp only [eq_self, hh_ir]) ?_ | refine HSub_keep_eq (by simp only [vsAll, binA, binLitA, intA, aggA, boolA, nilA2, isConst, unA, loadA, loadRow, partA, partOk, fieldAddrA, indexAddrA, indexA, fieldA, extractA, lenA, nilCheckA, boxA, cellA, cellsA, fillA, okParts, buildSliceA, buildMutA, makeSliceA, partIdx, elemsA, lensA, ifaceA, convA, mmA, pickA, okAll, stAll, opsA, partsA, partsOk, opA, allocA, boxMutA, newCells, okCells, storeObj, appendA, guardV, taA, nM, mapUpA, lookA, sliceA, boundsA, opO, okO, copyA, dstOk, nilA, quietOk, nilSliceOp, panA, resA, argFr, retA.eq_1, retA.eq_2, Nat.reduceAdd, Nat.reduceSub, Nat.reduceMul, Nat.reduceLT, Nat.reduceLeDiff, Nat.reduceEqDiff, Nat.reduceBEq, Int.reduceAdd, Int.reduceSub, Int.reduceMul, Int.reduceNeg, Int.reduceLE, Int.reduceLT, Int.reduceEq, Int.reduceNe, Int.reduceToNat, ↓reduceIte, reduceCtorEq, implies_true, forall_const, eq_self, ne_eq, wtAll, Try.ntmps95, Try.results95, hh_ir]) ?_)))
  | succ n ih =>
    intro s a b c d e H hs hu h5 h6 hm
    refine Tri.unpack hm fun es ck hes hpw => ?_
    have hkey : ∃ l, keyOf Try.prog 103 (givV s a b c d e) = some l := givK s a b c d e fun z hz2 => by
      rcases List.mem_cons.1 hz2 with rfl | hz2
      · omega
      · have := hu z hz2; omega
    obtain ⟨o, hfo, hst, hcase⟩ := found_of und125 key103 hkey (fun e he => memW_key k (hes e he)) hpw
    have hback : Go.V.HSub (H.set im (.raw (.map es ck))) H := HSub_set' hm (memo_le hes hpw)
    have n5 : ¬ i5 = im := fun q => by rw [q, hm] at h5; cases h5
    have n6 : ¬ i6 = im := fun q => by rw [q, hm] at h6; cases h6
    have n5' : ¬ im = i5 := fun q => n5 q.symm
    have n6' : ¬ im = i6 := fun q => n6 q.symm
    have n56 : ¬ i5 = i6 := fun q => by
      rw [q, h6] at h5
      simp only [Option.some.injEq, Obj.box.injEq, true_and] at h5
      have := congrFun h5 0
      simp at this
    have n65 : ¬ i6 = i5 := fun q => n56 q.symm
    refine Tri.drop ?_
    refine tri_m (m := fun _ => false) Try.func95 (by kernel_rfl) rfl (by simp only [List.length_append, List.length_cons, List.length_nil, Try.ntmps95]; decide) ?_
    skip
    simp only [vsAll, boxA, opA, allocA, dstOk, nilSliceOp, argFr, Nat.reduceAdd, Nat.reduceLT, eq_self, wtAll, Try.ntmps95]
    intro ir hh_ir; (try simp only [ite_none] at hh_ir)
    have r1 := ne_some hh_ir.2 h5
    have r2 := ne_some hh_ir.2 h6
    have r3 := ne_some hh_ir.2 hm
    skip
    refine vs_draw2 [0, 0, 0, 0, 0, 0, 0, 0, 0] [] [0, 1, 2, 3, 4, 5, 6, 7, 8] (by decide +kernel) ?_
    simp only [vsAll, binA, binLitA, intA, loadA, loadRow, partA, partOk, fieldAddrA, lenA, nilCheckA, opA, dstOk, argFr, Nat.reduceLT, Nat.reduceEqDiff, ↓reduceIte, eq_self, wtAll]
    refine condV (fun hc => ?_) (fun hc => ?_)
    · simp only [decide_eq_true_eq] at hc; ((try clear h5); (try clear h6); (try clear hm); (try clear n5); (try clear n6); (try clear n5'); (try clear n6'); (try clear n56); (try clear n65); (try clear hh_ir); (try clear r1); (try clear r2); (try clear r3); omega)
    · simp only [vsAll, loadA, loadRow, partA, partOk, extractA, cellsA, opA, allocA, newCells, storeObj, lookA, dstOk, nilSliceOp, argFr, Nat.reduceAdd, Nat.reduceMul, Nat.reduceLT, Nat.reduceEqDiff, ↓reduceIte, eq_self, wtAll, h5, n5, hh_ir, r1, mapZ125]
      refine ⟨o, hfo _, ?_⟩
      rcases hcase with ⟨rfl, hno⟩ | ⟨j, en, rfl, hj, hkn⟩
      · simp only [vsAll, loadA, loadRow, partA, partOk, cellA, okAll, stAll, opsA, opA, allocA, okCells, dstOk, argFr, Nat.reduceAdd, Nat.reduceLT, Nat.reduceEqDiff, ↓reduceIte, eq_self, wtAll]
        intro i8 hh_i8; (try simp only [ite_none] at hh_i8)
        intro i10 hh_i10; (try simp only [ite_none] at hh_i10)
        rw [Hp.set_set]
        have a1 := ne_some hh_i8.2.2 h5
        have a2 := ne_some hh_i8.2.2 h6
        have a3 := ne_some hh_i8.2.2 hm
        have a4 := ne_some hh_i10.2.2.2.2 h5
        have a5 := ne_some hh_i10.2.2.2.2 h6
        have a6 := ne_some hh_i10.2.2.2.2 hm
        skip
        refine callK_pure (next_tri x S C m s a b c d e _) ?_
        simp only [vsAll]
        have hlen := nxt_len x S C m s [a, b, c, d, e] nO
        generalize hN : nxt x S C m s [a, b, c, d, e] = N at hlen
        generalize hf : tl x S C m e0 more join n (s + 1) = f
        have hV : ∀ p ∈ N, ∀ r, f p.2 = some r → T.V n (5 ^ n) r := fun p _ r hr => tl_V T.vd x S C m nO n (s + 1) p.2 r (by rw [hf]; exact hr)
        have htl : tl x S C m e0 more join (n + 1) s [a, b, c, d, e] = tlP more join f s N := by rw [tl_succ, hf, hN]
        have hlt : ∀ p ∈ N, p.1 < 5 := fun p hp => nxt_lt (x := x) (S := S) (C := C) (m := m) (s := s) (u := [a, b, c, d, e]) nO (by rw [hN]; exact hp)
        have hpow : 5 ^ n ≤ 5 ^ 5 := Nat.pow_le_pow_right (by decide) (by ((try clear h5); (try clear h6); (try clear hm); (try clear n5); (try clear n6); (try clear n5'); (try clear n6'); (try clear n56); (try clear n65); (try clear hh_ir); (try clear r1); (try clear r2); (try clear r3); (try clear hh_i8); (try clear hh_i10); (try clear a1); (try clear a2); (try clear a3); (try clear a4); (try clear a5); (try clear a6); omega))
        generalize hpv : (fun i => tlP more join f s (N.take i)) = pv
        refine vs_rangeS (σ := Unit) (nextL x S C m s [a, b, c, d, e]) (fun _ _ => True)
          (fun i _ => (H.set ir (.box 2 1 fun _ => [i64 0, i64 0])).set i10 (.box 3 1 fun _ => [i64 (((pv i).getD (0, 0)).1 : Nat), i64 (((pv i).getD (0, 0)).2 : Nat), boo (pv i).isSome])) () (fun _ => True) Try.func98 (by kernel_rfl) rfl (by simp only [vsAll, opA, ↓reduceIte, eq_self]) (by simp only [vsAll, opA, ↓reduceIte, eq_self]) (by decide) next_pair
          (fun yf H K hi => next1_tri x S C m s a b c d e k (by ((try clear h5); (try clear h6); (try clear hm); (try clear n5); (try clear n6); (try clear n5'); (try clear n6'); (try clear n56); (try clear n65); (try clear hh_ir); (try clear r1); (try clear r2); (try clear r3); (try clear hh_i8); (try clear hh_i10); (try clear a1); (try clear a2); (try clear a3); (try clear a4); (try clear a5); (try clear a6); omega)) hS hC (fun z hz => by have := hu z hz; ((try clear h5); (try clear h6); (try clear hm); (try clear n5); (try clear n6); (try clear n5'); (try clear n6'); (try clear n56); (try clear n65); (try clear hh_ir); (try clear r1); (try clear r2); (try clear r3); (try clear hh_i8); (try clear hh_i10); (try clear a1); (try clear a2); (try clear a3); (try clear a4); (try clear a5); (try clear a6); omega)) yf H _ K hi) trivial ?_ ?_ ?_ ?_ ?_
        · have e0 : pv 0 = none := by rw [← hpv]; rfl
          simp only [e0, Option.getD_none, Option.isSome_none, Int.natCast_zero]
          exact HSub.set (HSub_drop2 (by rw [Hp.set_ne _ _ hh_i8.1.1]; exact hh_i8.2.2) (HSub.set hback (.refl _))) (.refl _)
        · intro i _ _ q hq; simp only [Hp.set_none] at hq ⊢; exact hq
        · intros; trivial
        · rintro i v ⟨⟩ hv _ lid did l lo h1 h2 h3
          simp only [Hp.set_none] at h1 h2
          have h4 : ¬ did = lid := fun e => h3 e.symm
          have b1 := ne_some h1.2.2 h5
          have b2 := ne_some h1.2.2 h6
          have b3 := ne_some h1.2.2 hm
          have b4 := ne_some h2.2.2 h5
          have b5 := ne_some h2.2.2 h6
          have b6 := ne_some h2.2.2 hm
          skip
          obtain ⟨hi, rfl⟩ := next_get hv
          rw [hN] at hi ⊢
          have hmem : N.getD i (0, []) ∈ N := mem_getD N i _ hi
          have hpn : pv (i + 1) = comb join (pv i) ((f (N.getD i (0, [])).2).map (more s (N.getD i (0, [])).1)) := by
            rw [← hpv]; exact tlP_next more join f s N i hi
          have hmem2 : N.getD i (0, []) ∈ nxt x S C m s [a, b, c, d, e] := by rw [hN]; exact hmem
          have hgiv := nxt_given hmem2 rfl hu
          have hmm := nxt_mem hmem2
          clear hmem2
          generalize N.getD i (0, []) = p at hmem hpn hgiv hmm ⊢
          obtain ⟨o, u⟩ := p
          obtain ⟨hu5, hub⟩ := hgiv
          simp only [] at hu5 hub hpn ⊢
          obtain ⟨ya, yb, yc, yd, ye, rfl⟩ := five hu5
          have hoo : -1 ≤ o ∧ o < (x.ow.length : Int) ∧ (S.testBit s = true → 0 ≤ o) := by
            rcases hmm with ⟨_, o', ho', _, he⟩ | ⟨hbb, he⟩
            · have := (Prod.mk.inj he).1
              exact ⟨by ((try clear h5); (try clear h6); (try clear hm); (try clear n5); (try clear n6); (try clear n5'); (try clear n6'); (try clear n56); (try clear n65); (try clear hh_ir); (try clear r1); (try clear r2); (try clear r3); (try clear hh_i8); (try clear hh_i10); (try clear a1); (try clear a2); (try clear a3); (try clear a4); (try clear a5); (try clear a6); (try clear h1); (try clear h2); (try clear h3); (try clear h4); (try clear b1); (try clear b2); (try clear b3); (try clear b4); (try clear b5); (try clear b6); omega), by ((try clear h5); (try clear h6); (try clear hm); (try clear n5); (try clear n6); (try clear n5'); (try clear n6'); (try clear n56); (try clear n65); (try clear hh_ir); (try clear r1); (try clear r2); (try clear r3); (try clear hh_i8); (try clear hh_i10); (try clear a1); (try clear a2); (try clear a3); (try clear a4); (try clear a5); (try clear a6); (try clear h1); (try clear h2); (try clear h3); (try clear h4); (try clear b1); (try clear b2); (try clear b3); (try clear b4); (try clear b5); (try clear b6); omega), fun _ => by ((try clear h5); (try clear h6); (try clear hm); (try clear n5); (try clear n6); (try clear n5'); (try clear n6'); (try clear n56); (try clear n65); (try clear hh_ir); (try clear r1); (try clear r2); (try clear r3); (try clear hh_i8); (try clear hh_i10); (try clear a1); (try clear a2); (try clear a3); (try clear a4); (try clear a5); (try clear a6); (try clear h1); (try clear h2); (try clear h3); (try clear h4); (try clear b1); (try clear b2); (try clear b3); (try clear b4); (try clear b5); (try clear b6); omega)⟩
            · have := (Prod.mk.inj he).1
              exact ⟨by ((try clear h5); (try clear h6); (try clear hm); (try clear n5); (try clear n6); (try clear n5'); (try clear n6'); (try clear n56); (try clear n65); (try clear hh_ir); (try clear r1); (try clear r2); (try clear r3); (try clear hh_i8); (try clear hh_i10); (try clear a1); (try clear a2); (try clear a3); (try clear a4); (try clear a5); (try clear a6); (try clear h1); (try clear h2); (try clear h3); (try clear h4); (try clear b1); (try clear b2); (try clear b3); (try clear b4); (try clear b5); (try clear b6); omega), by ((try clear h5); (try clear h6); (try clear hm); (try clear n5); (try clear n6); (try clear n5'); (try clear n6'); (try clear n56); (try clear n65); (try clear hh_ir); (try clear r1); (try clear r2); (try clear r3); (try clear hh_i8); (try clear hh_i10); (try clear a1); (try clear a2); (try clear a3); (try clear a4); (try clear a5); (try clear a6); (try clear h1); (try clear h2); (try clear h3); (try clear h4); (try clear b1); (try clear b2); (try clear b3); (try clear b4); (try clear b5); (try clear b6); omega), fun q => by rw [hbb] at q; cases q⟩
          have ih' := fun H => ih (s + 1) ya yb yc yd ye H (by ((try clear h5); (try clear h6); (try clear hm); (try clear n5); (try clear n6); (try clear n5'); (try clear n6'); (try clear n56); (try clear n65); (try clear hh_ir); (try clear r1); (try clear r2); (try clear r3); (try clear hh_i8); (try clear hh_i10); (try clear a1); (try clear a2); (try clear a3); (try clear a4); (try clear a5); (try clear a6); (try clear h1); (try clear h2); (try clear h3); (try clear h4); (try clear b1); (try clear b2); (try clear b3); (try clear b4); (try clear b5); (try clear b6); omega)) hub
          simp only [Int.natCast_add, Int.natCast_one, hf] at ih'
          simp only [vsAll, loadA, loadRow, partA, partOk, cellA, cellsA, okAll, stAll, opsA, opA, allocA, newCells, okCells, storeObj, dstOk, quietOk, nilSliceOp, argFr, Nat.reduceAdd, Nat.reduceLT, Nat.reduceEqDiff, ↓reduceIte, eq_self, wtAll, h6, r2, a5, b2, b5]
          intro i12 hh_i12; (try simp only [ite_none] at hh_i12)
          have c1 := ne_some hh_i12.2.2.2.2 h5
          have c2 := ne_some hh_i12.2.2.2.2 h6
          have c3 := ne_some hh_i12.2.2.2.2 hm
          skip
          simp only [vsAll, Nat.reduceLT, ↓reduceIte, eq_self, hh_i12, c2]
          refine callK_pure (ih' _ (by simp only [vsAll, ↓reduceIte, eq_self, h5, r1, a4, b1, b4, c1]) (by simp only [vsAll, ↓reduceIte, eq_self, h6, r2, a5, b2, b5, c2]) (by simp only [vsAll, ↓reduceIte, eq_self, hm, hh_ir, hh_i10, b3, b6, c3])) ?_
          generalize hq : f [ya, yb, yc, yd, ye] = q at hpn
          simp only [vsAll, unA, extractA, cellA, cellsA, opA, allocA, newCells, okCells, storeObj, dstOk, quietOk, nilSliceOp, Nat.reduceAdd, Nat.reduceLT, Nat.reduceEqDiff, ↓reduceIte, eq_self, wtAll]
          intro i13 hh_i13; (try simp only [ite_none] at hh_i13)
          cases q with
          | none =>
            simp only [Option.map_none, comb_none] at hpn
            simp only [vsAll, ↓reduceIte, eq_self, hh_i13]
            refine ⟨⟨_, _, rfl⟩, _, ⟨(), rfl⟩, ?_⟩
            rw [hpn]
            (repeat (first | exact HSub_rfl | refine HSub_put_eq (by simp only [vsAll, ↓reduceIte, eq_self, hh_i10, h1, h2, h4, hh_i12, hh_i13]) ?_ | refine HSub_drop2 (by simp only [eq_self, hh_ir, hh_i10, h1, h2, hh_i12, hh_i13]) ?_ | refine HSub_keep_eq (by simp only [vsAll, binA, binLitA, intA, aggA, boolA, nilA2, isConst, unA, loadA, loadRow, partA, partOk, fieldAddrA, indexAddrA, indexA, fieldA, extractA, lenA, nilCheckA, boxA, cellA, cellsA, fillA, okParts, buildSliceA, buildMutA, makeSliceA, partIdx, elemsA, lensA, ifaceA, convA, mmA, pickA, okAll, stAll, opsA, partsA, partsOk, opA, allocA, boxMutA, newCells, okCells, storeObj, appendA, guardV, taA, nM, mapUpA, lookA, sliceA, boundsA, opO, okO, copyA, dstOk, nilA, quietOk, nilSliceOp, panA, resA, argFr, retA.eq_1, retA.eq_2, Nat.reduceAdd, Nat.reduceSub, Nat.reduceMul, Nat.reduceLT, Nat.reduceLeDiff, Nat.reduceEqDiff, Nat.reduceBEq, Int.reduceAdd, Int.reduceSub, Int.reduceMul, Int.reduceNeg, Int.reduceLE, Int.reduceLT, Int.reduceEq, Int.reduceNe, Int.reduceToNat, ↓reduceIte, reduceCtorEq, implies_true, forall_const, eq_self, ne_eq, wtAll, Try.ntmps95, Try.results95, h5, h6, hm, n5, n6, n5', n6', n56, n65, hh_ir, r1, r2, r3, hh_i8, hh_i10, a1, a2, a3, a4, a5, a6, h1, h2, h3, h4, b1, b2, b3, b4, b5, b6, hh_i12, c1, c2, c3, hh_i13]) ?_))
          | some r =>
            simp only [Option.map_some] at hpn
            have hr := hV _ hmem r hq
            simp only [vsAll, loadA, loadRow, partA, partOk, fieldAddrA, okAll, stAll, opsA, opA, dstOk, quietOk, argFr, Nat.reduceLT, Nat.reduceEqDiff, ↓reduceIte, eq_self, wtAll]
            refine callK_pure (T.tM n (5 ^ n) s o r _ (by ((try clear h5); (try clear h6); (try clear hm); (try clear n5); (try clear n6); (try clear n5'); (try clear n6'); (try clear n56); (try clear n65); (try clear hh_ir); (try clear r1); (try clear r2); (try clear r3); (try clear hh_i8); (try clear hh_i10); (try clear a1); (try clear a2); (try clear a3); (try clear a4); (try clear a5); (try clear a6); (try clear h1); (try clear h2); (try clear h3); (try clear h4); (try clear b1); (try clear b2); (try clear b3); (try clear b4); (try clear b5); (try clear b6); (try clear hh_i12); (try clear c1); (try clear c2); (try clear c3); (try clear hh_i13); omega)) (by ((try clear h5); (try clear h6); (try clear hm); (try clear n5); (try clear n6); (try clear n5'); (try clear n6'); (try clear n56); (try clear n65); (try clear hh_ir); (try clear r1); (try clear r2); (try clear r3); (try clear hh_i8); (try clear hh_i10); (try clear a1); (try clear a2); (try clear a3); (try clear a4); (try clear a5); (try clear a6); (try clear h1); (try clear h2); (try clear h3); (try clear h4); (try clear b1); (try clear b2); (try clear b3); (try clear b4); (try clear b5); (try clear b6); (try clear hh_i12); (try clear c1); (try clear c2); (try clear c3); (try clear hh_i13); omega)) (by ((try clear h5); (try clear h6); (try clear hm); (try clear n5); (try clear n6); (try clear n5'); (try clear n6'); (try clear n56); (try clear n65); (try clear hh_ir); (try clear r1); (try clear r2); (try clear r3); (try clear hh_i8); (try clear hh_i10); (try clear a1); (try clear a2); (try clear a3); (try clear a4); (try clear a5); (try clear a6); (try clear h1); (try clear h2); (try clear h3); (try clear h4); (try clear b1); (try clear b2); (try clear b3); (try clear b4); (try clear b5); (try clear b6); (try clear hh_i12); (try clear c1); (try clear c2); (try clear c3); (try clear hh_i13); omega)) hoo.1 hoo.2.1 hoo.2.2 hr) ?_
            simp only [vsAll, loadA, loadRow, partA, partOk, fieldAddrA, cellA, cellsA, opA, allocA, newCells, okCells, storeObj, dstOk, quietOk, Nat.reduceAdd, Nat.reduceLT, Nat.reduceEqDiff, ↓reduceIte, eq_self, wtAll, h1, h2, hh_i12, hh_i13]
            intro i15 hh_i15; (try simp only [ite_none] at hh_i15)
            cases hpi : pv i with
            | none =>
              rw [hpi] at hpn
              simp only [comb] at hpn
              simp only [vsAll, loadA, loadRow, partA, partOk, cellA, cellsA, fillA, okParts, partsA, partsOk, opA, newCells, okCells, storeObj, dstOk, quietOk, Nat.reduceAdd, Nat.reduceLT, Nat.reduceLeDiff, Nat.reduceEqDiff, ↓reduceIte, eq_self, wtAll, h1, h2, hh_i12, hh_i13, hh_i15]
              refine ⟨⟨_, _, rfl⟩, _, ⟨(), rfl⟩, ?_⟩
              rw [hpn]
              simp only [Option.getD_some, Option.isSome_some]
              (repeat (first | exact HSub_rfl | refine HSub_put_eq (by simp only [vsAll, ↓reduceIte, eq_self, hh_i10, h1, h2, h4, hh_i12, hh_i13, hh_i15]) ?_ | refine HSub_drop2 (by simp only [eq_self, hh_ir, hh_i10, h1, h2, hh_i12, hh_i13, hh_i15]) ?_ | refine HSub_keep_eq (by simp only [vsAll, binA, binLitA, intA, aggA, boolA, nilA2, isConst, unA, loadA, loadRow, partA, partOk, fieldAddrA, indexAddrA, indexA, fieldA, extractA, lenA, nilCheckA, boxA, cellA, cellsA, fillA, okParts, buildSliceA, buildMutA, makeSliceA, partIdx, elemsA, lensA, ifaceA, convA, mmA, pickA, okAll, stAll, opsA, partsA, partsOk, opA, allocA, boxMutA, newCells, okCells, storeObj, appendA, guardV, taA, nM, mapUpA, lookA, sliceA, boundsA, opO, okO, copyA, dstOk, nilA, quietOk, nilSliceOp, panA, resA, argFr, retA.eq_1, retA.eq_2, Nat.reduceAdd, Nat.reduceSub, Nat.reduceMul, Nat.reduceLT, Nat.reduceLeDiff, Nat.reduceEqDiff, Nat.reduceBEq, Int.reduceAdd, Int.reduceSub, Int.reduceMul, Int.reduceNeg, Int.reduceLE, Int.reduceLT, Int.reduceEq, Int.reduceNe, Int.reduceToNat, ↓reduceIte, reduceCtorEq, implies_true, forall_const, eq_self, ne_eq, wtAll, Try.ntmps95, Try.results95, h5, h6, hm, n5, n6, n5', n6', n56, n65, hh_ir, r1, r2, r3, hh_i8, hh_i10, a1, a2, a3, a4, a5, a6, h1, h2, h3, h4, b1, b2, b3, b4, b5, b6, hh_i12, c1, c2, c3, hh_i13, hh_i15]) ?_))
            | some z =>
              have hz : T.V (n + 1) (i * 5 ^ n) z := tlP_V T.vd (f := f) (s := s) (l := N) hlt hV i (by ((try clear h5); (try clear h6); (try clear hm); (try clear n5); (try clear n6); (try clear n5'); (try clear n6'); (try clear n56); (try clear n65); (try clear hh_ir); (try clear r1); (try clear r2); (try clear r3); (try clear hh_i8); (try clear hh_i10); (try clear a1); (try clear a2); (try clear a3); (try clear a4); (try clear a5); (try clear a6); (try clear h1); (try clear h2); (try clear h3); (try clear h4); (try clear b1); (try clear b2); (try clear b3); (try clear b4); (try clear b5); (try clear b6); (try clear hh_i12); (try clear c1); (try clear c2); (try clear c3); (try clear hh_i13); (try clear hh_i15); omega)) z (by rw [← hpi, ← hpv])
              have hw : i * 5 ^ n ≤ 5 * 5 ^ 5 := Nat.mul_le_mul (by ((try clear h5); (try clear h6); (try clear hm); (try clear n5); (try clear n6); (try clear n5'); (try clear n6'); (try clear n56); (try clear n65); (try clear hh_ir); (try clear r1); (try clear r2); (try clear r3); (try clear hh_i8); (try clear hh_i10); (try clear a1); (try clear a2); (try clear a3); (try clear a4); (try clear a5); (try clear a6); (try clear h1); (try clear h2); (try clear h3); (try clear h4); (try clear b1); (try clear b2); (try clear b3); (try clear b4); (try clear b5); (try clear b6); (try clear hh_i12); (try clear c1); (try clear c2); (try clear c3); (try clear hh_i13); (try clear hh_i15); omega)) hpow
              rw [hpi] at hpn
              simp only [comb] at hpn
              simp only [vsAll, loadA, loadRow, partA, partOk, fieldAddrA, okAll, stAll, opsA, opA, dstOk, quietOk, argFr, Nat.reduceLT, Nat.reduceLeDiff, Nat.reduceEqDiff, ↓reduceIte, eq_self, wtAll, h1, h2, hh_i12, hh_i13, hh_i15, Option.getD_some]
              refine callK_pure (T.tJ (n + 1) (i * 5 ^ n) (5 ^ n) z (more s o r) _ (by ((try clear h5); (try clear h6); (try clear hm); (try clear n5); (try clear n6); (try clear n5'); (try clear n6'); (try clear n56); (try clear n65); (try clear hh_ir); (try clear r1); (try clear r2); (try clear r3); (try clear hh_i8); (try clear hh_i10); (try clear a1); (try clear a2); (try clear a3); (try clear a4); (try clear a5); (try clear a6); (try clear h1); (try clear h2); (try clear h3); (try clear h4); (try clear b1); (try clear b2); (try clear b3); (try clear b4); (try clear b5); (try clear b6); (try clear hh_i12); (try clear c1); (try clear c2); (try clear c3); (try clear hh_i13); (try clear hh_i15); omega)) (by ((try clear h5); (try clear h6); (try clear hm); (try clear n5); (try clear n6); (try clear n5'); (try clear n6'); (try clear n56); (try clear n65); (try clear hh_ir); (try clear r1); (try clear r2); (try clear r3); (try clear hh_i8); (try clear hh_i10); (try clear a1); (try clear a2); (try clear a3); (try clear a4); (try clear a5); (try clear a6); (try clear h1); (try clear h2); (try clear h3); (try clear h4); (try clear b1); (try clear b2); (try clear b3); (try clear b4); (try clear b5); (try clear b6); (try clear hh_i12); (try clear c1); (try clear c2); (try clear c3); (try clear hh_i13); (try clear hh_i15); omega)) hz (T.vd.hM n _ s o r (by ((try clear h5); (try clear h6); (try clear hm); (try clear n5); (try clear n6); (try clear n5'); (try clear n6'); (try clear n56); (try clear n65); (try clear hh_ir); (try clear r1); (try clear r2); (try clear r3); (try clear hh_i8); (try clear hh_i10); (try clear a1); (try clear a2); (try clear a3); (try clear a4); (try clear a5); (try clear a6); (try clear h1); (try clear h2); (try clear h3); (try clear h4); (try clear b1); (try clear b2); (try clear b3); (try clear b4); (try clear b5); (try clear b6); (try clear hh_i12); (try clear c1); (try clear c2); (try clear c3); (try clear hh_i13); (try clear hh_i15); omega)) hr)) ?_
              simp only [vsAll, loadA, loadRow, partA, partOk, cellA, cellsA, fillA, okParts, partsA, partsOk, opA, newCells, okCells, storeObj, dstOk, quietOk, Nat.reduceAdd, Nat.reduceLT, Nat.reduceLeDiff, Nat.reduceEqDiff, ↓reduceIte, eq_self, wtAll, h1, h2, hh_i12, hh_i13, hh_i15]
              refine ⟨⟨_, _, rfl⟩, _, ⟨(), rfl⟩, ?_⟩
              rw [hpn]
              simp only [Option.getD_some, Option.isSome_some]
              (repeat (first | exact HSub_rfl | refine HSub_put_eq (by simp only [vsAll, ↓reduceIte, eq_self, hh_i10, h1, h2, h4, hh_i12, hh_i13, hh_i15]) ?_ | refine HSub_drop2 (by simp only [eq_self, hh_ir, hh_i10, h1, h2, hh_i12, hh_i13, hh_i15]) ?_ | refine HSub_keep_eq (by simp only [vsAll, binA, binLitA, intA, aggA, boolA, nilA2, isConst, unA, loadA, loadRow, partA, partOk, fieldAddrA, indexAddrA, indexA, fieldA, extractA, lenA, nilCheckA, boxA, cellA, cellsA, fillA, okParts, buildSliceA, buildMutA, makeSliceA, partIdx, elemsA, lensA, ifaceA, convA, mmA, pickA, okAll, stAll, opsA, partsA, partsOk, opA, allocA, boxMutA, newCells, okCells, storeObj, appendA, guardV, taA, nM, mapUpA, lookA, sliceA, boundsA, opO, okO, copyA, dstOk, nilA, quietOk, nilSliceOp, panA, resA, argFr, retA.eq_1, retA.eq_2, Nat.reduceAdd, Nat.reduceSub, Nat.reduceMul, Nat.reduceLT, Nat.reduceLeDiff, Nat.reduceEqDiff, Nat.reduceBEq, Int.reduceAdd, Int.reduceSub, Int.reduceMul, Int.reduceNeg, Int.reduceLE, Int.reduceLT, Int.reduceEq, Int.reduceNe, Int.reduceToNat, ↓reduceIte, reduceCtorEq, implies_true, forall_const, eq_self, ne_eq, wtAll, Try.ntmps95, Try.results95, h5, h6, hm, n5, n6, n5', n6', n56, n65, hh_ir, r1, r2, r3, hh_i8, hh_i10, a1, a2, a3, a4, a5, a6, h1, h2, h3, h4, b1, b2, b3, b4, b5, b6, hh_i12, c1, c2, c3, hh_i13, hh_i15]) ?_))
        · rintro ⟨⟩ _ lid did lo h1 h2 h3
          simp only [Hp.set_none] at h1 h2
          have h4 : ¬ did = lid := fun e => h3 e.symm
          have b1 := ne_some h1.2.2 h5
          have b2 := ne_some h1.2.2 h6
          have b3 := ne_some h1.2.2 hm
          have b4 := ne_some h2.2.2 h5
          have b5 := ne_some h2.2.2 h6
          have b6 := ne_some h2.2.2 hm
          skip
          have el : (nextL x S C m s [a, b, c, d, e]).length = N.length := by rw [nextL_eq, hN, List.length_map]
          have epv : pv N.length = tl x S C m e0 more join (n + 1) s [a, b, c, d, e] := by rw [htl, ← hpv]; simp only [List.take_length]
          rw [el, epv]
          generalize htv : tl x S C m e0 more join (n + 1) s [a, b, c, d, e] = tv
          simp only [vsAll, loadA, loadRow, partA, partOk, opA, mapUpA, dstOk, argFr, Nat.reduceLT, Nat.reduceEqDiff, ↓reduceIte, eq_self, wtAll, h5, hm, hh_ir, r1, hh_i10, a4, h1, h2, b1, b3, b4, b6]
          refine ⟨103, 127, und125, key103, hkey, fun q v h => memW_key k h, ⟨s, a, b, c, d, e, by ((try clear h5); (try clear h6); (try clear hm); (try clear n5); (try clear n6); (try clear n5'); (try clear n6'); (try clear n56); (try clear n65); (try clear hh_ir); (try clear r1); (try clear r2); (try clear r3); (try clear hh_i8); (try clear hh_i10); (try clear a1); (try clear a2); (try clear a3); (try clear a4); (try clear a5); (try clear a6); (try clear h1); (try clear h2); (try clear h3); (try clear h4); (try clear b1); (try clear b2); (try clear b3); (try clear b4); (try clear b5); (try clear b6); omega), hu, rfl, by rw [show x.st.length - s = n + 1 by ((try clear h5); (try clear h6); (try clear hm); (try clear n5); (try clear n6); (try clear n5'); (try clear n6'); (try clear n56); (try clear n65); (try clear hh_ir); (try clear r1); (try clear r2); (try clear r3); (try clear hh_i8); (try clear hh_i10); (try clear a1); (try clear a2); (try clear a3); (try clear a4); (try clear a5); (try clear a6); (try clear h1); (try clear h2); (try clear h3); (try clear h4); (try clear b1); (try clear b2); (try clear b3); (try clear b4); (try clear b5); (try clear b6); omega), htv]⟩, ?_⟩
          refine vs_draw2 [0, 0, 0, 0, 1, 3] [([0, 1, 2, 3], [3], 4), ([], [], 5)] [] (by decide +kernel) ?_
          simp only [vsAll, loadA, loadRow, partA, partOk, fieldAddrA, cellA, cellsA, opA, newCells, okCells, storeObj, dstOk, nilSliceOp, resA, retA.eq_2, Nat.reduceAdd, Nat.reduceLT, Nat.reduceLeDiff, Nat.reduceEqDiff, ↓reduceIte, eq_self, wtAll, Try.results95, hh_i10, h1, h2, h4]
          exact dropR_pure rfl (by (repeat (first | exact HSub_rfl | refine HSub_put_eq (by simp only [vsAll, binA, binLitA, intA, aggA, boolA, nilA2, isConst, unA, loadA, loadRow, partA, partOk, fieldAddrA, indexAddrA, indexA, fieldA, extractA, lenA, nilCheckA, boxA, cellA, cellsA, fillA, okParts, buildSliceA, buildMutA, makeSliceA, partIdx, elemsA, lensA, ifaceA, convA, mmA, pickA, okAll, stAll, opsA, partsA, partsOk, opA, allocA, boxMutA, newCells, okCells, storeObj, appendA, guardV, taA, nM, mapUpA, lookA, sliceA, boundsA, opO, okO, copyA, dstOk, nilA, quietOk, nilSliceOp, panA, resA, argFr, retA.eq_1, retA.eq_2, Nat.reduceAdd, Nat.reduceSub, Nat.reduceMul, Nat.reduceLT, Nat.reduceLeDiff, Nat.reduceEqDiff, Nat.reduceBEq, Int.reduceAdd, Int.reduceSub, Int.reduceMul, Int.reduceNeg, Int.reduceLE, Int.reduceLT, Int.reduceEq, Int.reduceNe, Int.reduceToNat, ↓reduceIte, reduceCtorEq, implies_true, forall_const, eq_self, ne_eq, wtAll, Try.ntmps95, Try.results95, h5, h6, hm, n5, n6, n5', n6', n56, n65, hh_ir, r1, r2, r3, hh_i8, hh_i10, a1, a2, a3, a4, a5, a6, h1, h2, h3, h4, b1, b2, b3, b4, b5, b6]) ?_ | refine HSub_drop2 (by simp only [eq_self, hh_ir, hh_i10, h1, h2]) ?_ | refine HSub_keep_eq (by simp only [vsAll, binA, binLitA, intA, aggA, boolA, nilA2, isConst, unA, loadA, loadRow, partA, partOk, fieldAddrA, indexAddrA, indexA, fieldA, extractA, lenA, nilCheckA, boxA, cellA, cellsA, fillA, okParts, buildSliceA, buildMutA, makeSliceA, partIdx, elemsA, lensA, ifaceA, convA, mmA, pickA, okAll, stAll, opsA, partsA, partsOk, opA, allocA, boxMutA, newCells, okCells, storeObj, appendA, guardV, taA, nM, mapUpA, lookA, sliceA, boundsA, opO, okO, copyA, dstOk, nilA, quietOk, nilSliceOp, panA, resA, argFr, retA.eq_1, retA.eq_2, Nat.reduceAdd, Nat.reduceSub, Nat.reduceMul, Nat.reduceLT, Nat.reduceLeDiff, Nat.reduceEqDiff, Nat.reduceBEq, Int.reduceAdd, Int.reduceSub, Int.reduceMul, Int.reduceNeg, Int.reduceLE, Int.reduceLT, Int.reduceEq, Int.reduceNe, Int.reduceToNat, ↓reduceIte, reduceCtorEq, implies_true, forall_const, eq_self, ne_eq, wtAll, Try.ntmps95, Try.results95, h5, h6, hm, n5, n6, n5', n6', n56, n65, hh_ir, r1, r2, r3, hh_i8, hh_i10, a1, a2, a3, a4, a5, a6, h1, h2, h3, h4, b1, b2, b3, b4, b5, b6]) ?_)))
      · obtain ⟨s', a', b', c', d', e', h1, h2, h3, h4⟩ := hes en (by
          have := Array.getElem?_eq_some_iff.1 hj
          obtain ⟨hl, rfl⟩ := this
          simp)
        have hval : en.val = knVW (tl x S C m e0 more join (n + 1) s [a, b, c, d, e]) := by
          rw [hkn] at h3
          simp only [givV, Value.agg.injEq, Array.mk.injEq, List.cons.injEq, Value.int.injEq, true_and, and_true] at h3
          obtain ⟨q1, rfl, rfl, rfl, rfl, rfl⟩ := h3
          have q2 : s' = s := by ((try clear h5); (try clear h6); (try clear hm); (try clear n5); (try clear n6); (try clear n5'); (try clear n6'); (try clear n56); (try clear n65); (try clear hh_ir); (try clear r1); (try clear r2); (try clear r3); omega)
          subst q2
          rw [h4, show x.st.length - s' = n + 1 by ((try clear h5); (try clear h6); (try clear hm); (try clear n5); (try clear n6); (try clear n5'); (try clear n6'); (try clear n56); (try clear n65); (try clear hh_ir); (try clear r1); (try clear r2); (try clear r3); omega)]
        generalize htl : tl x S C m e0 more join (n + 1) s [a, b, c, d, e] = tv at hval
        simp only [vsAll, cellA, okCells, Nat.reduceAdd, eq_self, hval]
        intro i8 hh_i8; (try simp only [ite_none] at hh_i8)
        refine vs_draw2 [0, 0, 0, 0, 1, 3] [([0, 1, 2, 3], [3], 4), ([], [], 5)] [] (by decide +kernel) ?_
        simp only [vsAll, loadA, loadRow, partA, partOk, fieldAddrA, cellA, cellsA, opA, newCells, okCells, storeObj, dstOk, nilSliceOp, resA, retA.eq_2, Nat.reduceAdd, Nat.reduceLT, Nat.reduceLeDiff, Nat.reduceEqDiff, ↓reduceIte, eq_self, wtAll, Try.results95, hh_i8]
        exact dropR_pure rfl (by first | exact HSub_drop2 hh_ir.2 (HSub_drop2 hh_i8.2.2 (HSub_drop2 hh_i8.2.2 (HSub_drop2 hh_ir.2 hback))) | exact HSub_drop2 hh_i8.2.2 (HSub_drop2 hh_ir.2 hback))
end Go.Proofs.Ytkonoggmdcdeeaa
end
section
set_option linter.unusedVariables false
set_option linter.unusedSimpArgs false
set_option maxHeartbeats 4000000
set_option maxRecDepth 100000
namespace Go.Proofs.Ytkonoggmdcdeeaa
open Go.V
def tellWR (x : Ir) (S C : Nat) (m : Bool) (e0 : Nat × Nat) (more : Nat → Int → Nat × Nat → Nat × Nat) (join : Nat × Nat → Nat × Nat → Nat × Nat) (fm fj : Fn) (cm cj : List AV) (H : Hp) : Res → Hp → Prop := fun r H' =>
  ∃ i5 i6 im, H im = none ∧ ((¬ i5 = im ∧ ¬ im = i5) ∧ H i5 = none) ∧ ((¬ i6 = i5 ∧ ¬ i5 = i6) ∧ (¬ i6 = im ∧ ¬ im = i6) ∧ H i6 = none) ∧ r = .ret (onW x S C m e0 fm fj cm cj i5 i6) ∧
    H' = ((H.set im (.memo (memW x S C m e0 more join))).set i5 (.box 1 1 fun _ => [.map im])).set i6 (.box 1 1 fun _ => [onW x S C m e0 fm fj cm cj i5 i6])
theorem tellW_tri (x : Ir) (S C : Nat) (m : Bool) (e0 : Nat × Nat) (more : Nat → Int → Nat × Nat → Nat × Nat) (join : Nat × Nat → Nat × Nat → Nat × Nat) (fm fj : Fn) (cm cj : List AV) (H : Hp) :
    Tri Try.prog (fnA 85) [irP x S C m, .agg [i64 (e0.1 : Nat), i64 (e0.2 : Nat), .func fm [] cm, .func fj [] cj]] H (tellWR x S C m e0 more join fm fj cm cj H) := by
  refine Tri.drop ?_
  refine tri_v0 (fun _ => false) Try.func85 (by kernel_rfl) rfl (by simp only [List.length_append, List.length_cons, List.length_nil, Try.ntmps85]; decide) ?_
  simp only [vsAll, loadA, loadRow, partA, partOk, boxA, cellA, cellsA, okAll, stAll, opsA, opA, allocA, newCells, okCells, storeObj, nM, dstOk, nilSliceOp, resA, argFr, retA.eq_1, Nat.reduceAdd, Nat.reduceLT, Nat.reduceEqDiff, ↓reduceIte, eq_self, wtAll, Try.ntmps85, Try.results85, azT125, azT107]
  intro im hh_im; (try simp only [Hp.set_none, ite_none] at hh_im); intro i5 hh_i5; (try simp only [ite_none] at hh_i5); intro i6 hh_i6; (try simp only [ite_none] at hh_i6)
  rw [Hp.set_set, Hp.set_set]
  refine ⟨((H.set im (.memo (memW x S C m e0 more join))).set i5 (.box 1 1 fun _ => [.map im])).set i6 (.box 1 1 fun _ => [onW x S C m e0 fm fj cm cj i5 i6]), HSub.set (HSub.set (HSub.set (HSub.refl _) (memo_le (by simp) (by simp))) (.refl _)) (.refl _), i5, i6, im, hh_im, hh_i5, ⟨hh_i6.1, hh_i6.2.2⟩, rfl, rfl⟩

def moreL (x : Ir) (C : Nat) (s : Nat) (o : Int) (r : Nat × Nat) : Nat × Nat := (r.1 + (wrO x C s o x.cl.length).1, r.2 + (wrO x C s o x.cl.length).2)
def lessB (a b : Nat × Nat) : Bool := decide (a.1 < b.1) || decide (a.1 = b.1) && decide (a.2 < b.2)
def joinL (a b : Nat × Nat) : Nat × Nat := if lessB b a = true then b else a
theorem least1_tri (x : Ir) (S C : Nat) (m : Bool) (s : Nat) (o : Int) (r : Nat × Nat) (H : Hp) (k : Gd x) (hC : C < 2 ^ 60) (hr : r.1 < 1000 ∧ r.2 < 100000) :
    PTri Try.prog (.func (.func 86) [] [.rptr 1 1 (fun _ => [irP x S C m]) 0 0]) [i64 s, i64 o, wrA r] H (wrA (moreL x C s o r)) := by
  have nC := k.nC
  refine Tri.drop ?_
  refine tri_v0 (fun _ => false) Try.func86 (by kernel_rfl) rfl (by simp only [List.length_append, List.length_cons, List.length_nil, Try.ntmps86]; decide) ?_
  simp only [vsAll, boxA, opA, allocA, dstOk, argFr, Nat.reduceAdd, Nat.reduceLT, eq_self, wtAll, Try.ntmps86]
  intro i7 hh_i7; (try simp only [Hp.set_none, ite_none] at hh_i7)
  refine vs_draw2 [0, 0, 0, 0, 0, 0, 0, 1] [([0, 1, 2, 3, 4, 5, 6], [], 7)] [] (by decide +kernel) ?_
  simp only [vsAll, loadA, loadRow, partA, partOk, opA, dstOk, argFr, Nat.reduceLT, Nat.reduceEqDiff, ↓reduceIte, reduceCtorEq, eq_self, wtAll]
  refine qcall _ ⟨trivial, by simp only [vsAll, okAll, opsA, opA, Nat.reduceEqDiff, ↓reduceIte, eq_self], wrong_tri x S C m s o _ k hC⟩ ?_
  have hw := wrO_lt x C s o x.cl.length
  have hp : 2 ^ x.cl.length ≤ 2 ^ 8 := Nat.pow_le_pow_right (by decide) nC
  simp only [vsAll, cellsA, okParts, buildSliceA, partIdx, elemsA, lensA, partsA, partsOk, opA, dstOk, Nat.reduceAdd, Nat.reduceMul, Nat.reduceLT, Nat.reduceLeDiff, ↓reduceIte, eq_self, wtAll]
  refine qcall _ ⟨trivial, by simp only [vsAll, okAll, opsA, opA, Nat.reduceEqDiff, ↓reduceIte, eq_self], plus_tri r (wrO x C s o x.cl.length) _ rfl _ hr ⟨by ((try clear hh_i7); omega), by ((try clear hh_i7); omega)⟩⟩ ?_
  simp only [vsAll, loadA, loadRow, partA, partOk, cellA, cellsA, opA, newCells, okCells, storeObj, dstOk, resA, retA.eq_1, Nat.reduceAdd, Nat.reduceLT, Nat.reduceEqDiff, ↓reduceIte, eq_self, wtAll, Try.results86]
  exact dropR_pure rfl (by (repeat (first | exact HSub_rfl | refine HSub_put_eq (by simp only [vsAll, binA, binLitA, intA, aggA, boolA, nilA2, isConst, unA, loadA, loadRow, partA, partOk, fieldAddrA, indexAddrA, indexA, fieldA, extractA, lenA, nilCheckA, boxA, cellA, cellsA, fillA, okParts, buildSliceA, buildMutA, makeSliceA, partIdx, elemsA, lensA, ifaceA, convA, mmA, pickA, okAll, stAll, opsA, partsA, partsOk, opA, allocA, boxMutA, newCells, okCells, storeObj, appendA, guardV, taA, nM, mapUpA, lookA, sliceA, boundsA, opO, okO, copyA, dstOk, nilA, quietOk, nilSliceOp, panA, resA, argFr, retA.eq_1, retA.eq_2, Nat.reduceAdd, Nat.reduceSub, Nat.reduceMul, Nat.reduceLT, Nat.reduceLeDiff, Nat.reduceEqDiff, Nat.reduceBEq, Int.reduceAdd, Int.reduceSub, Int.reduceMul, Int.reduceNeg, Int.reduceLE, Int.reduceLT, Int.reduceEq, Int.reduceNe, Int.reduceToNat, ↓reduceIte, reduceCtorEq, implies_true, forall_const, eq_self, ne_eq, wtAll, Try.ntmps86, Try.results86, hh_i7]) ?_ | refine HSub_drop2 (by simp only [eq_self, hh_i7]) ?_ | refine HSub_keep_eq (by simp only [vsAll, binA, binLitA, intA, aggA, boolA, nilA2, isConst, unA, loadA, loadRow, partA, partOk, fieldAddrA, indexAddrA, indexA, fieldA, extractA, lenA, nilCheckA, boxA, cellA, cellsA, fillA, okParts, buildSliceA, buildMutA, makeSliceA, partIdx, elemsA, lensA, ifaceA, convA, mmA, pickA, okAll, stAll, opsA, partsA, partsOk, opA, allocA, boxMutA, newCells, okCells, storeObj, appendA, guardV, taA, nM, mapUpA, lookA, sliceA, boundsA, opO, okO, copyA, dstOk, nilA, quietOk, nilSliceOp, panA, resA, argFr, retA.eq_1, retA.eq_2, Nat.reduceAdd, Nat.reduceSub, Nat.reduceMul, Nat.reduceLT, Nat.reduceLeDiff, Nat.reduceEqDiff, Nat.reduceBEq, Int.reduceAdd, Int.reduceSub, Int.reduceMul, Int.reduceNeg, Int.reduceLE, Int.reduceLT, Int.reduceEq, Int.reduceNe, Int.reduceToNat, ↓reduceIte, reduceCtorEq, implies_true, forall_const, eq_self, ne_eq, wtAll, Try.ntmps86, Try.results86, hh_i7]) ?_)))
theorem least2_tri (a b : Nat × Nat) (H : Hp) : PTri Try.prog (fnA 89) [wrA a, wrA b] H (wrA (joinL a b)) := by
  refine Tri.drop ?_
  refine tri_v0 (fun _ => false) Try.func89 (by kernel_rfl) rfl (by simp only [List.length_append, List.length_cons, List.length_nil, Try.ntmps89]; decide) ?_
  simp only [vsAll, loadA, loadRow, partA, partOk, boxA, okAll, stAll, opsA, opA, allocA, dstOk, argFr, Nat.reduceAdd, Nat.reduceLT, Nat.reduceEqDiff, ↓reduceIte, eq_self, wtAll, Try.ntmps89]
  intro i4 hh_i4; (try simp only [Hp.set_none, ite_none] at hh_i4)
  refine callK_pure (less_tri b a _) ?_
  simp only [vsAll, opA, ↓reduceIte, eq_self]
  refine condV (fun hc => ?_) (fun hc => ?_)
  · have e : joinL a b = b := if_pos hc
    rw [e]
    simp only [vsAll, loadA, loadRow, partA, partOk, cellA, cellsA, opA, newCells, okCells, storeObj, dstOk, resA, retA.eq_1, Nat.reduceAdd, Nat.reduceLT, Nat.reduceEqDiff, ↓reduceIte, eq_self, wtAll, Try.results89]
    exact dropR_pure rfl (by (repeat (first | exact HSub_rfl | refine HSub_put_eq (by simp only [vsAll, binA, binLitA, intA, aggA, boolA, nilA2, isConst, unA, loadA, loadRow, partA, partOk, fieldAddrA, indexAddrA, indexA, fieldA, extractA, lenA, nilCheckA, boxA, cellA, cellsA, fillA, okParts, buildSliceA, buildMutA, makeSliceA, partIdx, elemsA, lensA, ifaceA, convA, mmA, pickA, okAll, stAll, opsA, partsA, partsOk, opA, allocA, boxMutA, newCells, okCells, storeObj, appendA, guardV, taA, nM, mapUpA, lookA, sliceA, boundsA, opO, okO, copyA, dstOk, nilA, quietOk, nilSliceOp, panA, resA, argFr, retA.eq_1, retA.eq_2, Nat.reduceAdd, Nat.reduceSub, Nat.reduceMul, Nat.reduceLT, Nat.reduceLeDiff, Nat.reduceEqDiff, Nat.reduceBEq, Int.reduceAdd, Int.reduceSub, Int.reduceMul, Int.reduceNeg, Int.reduceLE, Int.reduceLT, Int.reduceEq, Int.reduceNe, Int.reduceToNat, ↓reduceIte, reduceCtorEq, implies_true, forall_const, eq_self, ne_eq, wtAll, Try.ntmps89, Try.results89, hh_i4]) ?_ | refine HSub_drop2 (by simp only [eq_self, hh_i4]) ?_ | refine HSub_keep_eq (by simp only [vsAll, binA, binLitA, intA, aggA, boolA, nilA2, isConst, unA, loadA, loadRow, partA, partOk, fieldAddrA, indexAddrA, indexA, fieldA, extractA, lenA, nilCheckA, boxA, cellA, cellsA, fillA, okParts, buildSliceA, buildMutA, makeSliceA, partIdx, elemsA, lensA, ifaceA, convA, mmA, pickA, okAll, stAll, opsA, partsA, partsOk, opA, allocA, boxMutA, newCells, okCells, storeObj, appendA, guardV, taA, nM, mapUpA, lookA, sliceA, boundsA, opO, okO, copyA, dstOk, nilA, quietOk, nilSliceOp, panA, resA, argFr, retA.eq_1, retA.eq_2, Nat.reduceAdd, Nat.reduceSub, Nat.reduceMul, Nat.reduceLT, Nat.reduceLeDiff, Nat.reduceEqDiff, Nat.reduceBEq, Int.reduceAdd, Int.reduceSub, Int.reduceMul, Int.reduceNeg, Int.reduceLE, Int.reduceLT, Int.reduceEq, Int.reduceNe, Int.reduceToNat, ↓reduceIte, reduceCtorEq, implies_true, forall_const, eq_self, ne_eq, wtAll, Try.ntmps89, Try.results89, hh_i4]) ?_)))
  · have e : joinL a b = a := if_neg (by rw [Bool.not_eq_true]; exact hc)
    rw [e]
    simp only [vsAll, loadA, loadRow, partA, partOk, cellA, cellsA, opA, newCells, okCells, storeObj, dstOk, resA, retA.eq_1, Nat.reduceAdd, Nat.reduceLT, Nat.reduceEqDiff, ↓reduceIte, eq_self, wtAll, Try.results89]
    exact dropR_pure rfl (by (repeat (first | exact HSub_rfl | refine HSub_put_eq (by simp only [vsAll, binA, binLitA, intA, aggA, boolA, nilA2, isConst, unA, loadA, loadRow, partA, partOk, fieldAddrA, indexAddrA, indexA, fieldA, extractA, lenA, nilCheckA, boxA, cellA, cellsA, fillA, okParts, buildSliceA, buildMutA, makeSliceA, partIdx, elemsA, lensA, ifaceA, convA, mmA, pickA, okAll, stAll, opsA, partsA, partsOk, opA, allocA, boxMutA, newCells, okCells, storeObj, appendA, guardV, taA, nM, mapUpA, lookA, sliceA, boundsA, opO, okO, copyA, dstOk, nilA, quietOk, nilSliceOp, panA, resA, argFr, retA.eq_1, retA.eq_2, Nat.reduceAdd, Nat.reduceSub, Nat.reduceMul, Nat.reduceLT, Nat.reduceLeDiff, Nat.reduceEqDiff, Nat.reduceBEq, Int.reduceAdd, Int.reduceSub, Int.reduceMul, Int.reduceNeg, Int.reduceLE, Int.reduceLT, Int.reduceEq, Int.reduceNe, Int.reduceToNat, ↓reduceIte, reduceCtorEq, implies_true, forall_const, eq_self, ne_eq, wtAll, Try.ntmps89, Try.results89, hh_i4]) ?_ | refine HSub_drop2 (by simp only [eq_self, hh_i4]) ?_ | refine HSub_keep_eq (by simp only [vsAll, binA, binLitA, intA, aggA, boolA, nilA2, isConst, unA, loadA, loadRow, partA, partOk, fieldAddrA, indexAddrA, indexA, fieldA, extractA, lenA, nilCheckA, boxA, cellA, cellsA, fillA, okParts, buildSliceA, buildMutA, makeSliceA, partIdx, elemsA, lensA, ifaceA, convA, mmA, pickA, okAll, stAll, opsA, partsA, partsOk, opA, allocA, boxMutA, newCells, okCells, storeObj, appendA, guardV, taA, nM, mapUpA, lookA, sliceA, boundsA, opO, okO, copyA, dstOk, nilA, quietOk, nilSliceOp, panA, resA, argFr, retA.eq_1, retA.eq_2, Nat.reduceAdd, Nat.reduceSub, Nat.reduceMul, Nat.reduceLT, Nat.reduceLeDiff, Nat.reduceEqDiff, Nat.reduceBEq, Int.reduceAdd, Int.reduceSub, Int.reduceMul, Int.reduceNeg, Int.reduceLE, Int.reduceLT, Int.reduceEq, Int.reduceNe, Int.reduceToNat, ↓reduceIte, reduceCtorEq, implies_true, forall_const, eq_self, ne_eq, wtAll, Try.ntmps89, Try.results89, hh_i4]) ?_)))
theorem joinL_or (a b : Nat × Nat) : joinL a b = a ∨ joinL a b = b := by
  unfold joinL
  split
  · exact .inr rfl
  · exact .inl rfl
def leastT (x : Ir) (S C : Nat) (m : Bool) (k : Gd x) (hC : C < 2 ^ 60) : TelW x S (0, 0) (moreL x C) joinL (.func 86) (.func 89) [.rptr 1 1 (fun _ => [irP x S C m]) 0 0] [] where
  V := fun n _ w => w.1 ≤ 8 * n ∧ w.2 ≤ 255 * n
  vd := ⟨fun n j k a h h2 => h2, ⟨Nat.le_refl _, Nat.le_refl _⟩, fun n _ s o r ho h => by
    have hw := wrO_lt x C s o x.cl.length
    have nC := k.nC
    have hp : 2 ^ x.cl.length ≤ 2 ^ 8 := Nat.pow_le_pow_right (by decide) nC
    show r.1 + _ ≤ _ ∧ r.2 + _ ≤ _
    omega, fun n j k a b h h2 => by rcases joinL_or a b with e | e <;> rw [e] <;> assumption⟩
  tM := fun n _ s o r H hn _ hs h1 h2 h3 hr => least1_tri x S C m s o r H k hC (by omega)
  tJ := fun n j k a b H _ _ ha hb => least2_tri a b H
def tlW (x : Ir) (S C : Nat) (m : Bool) : Option (Nat × Nat) := tl x S C m (0, 0) (moreL x C) joinL x.st.length 0 u0
theorem least_tri (x : Ir) (S C : Nat) (m : Bool) (H : Hp) (k : Gd x) (hS : S < 2 ^ 60) (hC : C < 2 ^ 60) : PTri Try.prog (fnA 62) [irP x S C m] H (knAW (tlW x S C m)) := by
  refine Tri.drop ?_
  refine tri_v0 (fun _ => false) Try.func62 (by kernel_rfl) rfl (by simp only [List.length_append, List.length_cons, List.length_nil, Try.ntmps62]; decide) ?_
  simp only [vsAll, loadA, loadRow, partA, partOk, boxA, cellA, cellsA, fillA, okParts, okAll, stAll, opsA, partsA, partsOk, opA, allocA, dstOk, nilSliceOp, argFr, Nat.reduceAdd, Nat.reduceLT, Nat.reduceLeDiff, Nat.reduceEqDiff, ↓reduceIte, eq_self, wtAll, Try.ntmps62]
  intro i2 hh_i2; (try simp only [Hp.set_none, ite_none] at hh_i2)
  refine callK (tellW_tri x S C m (0, 0) (moreL x C) joinL (.func 86) (.func 89) [.rptr 1 1 (fun _ => [irP x S C m]) 0 0] [] _) ?_
  rintro r H' ⟨i5, i6, im, hm, h5, h6, rfl, rfl⟩
  simp only [Hp.set_none] at hm h5 h6
  have a1 := hm.1
  have a2 := h5.1
  have a3 := h5.2.1
  have a4 := h6.1
  have a5 := h6.2.1
  have a6 := h6.2.2.1
  have a7 := hm.2
  have a8 := h5.2.2
  have a9 := h6.2.2.2
  skip
  simp only [vsAll, fillA, okParts, okAll, stAll, opsA, partsA, partsOk, opA, dstOk, Nat.reduceLT, Nat.reduceEqDiff, ↓reduceIte, eq_self, wtAll]
  refine callK_pure (onw_tri (i5 := i5) (i6 := i6) (im := im) k hS hC (leastT x S C m k hC) x.st.length 0 0 0 0 0 0 _ (by ((try clear hh_i2); (try clear a1); (try clear a2); (try clear a3); (try clear a4); (try clear a5); (try clear a6); (try clear a7); (try clear a8); (try clear a9); omega)) u0_ok (by simp only [vsAll, ↓reduceIte, eq_self, a4]) (by simp only [vsAll, ↓reduceIte, eq_self]) (by simp only [vsAll, ↓reduceIte, eq_self, a2, a5])) ?_
  simp only [vsAll, loadA, loadRow, partA, partOk, extractA, cellA, cellsA, opA, newCells, okCells, storeObj, dstOk, nilSliceOp, resA, retA.eq_2, Nat.reduceAdd, Nat.reduceLT, Nat.reduceEqDiff, ↓reduceIte, eq_self, wtAll, Try.results62, a1, a3, a6]
  exact dropR_pure rfl (by (repeat (first | exact HSub_rfl | refine HSub_put_eq (by simp only [vsAll, binA, binLitA, intA, aggA, boolA, nilA2, isConst, unA, loadA, loadRow, partA, partOk, fieldAddrA, indexAddrA, indexA, fieldA, extractA, lenA, nilCheckA, boxA, cellA, cellsA, fillA, okParts, buildSliceA, buildMutA, makeSliceA, partIdx, elemsA, lensA, ifaceA, convA, mmA, pickA, okAll, stAll, opsA, partsA, partsOk, opA, allocA, boxMutA, newCells, okCells, storeObj, appendA, guardV, taA, nM, mapUpA, lookA, sliceA, boundsA, opO, okO, copyA, dstOk, nilA, quietOk, nilSliceOp, panA, resA, argFr, retA.eq_1, retA.eq_2, Nat.reduceAdd, Nat.reduceSub, Nat.reduceMul, Nat.reduceLT, Nat.reduceLeDiff, Nat.reduceEqDiff, Nat.reduceBEq, Int.reduceAdd, Int.reduceSub, Int.reduceMul, Int.reduceNeg, Int.reduceLE, Int.reduceLT, Int.reduceEq, Int.reduceNe, Int.reduceToNat, ↓reduceIte, reduceCtorEq, implies_true, forall_const, eq_self, ne_eq, wtAll, Try.ntmps62, Try.results62, hh_i2, a1, a2, a3, a4, a5, a6, a7, a8, a9]) ?_ | refine HSub_drop2 (by simp only [eq_self, hh_i2, a7, a8, a9]) ?_ | refine HSub_keep_eq (by simp only [vsAll, binA, binLitA, intA, aggA, boolA, nilA2, isConst, unA, loadA, loadRow, partA, partOk, fieldAddrA, indexAddrA, indexA, fieldA, extractA, lenA, nilCheckA, boxA, cellA, cellsA, fillA, okParts, buildSliceA, buildMutA, makeSliceA, partIdx, elemsA, lensA, ifaceA, convA, mmA, pickA, okAll, stAll, opsA, partsA, partsOk, opA, allocA, boxMutA, newCells, okCells, storeObj, appendA, guardV, taA, nM, mapUpA, lookA, sliceA, boundsA, opO, okO, copyA, dstOk, nilA, quietOk, nilSliceOp, panA, resA, argFr, retA.eq_1, retA.eq_2, Nat.reduceAdd, Nat.reduceSub, Nat.reduceMul, Nat.reduceLT, Nat.reduceLeDiff, Nat.reduceEqDiff, Nat.reduceBEq, Int.reduceAdd, Int.reduceSub, Int.reduceMul, Int.reduceNeg, Int.reduceLE, Int.reduceLT, Int.reduceEq, Int.reduceNe, Int.reduceToNat, ↓reduceIte, reduceCtorEq, implies_true, forall_const, eq_self, ne_eq, wtAll, Try.ntmps62, Try.results62, hh_i2, a1, a2, a3, a4, a5, a6, a7, a8, a9]) ?_)))
end Go.Proofs.Ytkonoggmdcdeeaa
end
section
set_option linter.unusedVariables false
set_option linter.unusedSimpArgs false
namespace Go.V
/-- The same value, with some leaves told otherwise. -/
inductive FrzX (L : AV → AV → Prop) : AV → AV → Prop
  | same (x : AV) : FrzX L x x
  | leaf {x y : AV} (h : L x y) : FrzX L x y
  | agg {cs cs' : List AV} (hl : cs'.length = cs.length) (h : ∀ k, k < cs.length → FrzX L (cs.getD k .any) (cs'.getD k .any)) : FrzX L (.agg cs) (.agg cs')
  | tuple {cs cs' : List AV} (hl : cs'.length = cs.length) (h : ∀ k, k < cs.length → FrzX L (cs.getD k .any) (cs'.getD k .any)) : FrzX L (.tuple cs) (.tuple cs')
  | rptr {n st i j : Nat} {f g : Nat → List AV} (hl : ∀ k, k < n → (f k).length = st → (g k).length = st) (h : ∀ k l, k < n → l < st → FrzX L ((f k).getD l .any) ((g k).getD l .any)) : FrzX L (.rptr n st f i j) (.rptr n st g i j)
  | func {fn : Fn} {a b a' b' : List AV} (hl : a'.length = a.length) (hm : b'.length = b.length) (h : ∀ k, k < a.length → FrzX L (a.getD k .any) (a'.getD k .any)) (h' : ∀ k, k < b.length → FrzX L (b.getD k .any) (b'.getD k .any)) : FrzX L (.func fn a b) (.func fn a' b')

theorem FrzX.conv {L : AV → AV → Prop} {S S2 : St} (hle : Le S S2) (hc : ∀ x y, L x y → ∀ v, VRel S x v → VRel S2 y v) {x y : AV} (hxy : FrzX L x y) : ∀ v, VRel S x v → VRel S2 y v := by
  induction hxy with
  | same x => intro v hv; exact hv.mono hle
  | leaf h => intro v hv; exact hc _ _ h v hv
  | agg hl h ih =>
    intro v hv
    cases hv with
    | agg hn hv => exact .agg (hn.trans hl.symm) fun k hk => ih k (by omega) _ (hv k (by omega))
  | tuple hl h ih =>
    intro v hv
    cases hv with
    | tuple hn hv => exact .tuple (hn.trans hl.symm) fun k hk => ih k (by omega) _ (hv k (by omega))
  | @rptr n st i j f g hl h ih =>
    intro v hv
    cases hv with
    | rptr hi hb hsz hf hh =>
      exact .rptr (hle.imm _ hi) ((hle.keep _ hi).trans hb) hsz (fun k hk => hl k hk (hf k hk)) (fun k l hk hl2 => ih k l hk hl2 _ (hh k l hk hl2))
  | func hl hm h h' ih ih' =>
    intro v hv
    cases hv with
    | func hn hn' h1 h2 => exact .func (hn.trans hl.symm) (hn'.trans hm.symm) (fun k hk => ih k (by omega) _ (h1 k (by omega))) (fun k hk => ih' k (by omega) _ (h2 k (by omega)))

def Lb (id st n : Nat) (f : Nat → List AV) (x y : AV) : Prop := ∃ i j, x = .ref id 0 st i j ∧ y = .rptr n st f i j
def Lr (id st n : Nat) (f : Nat → List AV) (x y : AV) : Prop := x = .sl id st n ∧ ∃ g, (∀ i, i < n → f i = g i) ∧ y = .rsl n st g

/-- A box that is handed over inside arguments, to be written no more. -/
theorem tri_freezeB {P : Program} {fv : AV} {args args' : List AV} {H : Hp} {R : Res → Hp → Prop} {id st n : Nat} {f : Nat → List AV} (ho : H id = some (.box st n f)) (hl : args'.length = args.length)
    (hs : ∀ k, k < args.length → FrzX (Lb id st n f) (args.getD k .any) (args'.getD k .any)) (h : Tri P fv args' (H.del id) R) : Tri P fv args H R := by
  intro S vf vs hH hvf ha
  obtain ⟨S2, hw, hle, h2, hc⟩ := frz_stepB hH ho
  have conv : ∀ x y, FrzX (Lb id st n f) x y → ∀ v, VRel S x v → VRel S2 y v := fun x y hxy => hxy.conv hle (fun x y hxy v hv => by obtain ⟨i, j, rfl, rfl⟩ := hxy; exact hc _ _ _ hv)
  obtain ⟨nx, h1, h3⟩ := h S2 vf vs h2 (hvf.mono hle) ⟨by rw [hl]; exact ha.1, fun k hk => conv _ _ (hs k (by omega)) _ (ha.2 k (by omega))⟩
  rw [hw] at h1
  have hout : ∀ e w, Out S2 R e w → Out S R e w := fun e w ⟨S3, r, H2, a, b, c, d, e'⟩ => ⟨S3, r, H2, a, hle.trans b, c, d, e'⟩
  refine ⟨nx, h1, ?_⟩
  cases nx <;> simp only [NextOk] at h3 ⊢
  · rw [hw] at h3; exact Calls.mono h3 hout
  · rw [hw] at h3; exact h3.mono hout
end Go.V
end
section
set_option linter.unusedVariables false
set_option linter.unusedSimpArgs false
set_option maxHeartbeats 4000000
set_option maxRecDepth 100000
namespace Go.Proofs.Ytkonoggmdcdeeaa
open Go.V
/-- The ones of a number, counted as the library does. -/
def ones1 (s : Nat) : Nat := ((s >>> 1) &&& 6148914691236517205) + (s &&& 6148914691236517205)
def ones2 (s : Nat) : Nat := ((s >>> 2) &&& 3689348814741910323) + (s &&& 3689348814741910323)
def ones3 (s : Nat) : Nat := ((s >>> 4) + s) &&& 1085102592571150095
def ones4 (s : Nat) : Nat := s + (s >>> 8)
def ones5 (s : Nat) : Nat := s + (s >>> 16)
def ones6 (s : Nat) : Nat := s + (s >>> 32)
def ones (s : Nat) : Nat := ones6 (ones5 (ones4 (ones3 (ones2 (ones1 s))))) &&& 127

theorem shr_int (s k : Nat) : ((s : Int) / 2 ^ k) = ((s >>> k : Nat) : Int) := by
  rw [Nat.shiftRight_eq_div_pow]; simp
theorem bits64 : (IntKind.u64.bits = 64) = True := eq_true rfl
theorem ones1_le (s : Nat) : ones1 s ≤ 12297829382473034410 := by
  have h1 := @Nat.and_le_right (s >>> 1) 6148914691236517205
  have h2 := @Nat.and_le_right s 6148914691236517205
  unfold ones1; omega
theorem ones2_le (s : Nat) : ones2 s ≤ 7378697629483820646 := by
  have h1 := @Nat.and_le_right (s >>> 2) 3689348814741910323
  have h2 := @Nat.and_le_right s 3689348814741910323
  unfold ones2; omega
theorem ones3_le (s : Nat) : ones3 s ≤ 1085102592571150095 := Nat.and_le_right
theorem shr_le (s k : Nat) : s >>> k ≤ s := by rw [Nat.shiftRight_eq_div_pow]; exact Nat.div_le_self _ _

theorem ones64_tri (s : Nat) (H : Hp) (hs : s < 2 ^ 64) : PTri Try.prog (fnA 97) [u64 s] H (i64 (ones s)) := by
  refine tri_w0 Try.func97 (by kernel_rfl) rfl (by simp only [List.length_append, List.length_cons, List.length_nil, Try.ntmps97]; decide) ?_
  refine wps_cut (m := fun _ => false) [(0, u64 s)] H [] (by simp only [vsAll, opA, dstOk, nilSliceOp, argFr, Nat.reduceLT, ↓reduceIte, reduceCtorEq, eq_self, Try.ntmps97]) ?_
  refine wps_cut (m := fun _ => false) [(0, u64 (ones1 s))] H [] ?_ ?_
  · have h1 := ones1_le s
    have h2 := shr_le s 1
    have e : ((s >>> 1 &&& 6148914691236517205 : Nat) : Int) + ((s &&& 6148914691236517205 : Nat) : Int) = (ones1 s : Int) := by simp only [ones1]; omega
    simp only [vsAll, binA, binLitA, intA, opA, dstOk, nilSliceOp, Nat.reduceLT, Nat.reduceEqDiff, Int.reduceLE, Int.reduceLT, Int.reduceToNat, ↓reduceIte, reduceCtorEq, eq_self, Try.ntmps97, shr_int, bits64, InR_u64, e]
    omega
  have hs1 := ones1_le s
  generalize es1 : ones1 s = s1 at *
  refine wps_cut (m := fun _ => false) [(0, u64 (ones2 s1))] H [] ?_ ?_
  · have h1 := ones2_le s1
    have h2 := shr_le s1 2
    have e : ((s1 >>> 2 &&& 3689348814741910323 : Nat) : Int) + ((s1 &&& 3689348814741910323 : Nat) : Int) = (ones2 s1 : Int) := by simp only [ones2]; omega
    simp only [vsAll, binA, binLitA, intA, opA, dstOk, nilSliceOp, Nat.reduceLT, Nat.reduceEqDiff, Int.reduceLE, Int.reduceLT, Int.reduceToNat, ↓reduceIte, reduceCtorEq, eq_self, Try.ntmps97, shr_int, bits64, InR_u64, e]
    omega
  have hs2 := ones2_le s1
  generalize es2 : ones2 s1 = s2 at *
  refine wps_cut (m := fun _ => false) [(0, u64 (ones3 s2))] H [] ?_ ?_
  · have h1 := ones3_le s2
    have h2 := shr_le s2 4
    have e0 : ((s2 >>> 4 : Nat) : Int) + (s2 : Int) = ((s2 >>> 4 + s2 : Nat) : Int) := by omega
    have e : (((s2 >>> 4 + s2) &&& 1085102592571150095 : Nat) : Int) = (ones3 s2 : Int) := rfl
    simp only [vsAll, binA, binLitA, intA, opA, dstOk, nilSliceOp, Nat.reduceLT, Nat.reduceEqDiff, Int.reduceLE, Int.reduceLT, Int.reduceToNat, ↓reduceIte, reduceCtorEq, eq_self, Try.ntmps97, shr_int, bits64, InR_u64, e0, e]
    omega
  have hs3 := ones3_le s2
  generalize es3 : ones3 s2 = s3 at *
  refine wps_cut (m := fun _ => false) [(0, u64 (ones4 s3))] H [] ?_ ?_
  · have h2 := shr_le s3 8
    have e0 : (s3 : Int) + ((s3 >>> 8 : Nat) : Int) = (ones4 s3 : Int) := by simp only [ones4]; omega
    simp only [vsAll, binA, binLitA, intA, opA, dstOk, nilSliceOp, Nat.reduceLT, Nat.reduceEqDiff, Int.reduceLE, Int.reduceLT, Int.reduceToNat, ↓reduceIte, reduceCtorEq, eq_self, Try.ntmps97, shr_int, bits64, InR_u64, e0]
    simp only [ones4]; omega
  have hs4 : ones4 s3 ≤ 2 * 1085102592571150095 := by have := shr_le s3 8; simp only [ones4]; omega
  generalize es4 : ones4 s3 = s4 at *
  refine wps_cut (m := fun _ => false) [(0, u64 (ones5 s4))] H [] ?_ ?_
  · have h2 := shr_le s4 16
    have e0 : (s4 : Int) + ((s4 >>> 16 : Nat) : Int) = (ones5 s4 : Int) := by simp only [ones5]; omega
    simp only [vsAll, binA, binLitA, intA, opA, dstOk, nilSliceOp, Nat.reduceLT, Nat.reduceEqDiff, Int.reduceLE, Int.reduceLT, Int.reduceToNat, ↓reduceIte, reduceCtorEq, eq_self, Try.ntmps97, shr_int, bits64, InR_u64, e0]
    simp only [ones5]; omega
  have hs5 : ones5 s4 ≤ 4 * 1085102592571150095 := by have := shr_le s4 16; simp only [ones5]; omega
  generalize es5 : ones5 s4 = s5 at *
  refine wps_cut (m := fun _ => false) [(0, u64 (ones6 s5))] H [] ?_ ?_
  · have h2 := shr_le s5 32
    have e0 : (s5 : Int) + ((s5 >>> 32 : Nat) : Int) = (ones6 s5 : Int) := by simp only [ones6]; omega
    simp only [vsAll, binA, binLitA, intA, opA, dstOk, nilSliceOp, Nat.reduceLT, Nat.reduceEqDiff, Int.reduceLE, Int.reduceLT, Int.reduceToNat, ↓reduceIte, reduceCtorEq, eq_self, Try.ntmps97, shr_int, bits64, InR_u64, e0]
    simp only [ones6]; omega
  have hs6 : ones6 s5 ≤ 8 * 1085102592571150095 := by have := shr_le s5 32; simp only [ones6]; omega
  generalize es6 : ones6 s5 = s6 at *
  refine wps_vs (m := fun _ => false) ?_
  simp only [vsAll, binA, binLitA, intA, convA, opA, dstOk, nilSliceOp, resA, retA.eq_1, Nat.reduceLT, Int.reduceLE, Int.reduceToNat, ↓reduceIte, eq_self, wtAll, Try.ntmps97, Try.results97]
  refine ⟨by simp only [InR_i64]; omega, by simp only [InR_i64]; omega, ?_⟩
  simp only [ones, es1, es2, es3, es4, es5, es6]

theorem ones_pop (s : Nat) (hs : s < 4096) : ones s = pop s := by
  have : ∀ a, a < 64 → ∀ b, b < 64 → ones (64 * a + b) = pop (64 * a + b) := by decide +kernel
  have h := this (s / 64) (by omega) (s % 64) (by omega)
  rwa [show 64 * (s / 64) + s % 64 = s by omega] at h
theorem count_tri (s : Nat) (H : Hp) (hs : s < 4096) : PTri Try.prog (fnA 91) [u64 s] H (i64 (pop s)) := by
  refine tri_v0 (fun _ => false) Try.func91 (by kernel_rfl) rfl (by simp only [List.length_append, List.length_cons, List.length_nil, Try.ntmps91]; decide) ?_
  simp only [vsAll, okAll, stAll, opsA, opA, dstOk, nilSliceOp, argFr, Nat.reduceLT, ↓reduceIte, reduceCtorEq, eq_self, Try.ntmps91]
  refine callK_pure (ones64_tri s H (by omega)) ?_
  simp only [vsAll, opA, dstOk, nilSliceOp, resA, retA.eq_1, Nat.reduceLT, ↓reduceIte, eq_self, Try.results91, ones_pop s hs]


/-- The first set of a size, from one on, that suits. -/
def inn (f : Nat → Bool) (z : Nat) : Nat → Nat → Option Nat
  | 0, _ => none
  | n + 1, j => if (decide (pop j = z) && f j) = true then some j else inn f z n (j + 1)
def outF (f : Nat → Bool) (m : Nat) : Nat → Nat → Option Nat
  | 0, _ => none
  | n + 1, z => match inn f z (2 ^ m) 0 with
    | some j => some j
    | none => outF f m n (z + 1)
def fewV (f : Nat → Bool) (m : Nat) : Option Nat := outF f m (m + 1) 0
theorem dec_cast (a b : Nat) (x : Bool) : (decide ((a : Int) = (b : Int)) && x) = (decide (a = b) && x) := by
  rw [show decide ((a : Int) = (b : Int)) = decide (a = b) from decide_eq_decide.2 (by omega)]
theorem fewest_tri (f : Nat → Bool) (m : Nat) (fv : AV) (H : Hp) (hm : m ≤ 8) (hok : fv.ok) (hst : fv.st = fv) (hf : ∀ j : Nat, j < 2 ^ m → PTri Try.prog fv [u64 j] H (boo (f j))) :
    PTri Try.prog (fnA 67) [i64 m, fv] H (.tuple [u64 ((fewV f m).getD 0 : Nat), boo (fewV f m).isSome]) := by
  have hp : 2 ^ m ≤ 2 ^ 8 := Nat.pow_le_pow_right (by decide) hm
  have hp0 : 0 < 2 ^ m := Nat.pow_pos (by decide)
  have ep : (1 : Int) * 2 ^ m = ((2 ^ m : Nat) : Int) := by rw [Int.one_mul]; simp
  refine tri_v0 (fun _ => false) Try.func67 (by kernel_rfl) rfl (by simp only [List.length_append, List.length_cons, List.length_nil, Try.ntmps67]; decide) ?_
  skip
  simp only [vsAll, binA, binLitA, intA, opA, dstOk, nilSliceOp, argFr, Nat.reduceLT, ↓reduceIte, reduceCtorEq, eq_self, Try.ntmps67]
  refine ⟨by simp only [InR_i64]; ((try clear hok); (try clear hst); omega), ?_⟩
  refine vs_loop (σ := Nat) (fun i => i ≤ m + 1 ∧ fewV f m = outF f m (m + 1 - i) i) (fun i => [(0, i64 m), (1, fv), (9, i64 ((m : Int) + 1)), (10, i64 i)]) (fun _ => H) (fun i => m + 1 - i) 0 ⟨by ((try clear hok); (try clear hst); omega), rfl⟩ ?_ (HSub.refl _) fun i hi => ?_
  · simp only [vsAll, argFr, Nat.reduceEqDiff, ↓reduceIte, reduceCtorEq, eq_self, Int.natCast_zero]
  · obtain ⟨hi, hv⟩ := hi
    simp only [vsAll, binA, binLitA, intA, opA, dstOk, Nat.reduceLT, Nat.reduceEqDiff, ↓reduceIte, reduceCtorEq, eq_self]
    refine condD (fun hd => ?_) (fun hd => ?_)
    · rw [show m + 1 - i = (m - i) + 1 by ((try clear hok); (try clear hst); omega)] at hv
      simp only [vsAll, binA, binLitA, intA, opA, dstOk, nilSliceOp, Nat.reduceLT, Nat.reduceEqDiff, ↓reduceIte, reduceCtorEq, eq_self, ep]
      refine ⟨⟨by ((try clear hok); (try clear hst); omega), by ((try clear hok); (try clear hst); omega), by simp only [InR_u64]; ((try clear hok); (try clear hst); omega)⟩, ?_⟩
      refine vs_loop (σ := Nat) (fun j => j ≤ 2 ^ m ∧ inn f i (2 ^ m) 0 = inn f i (2 ^ m - j) j) (fun j => [(0, i64 m), (1, fv), (6, i64 i), (9, i64 ((m : Int) + 1)), (10, i64 i), (14, u64 ((2 ^ m : Nat) : Int)), (15, u64 j)]) (fun _ => H) (fun j => 2 ^ m - j) 0 ⟨by ((try clear hok); (try clear hst); omega), rfl⟩ ?_ (HSub.refl _) fun j hj => ?_
      · simp only [vsAll, Nat.reduceEqDiff, ↓reduceIte, reduceCtorEq, eq_self, Int.natCast_zero]
      · obtain ⟨hj, hw⟩ := hj
        simp only [vsAll, binA, binLitA, intA, opA, dstOk, Nat.reduceLT, Nat.reduceEqDiff, ↓reduceIte, reduceCtorEq, eq_self]
        refine condD (fun hd2 => ?_) (fun hd2 => ?_)
        · rw [show 2 ^ m - j = (2 ^ m - (j + 1)) + 1 by ((try clear hok); (try clear hst); omega), inn] at hw
          simp only [vsAll, okAll, stAll, opsA, opA, dstOk, nilSliceOp, Nat.reduceLT, Nat.reduceEqDiff, ↓reduceIte, reduceCtorEq, eq_self]
          refine callK_pure (count_tri j _ (by ((try clear hok); (try clear hst); omega))) ?_
          simp only [vsAll, binA, binLitA, intA, opA, guardV, dstOk, Nat.reduceLT, Nat.reduceEqDiff, ↓reduceIte, reduceCtorEq, implies_true, eq_self, hok, hst]
          refine gcall _ (fun g => ⟨by simp only [vsAll, opA, Nat.reduceEqDiff, ↓reduceIte, eq_self, g], by simp only [vsAll, okAll, opsA, opA, ↓reduceIte, eq_self, g], hf j (by ((try clear hok); (try clear hst); omega))⟩) ?_
          simp only [vsAll, pickA, opA, dstOk, Nat.reduceLT, Nat.reduceEqDiff, ↓reduceIte, implies_true, eq_self]
          rw [dec_cast]
          refine condV (fun hb => ?_) (fun hb => ?_)
          · rw [hb, if_pos rfl] at hw
            have hr : fewV f m = some j := by rw [hv, outF, hw]
            simp only [vsAll, opA, dstOk, nilSliceOp, resA, retA.eq_2, Nat.reduceLT, Nat.reduceEqDiff, ↓reduceIte, eq_self, Try.results67, hr, Option.getD_some]
          · rw [hb, if_neg (by decide)] at hw
            simp only [vsAll, binA, binLitA, intA, opA, dstOk, Nat.reduceLT, Nat.reduceEqDiff, ↓reduceIte, reduceCtorEq, eq_self]
            refine ⟨by simp only [InR_u64]; ((try clear hok); (try clear hst); omega), loop_next (j + 1) ⟨by ((try clear hok); (try clear hst); omega), hw⟩ (by ((try clear hok); (try clear hst); omega)) ?_ (HSub.refl _)⟩
            simp only [vsAll, Nat.reduceEqDiff, ↓reduceIte, reduceCtorEq, eq_self, Int.natCast_add, Int.natCast_one]
        · have ej : j = 2 ^ m := by ((try clear hok); (try clear hst); omega)
          subst ej
          rw [Nat.sub_self, inn] at hw
          rw [outF, hw, show m - i = m + 1 - (i + 1) by ((try clear hok); (try clear hst); omega)] at hv
          simp only [] at hv
          simp only [vsAll, binA, binLitA, intA, opA, dstOk, Nat.reduceLT, Nat.reduceEqDiff, ↓reduceIte, reduceCtorEq, eq_self]
          refine ⟨by simp only [InR_i64]; ((try clear hok); (try clear hst); omega), loop_next (i + 1) ⟨by ((try clear hok); (try clear hst); omega), hv⟩ (by ((try clear hok); (try clear hst); omega)) ?_ (HSub.refl _)⟩
          simp only [vsAll, Nat.reduceEqDiff, ↓reduceIte, reduceCtorEq, eq_self, Int.natCast_add, Int.natCast_one]
    · have ei : i = m + 1 := by ((try clear hok); (try clear hst); omega)
      subst ei
      rw [Nat.sub_self, outF] at hv
      simp only [vsAll, opA, dstOk, nilSliceOp, resA, retA.eq_2, Nat.reduceLT, Nat.reduceEqDiff, ↓reduceIte, eq_self, Try.results67, hv, Option.getD_none, Int.natCast_zero]
end Go.Proofs.Ytkonoggmdcdeeaa
end
section
set_option linter.unusedVariables false
set_option linter.unusedSimpArgs false
namespace Go.Proofs.Ytkonoggmdcdeeaa
open Go.V
theorem lessB_iff (a b : Nat × Nat) : lessB a b = true ↔ (a.1 < b.1 ∨ a.1 = b.1 ∧ a.2 < b.2) := by
  simp [lessB]
theorem joinL_assoc (a b c : Nat × Nat) : joinL (joinL a b) c = joinL a (joinL b c) := by
  have h1 := lessB_iff b a
  have h2 := lessB_iff c b
  have h3 := lessB_iff c a
  unfold joinL
  by_cases q1 : lessB b a = true
  · rw [if_pos q1]
    by_cases q2 : lessB c b = true
    · rw [if_pos q2]
      have q3 : lessB c a = true := h3.2 (by have := h1.1 q1; have := h2.1 q2; omega)
      rw [if_pos q3]
    · rw [if_neg q2, if_pos q1]
  · rw [if_neg q1]
    by_cases q2 : lessB c b = true
    · rw [if_pos q2]
    · rw [if_neg q2, if_neg q1]
      have q3 : ¬ lessB c a = true := fun q => by
        have := h3.1 q
        have n1 : ¬ (b.1 < a.1 ∨ b.1 = a.1 ∧ b.2 < a.2) := fun p => q1 (h1.2 p)
        have n2 : ¬ (c.1 < b.1 ∨ c.1 = b.1 ∧ c.2 < b.2) := fun p => q2 (h2.2 p)
        omega
      rw [if_neg q3]
theorem moreL_join (x : Ir) (C s : Nat) (o : Int) (a b : Nat × Nat) : moreL x C s o (joinL a b) = joinL (moreL x C s o a) (moreL x C s o b) := by
  have h1 := lessB_iff b a
  have h2 := lessB_iff (moreL x C s o b) (moreL x C s o a)
  have e : lessB (moreL x C s o b) (moreL x C s o a) = lessB b a := by
    rw [Bool.eq_iff_iff, h1, h2]
    simp only [moreL]
    omega
  unfold joinL
  rw [e]
  split <;> rfl
theorem tlW_eq (x : Ir) (S C : Nat) (m : Bool) : tlW x S C m = foldJ joinL ((cont x S C m x.st.length 0 u0).map (valT (0, 0) (moreL x C) 0)) :=
  tl_eq x S C m (0, 0) (moreL x C) joinL joinL_assoc (fun s o a b => moreL_join x C s o a b) _ _ _
theorem tlW_some {x : Ir} (k : Gd x) (C : Nat) : (tlW x (fullS x) C false).isSome = decide (0 < (truA x).length) := by
  have h : truA x = cont x (fullS x) C false x.st.length 0 u0 := truS_cont x (fullS x) C k
  rw [tlW_eq, ← h]
  cases hl : truA x with
  | nil => rfl
  | cons t l =>
    simp only [List.map_cons, foldJ]
    cases foldJ joinL (l.map (valT (0, 0) (moreL x C) 0)) <;> simp [comb]
end Go.Proofs.Ytkonoggmdcdeeaa
end
section
set_option linter.unusedVariables false
set_option linter.unusedSimpArgs false
set_option maxHeartbeats 4000000
set_option maxRecDepth 100000
namespace Go.Proofs.Ytkonoggmdcdeeaa
open Go.V
def falseE (x : Ir) : Int := errE x true true
def falseP (x : Ir) : Nat × Nat := if falseE x = 0 then (tlW x (fullS x) (fullC x) false).getD (0, 0) else (0, 0)
theorem wfalse_tri (x : Ir) (H : Hp) (kn : Near x) : PTri Try.prog (fnA 23) [x.av] H (.tuple [i64 ((falseP x).1 : Nat), i64 ((falseP x).2 : Nat), i64 (falseE x)]) := by
  refine Tri.drop ?_
  refine tri_a (m := fun _ => false) ans43 Try.func23 (by kernel_rfl) rfl (by simp only [List.length_append, List.length_cons, List.length_nil, Try.ntmps23]; decide) ?_
  simp only [vsAll, loadA, loadRow, partA, partOk, boxA, okAll, stAll, opsA, opA, allocA, dstOk, nilSliceOp, argFr, Nat.reduceAdd, Nat.reduceLT, Nat.reduceEqDiff, ↓reduceIte, eq_self, wtAll, Try.ntmps23]
  intro i4 hh_i4; (try simp only [Hp.set_none, ite_none] at hh_i4)
  refine open_call (open_tri x _ true _ kn trivial rfl (fun hk H' => always_tri _ H')) (fun hno => ?_) (fun hk hv => ?_) (fun hk hv => ?_)
  · have e : falseE x = 1 := errE_no hno _ _
    have ev : falseP x = (0, 0) := by simp only [falseP, e]; rfl
    simp only [vsAll]
    refine ⟨1, i4, _, rfl, rfl, by simp only [vsAll, ↓reduceIte, eq_self]; try rfl, ?_⟩
    simp only [vsAll, loadA, loadRow, partA, partOk, resA, retA.eq_2, Nat.reduceLT, Nat.reduceEqDiff, ↓reduceIte, eq_self, wtAll, Try.results23]
    refine dropR_pure ?_ (by (repeat (first | exact HSub_rfl | refine HSub_put_eq (by simp only [vsAll, binA, binLitA, intA, aggA, boolA, nilA2, isConst, unA, loadA, loadRow, partA, partOk, fieldAddrA, indexAddrA, indexA, fieldA, extractA, lenA, nilCheckA, boxA, cellA, cellsA, fillA, okParts, buildSliceA, buildMutA, makeSliceA, partIdx, elemsA, lensA, ifaceA, convA, mmA, pickA, okAll, stAll, opsA, partsA, partsOk, opA, allocA, boxMutA, newCells, okCells, storeObj, appendA, guardV, taA, nM, mapUpA, lookA, sliceA, boundsA, opO, okO, copyA, dstOk, nilA, quietOk, nilSliceOp, panA, resA, argFr, retA.eq_1, retA.eq_2, Nat.reduceAdd, Nat.reduceSub, Nat.reduceMul, Nat.reduceLT, Nat.reduceLeDiff, Nat.reduceEqDiff, Nat.reduceBEq, Int.reduceAdd, Int.reduceSub, Int.reduceMul, Int.reduceNeg, Int.reduceLE, Int.reduceLT, Int.reduceEq, Int.reduceNe, Int.reduceToNat, ↓reduceIte, reduceCtorEq, implies_true, forall_const, eq_self, ne_eq, wtAll, Try.ntmps23, Try.results23, hh_i4]) ?_ | refine HSub_drop2 (by simp only [eq_self, hh_i4]) ?_ | refine HSub_keep_eq (by simp only [vsAll, binA, binLitA, intA, aggA, boolA, nilA2, isConst, unA, loadA, loadRow, partA, partOk, fieldAddrA, indexAddrA, indexA, fieldA, extractA, lenA, nilCheckA, boxA, cellA, cellsA, fillA, okParts, buildSliceA, buildMutA, makeSliceA, partIdx, elemsA, lensA, ifaceA, convA, mmA, pickA, okAll, stAll, opsA, partsA, partsOk, opA, allocA, boxMutA, newCells, okCells, storeObj, appendA, guardV, taA, nM, mapUpA, lookA, sliceA, boundsA, opO, okO, copyA, dstOk, nilA, quietOk, nilSliceOp, panA, resA, argFr, retA.eq_1, retA.eq_2, Nat.reduceAdd, Nat.reduceSub, Nat.reduceMul, Nat.reduceLT, Nat.reduceLeDiff, Nat.reduceEqDiff, Nat.reduceBEq, Int.reduceAdd, Int.reduceSub, Int.reduceMul, Int.reduceNeg, Int.reduceLE, Int.reduceLT, Int.reduceEq, Int.reduceNe, Int.reduceToNat, ↓reduceIte, reduceCtorEq, implies_true, forall_const, eq_self, ne_eq, wtAll, Try.ntmps23, Try.results23, hh_i4]) ?_)))
    simp only [eq_self, ev, e, Int.natCast_zero]
  · cases hv
  · simp only [vsAll, okAll, stAll, opsA, opA, dstOk, Nat.reduceLT, ↓reduceIte, eq_self]
    refine callK_pure (least_tri x (fullS x) (fullC x) false _ hk.gd (full_lt hk).1 (full_lt hk).2) ?_
    have hsm := tlW_some hk.gd (fullC x)
    generalize htw : tlW x (fullS x) (fullC x) false = tw at hsm
    simp only [vsAll, extractA, cellA, cellsA, okAll, stAll, opsA, opA, allocA, newCells, okCells, storeObj, dstOk, nilSliceOp, Nat.reduceAdd, Nat.reduceLT, Nat.reduceEqDiff, ↓reduceIte, eq_self, wtAll]
    intro i5 hh_i5; (try simp only [ite_none] at hh_i5)
    refine ask_call (fun h => ?_) (fun h => ?_)
    · rw [h] at hsm
      have hl := of_decide_eq_true hsm.symm
      have e : falseE x = 0 := errE_told hk hl
      have ev : falseP x = tw.getD (0, 0) := by simp only [falseP, e, if_true, htw]
      simp only [vsAll]
      refine vs_draw2 [0, 0, 0, 0, 1, 3, 5] [([0, 1, 2, 3], [3], 4), ([], [], 5), ([], [], 6)] [] (by decide +kernel) ?_
      simp only [vsAll, loadA, loadRow, partA, partOk, fieldAddrA, cellA, cellsA, opA, newCells, okCells, storeObj, dstOk, nilSliceOp, Nat.reduceLT, Nat.reduceEqDiff, ↓reduceIte, eq_self, wtAll, hh_i5]
      refine Ent.ret ⟨i4, _, rfl, by simp only [vsAll, ↓reduceIte, eq_self]; try rfl, ?_⟩
      simp only [vsAll, loadA, loadRow, partA, partOk, resA, retA.eq_2, Nat.reduceLT, Nat.reduceEqDiff, ↓reduceIte, eq_self, wtAll, Try.results23]
      refine dropR_pure ?_ (by (repeat (first | exact HSub_rfl | refine HSub_put_eq (by simp only [vsAll, binA, binLitA, intA, aggA, boolA, nilA2, isConst, unA, loadA, loadRow, partA, partOk, fieldAddrA, indexAddrA, indexA, fieldA, extractA, lenA, nilCheckA, boxA, cellA, cellsA, fillA, okParts, buildSliceA, buildMutA, makeSliceA, partIdx, elemsA, lensA, ifaceA, convA, mmA, pickA, okAll, stAll, opsA, partsA, partsOk, opA, allocA, boxMutA, newCells, okCells, storeObj, appendA, guardV, taA, nM, mapUpA, lookA, sliceA, boundsA, opO, okO, copyA, dstOk, nilA, quietOk, nilSliceOp, panA, resA, argFr, retA.eq_1, retA.eq_2, Nat.reduceAdd, Nat.reduceSub, Nat.reduceMul, Nat.reduceLT, Nat.reduceLeDiff, Nat.reduceEqDiff, Nat.reduceBEq, Int.reduceAdd, Int.reduceSub, Int.reduceMul, Int.reduceNeg, Int.reduceLE, Int.reduceLT, Int.reduceEq, Int.reduceNe, Int.reduceToNat, ↓reduceIte, reduceCtorEq, implies_true, forall_const, eq_self, ne_eq, wtAll, Try.ntmps23, Try.results23, hh_i4, hh_i5]) ?_ | refine HSub_drop2 (by simp only [eq_self, hh_i4, hh_i5]) ?_ | refine HSub_keep_eq (by simp only [vsAll, binA, binLitA, intA, aggA, boolA, nilA2, isConst, unA, loadA, loadRow, partA, partOk, fieldAddrA, indexAddrA, indexA, fieldA, extractA, lenA, nilCheckA, boxA, cellA, cellsA, fillA, okParts, buildSliceA, buildMutA, makeSliceA, partIdx, elemsA, lensA, ifaceA, convA, mmA, pickA, okAll, stAll, opsA, partsA, partsOk, opA, allocA, boxMutA, newCells, okCells, storeObj, appendA, guardV, taA, nM, mapUpA, lookA, sliceA, boundsA, opO, okO, copyA, dstOk, nilA, quietOk, nilSliceOp, panA, resA, argFr, retA.eq_1, retA.eq_2, Nat.reduceAdd, Nat.reduceSub, Nat.reduceMul, Nat.reduceLT, Nat.reduceLeDiff, Nat.reduceEqDiff, Nat.reduceBEq, Int.reduceAdd, Int.reduceSub, Int.reduceMul, Int.reduceNeg, Int.reduceLE, Int.reduceLT, Int.reduceEq, Int.reduceNe, Int.reduceToNat, ↓reduceIte, reduceCtorEq, implies_true, forall_const, eq_self, ne_eq, wtAll, Try.ntmps23, Try.results23, hh_i4, hh_i5]) ?_)))
      simp only [eq_self, e, ev]
    · rw [h] at hsm
      have hl := of_decide_eq_false hsm.symm
      have e : falseE x = 10 := errE_clash hk (by ((try clear hh_i4); (try clear hh_i5); omega))
      have ev : falseP x = (0, 0) := by simp only [falseP, e]; rfl
      simp only [vsAll]
      refine ⟨10, i4, _, rfl, rfl, by simp only [vsAll, ↓reduceIte, eq_self, hh_i5]; try rfl, ?_⟩
      simp only [vsAll, loadA, loadRow, partA, partOk, resA, retA.eq_2, Nat.reduceLT, Nat.reduceEqDiff, ↓reduceIte, eq_self, wtAll, Try.results23]
      refine dropR_pure ?_ (by (repeat (first | exact HSub_rfl | refine HSub_put_eq (by simp only [vsAll, binA, binLitA, intA, aggA, boolA, nilA2, isConst, unA, loadA, loadRow, partA, partOk, fieldAddrA, indexAddrA, indexA, fieldA, extractA, lenA, nilCheckA, boxA, cellA, cellsA, fillA, okParts, buildSliceA, buildMutA, makeSliceA, partIdx, elemsA, lensA, ifaceA, convA, mmA, pickA, okAll, stAll, opsA, partsA, partsOk, opA, allocA, boxMutA, newCells, okCells, storeObj, appendA, guardV, taA, nM, mapUpA, lookA, sliceA, boundsA, opO, okO, copyA, dstOk, nilA, quietOk, nilSliceOp, panA, resA, argFr, retA.eq_1, retA.eq_2, Nat.reduceAdd, Nat.reduceSub, Nat.reduceMul, Nat.reduceLT, Nat.reduceLeDiff, Nat.reduceEqDiff, Nat.reduceBEq, Int.reduceAdd, Int.reduceSub, Int.reduceMul, Int.reduceNeg, Int.reduceLE, Int.reduceLT, Int.reduceEq, Int.reduceNe, Int.reduceToNat, ↓reduceIte, reduceCtorEq, implies_true, forall_const, eq_self, ne_eq, wtAll, Try.ntmps23, Try.results23, hh_i4, hh_i5]) ?_ | refine HSub_drop2 (by simp only [eq_self, hh_i4, hh_i5]) ?_ | refine HSub_keep_eq (by simp only [vsAll, binA, binLitA, intA, aggA, boolA, nilA2, isConst, unA, loadA, loadRow, partA, partOk, fieldAddrA, indexAddrA, indexA, fieldA, extractA, lenA, nilCheckA, boxA, cellA, cellsA, fillA, okParts, buildSliceA, buildMutA, makeSliceA, partIdx, elemsA, lensA, ifaceA, convA, mmA, pickA, okAll, stAll, opsA, partsA, partsOk, opA, allocA, boxMutA, newCells, okCells, storeObj, appendA, guardV, taA, nM, mapUpA, lookA, sliceA, boundsA, opO, okO, copyA, dstOk, nilA, quietOk, nilSliceOp, panA, resA, argFr, retA.eq_1, retA.eq_2, Nat.reduceAdd, Nat.reduceSub, Nat.reduceMul, Nat.reduceLT, Nat.reduceLeDiff, Nat.reduceEqDiff, Nat.reduceBEq, Int.reduceAdd, Int.reduceSub, Int.reduceMul, Int.reduceNeg, Int.reduceLE, Int.reduceLT, Int.reduceEq, Int.reduceNe, Int.reduceToNat, ↓reduceIte, reduceCtorEq, implies_true, forall_const, eq_self, ne_eq, wtAll, Try.ntmps23, Try.results23, hh_i4, hh_i5]) ?_)))
      simp only [eq_self, ev, e, Int.natCast_zero]

def clP (x : Ir) (set : Nat) : Bool := decide ((tlN x (fullS x) set true).getD 0 = 0)
def shP (x : Ir) (set : Nat) : Bool := decide ((tlN x set (fullC x) false).getD 0 = 0)
theorem dec_zero (n : Nat) : decide ((n : Int) = 0) = decide (n = 0) := decide_eq_decide.2 (by omega)
theorem clash1_tri (x : Ir) (i4 set : Nat) (H : Hp) (k : Ok x) (h4 : H i4 = some (.box 1 1 fun _ => [irP x (fullS x) (fullC x) false])) (hs : set < 2 ^ 60) :
    PTri Try.prog (.func (.func 68) [] [.ref i4 0 1 0 0]) [u64 set] H (boo (clP x set)) := by
  refine Tri.drop ?_
  refine tri_v0 (fun _ => false) Try.func68 (by kernel_rfl) rfl (by simp only [List.length_append, List.length_cons, List.length_nil, Try.ntmps68]; decide) ?_
  skip
  simp only [vsAll, loadA, loadRow, partA, partOk, fieldAddrA, nilCheckA, cellA, cellsA, okAll, stAll, opsA, opA, allocA, newCells, okCells, storeObj, dstOk, nilSliceOp, argFr, Nat.reduceAdd, Nat.reduceLT, Nat.reduceLeDiff, Nat.reduceEqDiff, ↓reduceIte, reduceCtorEq, eq_self, wtAll, Try.ntmps68, h4]
  intro ip hh_ip; (try simp only [Hp.set_none, ite_none] at hh_ip)
  have a1 := ne_some hh_ip h4
  skip
  rw [Hp.set_set, Hp.set_set, Hp.set_set]
  refine callK (tri_freezeB (id := ip) (args' := [irP x (fullS x) set true]) (Hp.set_same _ _ _) rfl (fun q hq => ?_) (ways_tri x (fullS x) set true _ k.gd (full_lt k).1 hs)) ?_
  · match q, hq with
    | 0, _ => exact .leaf ⟨0, 0, rfl, rfl⟩
  rw [set_del hh_ip]
  rintro r H' ⟨rfl, rfl⟩
  simp only [vsAll, binA, binLitA, intA, opA, dstOk, nilSliceOp, resA, retA.eq_1, Nat.reduceLT, ↓reduceIte, eq_self, Try.results68]
  rw [dec_zero]
  exact dropR_pure rfl (HSub.refl _)
theorem short1_tri (x : Ir) (i4 set : Nat) (H : Hp) (k : Ok x) (h4 : H i4 = some (.box 1 1 fun _ => [irP x (fullS x) (fullC x) false])) (hs : set < 2 ^ 60) :
    PTri Try.prog (.func (.func 70) [] [.ref i4 0 1 0 0]) [u64 set] H (boo (shP x set)) := by
  refine Tri.drop ?_
  refine tri_v0 (fun _ => false) Try.func70 (by kernel_rfl) rfl (by simp only [List.length_append, List.length_cons, List.length_nil, Try.ntmps70]; decide) ?_
  skip
  simp only [vsAll, loadA, loadRow, partA, partOk, fieldAddrA, nilCheckA, cellA, cellsA, okAll, stAll, opsA, opA, allocA, newCells, okCells, storeObj, dstOk, nilSliceOp, argFr, Nat.reduceAdd, Nat.reduceLT, Nat.reduceLeDiff, Nat.reduceEqDiff, ↓reduceIte, reduceCtorEq, eq_self, wtAll, Try.ntmps70, h4]
  intro ip hh_ip; (try simp only [Hp.set_none, ite_none] at hh_ip)
  have a1 := ne_some hh_ip h4
  skip
  rw [Hp.set_set, Hp.set_set]
  refine callK (tri_freezeB (id := ip) (args' := [irP x set (fullC x) false]) (Hp.set_same _ _ _) rfl (fun q hq => ?_) (ways_tri x set (fullC x) false _ k.gd hs (full_lt k).2)) ?_
  · match q, hq with
    | 0, _ => exact .leaf ⟨0, 0, rfl, rfl⟩
  rw [set_del hh_ip]
  rintro r H' ⟨rfl, rfl⟩
  simp only [vsAll, binA, binLitA, intA, opA, dstOk, nilSliceOp, resA, retA.eq_1, Nat.reduceLT, ↓reduceIte, eq_self, Try.results70]
  rw [dec_zero]
  exact dropR_pure rfl (HSub.refl _)
def setE (e : Int) (r : Option Nat) : Int := if e = 0 then (if r.isSome = true then 0 else 4) else e
def setV (e : Int) (r : Option Nat) : Nat := if setE e r = 0 then r.getD 0 else 0
theorem setV_no {e : Int} {r : Option Nat} (h : e ≠ 0) : setE e r = e ∧ setV e r = 0 := by
  have h1 : setE e r = e := if_neg h
  exact ⟨h1, by rw [setV, h1, if_neg h]⟩
theorem setV_none {r : Option Nat} (h : r.isSome = false) : setE 0 r = 4 ∧ setV 0 r = 0 := by
  have h1 : setE 0 r = 4 := by rw [setE, if_pos rfl, h]; rfl
  exact ⟨h1, by rw [setV, h1, if_neg (by decide)]⟩
theorem setV_some {r : Option Nat} (h : r.isSome = true) : setE 0 r = 0 ∧ setV 0 r = r.getD 0 := by
  have h1 : setE 0 r = 0 := by rw [setE, if_pos rfl, if_pos h]
  exact ⟨h1, by rw [setV, h1, if_pos rfl]⟩
theorem inn_lt (f : Nat → Bool) (z n : Nat) : ∀ j r, inn f z n j = some r → j ≤ r ∧ r < j + n ∧ pop r = z ∧ f r = true := by
  induction n with
  | zero => intro j r h; cases h
  | succ n ih =>
    intro j r h
    simp only [inn] at h
    split at h
    · rename_i hc
      cases h
      simp only [Bool.and_eq_true, decide_eq_true_eq] at hc
      exact ⟨Nat.le_refl _, by omega, hc.1, hc.2⟩
    · obtain ⟨h1, h2, h3⟩ := ih _ _ h
      exact ⟨by omega, by omega, h3⟩
theorem outF_lt (f : Nat → Bool) (m n : Nat) : ∀ z r, outF f m n z = some r → r < 2 ^ m ∧ f r = true := by
  induction n with
  | zero => intro z r h; cases h
  | succ n ih =>
    intro z r h
    simp only [outF] at h
    split at h
    · rename_i j hj
      cases h
      have := inn_lt _ _ _ _ _ hj
      exact ⟨by omega, this.2.2.2⟩
    · exact ih _ _ h
theorem fewV_lt (f : Nat → Bool) (m : Nat) : (fewV f m).getD 0 < 2 ^ m := by
  cases h : fewV f m with
  | none => exact Nat.pow_pos (by decide)
  | some r => exact (outF_lt _ _ _ _ _ h).1
abbrev clashR (x : Ir) : Option Nat := fewV (clP x) x.cl.length
abbrev shortR (x : Ir) : Option Nat := fewV (shP x) x.st.length
theorem wclash_tri (x : Ir) (H : Hp) (kn : Near x) : PTri Try.prog (fnA 27) [x.av] H (.tuple [i64 (setV (errE x true true) (clashR x) : Nat), i64 (setE (errE x true true) (clashR x))]) := by
  refine Tri.drop ?_
  refine tri_a (m := fun _ => false) ans43 Try.func27 (by kernel_rfl) rfl (by simp only [List.length_append, List.length_cons, List.length_nil, Try.ntmps27]; decide) ?_
  simp only [vsAll, loadA, loadRow, partA, partOk, boxA, okAll, stAll, opsA, opA, allocA, dstOk, nilSliceOp, argFr, Nat.reduceAdd, Nat.reduceLT, Nat.reduceEqDiff, ↓reduceIte, eq_self, wtAll, Try.ntmps27]
  intro i3 hh_i3; (try simp only [Hp.set_none, ite_none] at hh_i3)
  refine open_call (open_tri x _ true _ kn trivial rfl (fun hk H' => always_tri _ H')) (fun hno => ?_) (fun hk hv => ?_) (fun hk hv => ?_)
  · have e : errE x true true = 1 := errE_no hno _ _
    obtain ⟨e1, e2⟩ := setV_no (e := 1) (r := clashR x) (by decide)
    rw [e, e1, e2]
    simp only [vsAll]
    refine ⟨1, i3, _, rfl, rfl, by simp only [vsAll, ↓reduceIte, eq_self]; try rfl, ?_⟩
    simp only [vsAll, loadA, loadRow, partA, partOk, resA, retA.eq_2, Nat.reduceLT, Nat.reduceEqDiff, ↓reduceIte, eq_self, wtAll, Try.results27]
    refine dropR_pure ?_ (by (repeat (first | exact HSub_rfl | refine HSub_put_eq (by simp only [vsAll, binA, binLitA, intA, aggA, boolA, nilA2, isConst, unA, loadA, loadRow, partA, partOk, fieldAddrA, indexAddrA, indexA, fieldA, extractA, lenA, nilCheckA, boxA, cellA, cellsA, fillA, okParts, buildSliceA, buildMutA, makeSliceA, partIdx, elemsA, lensA, ifaceA, convA, mmA, pickA, okAll, stAll, opsA, partsA, partsOk, opA, allocA, boxMutA, newCells, okCells, storeObj, appendA, guardV, taA, nM, mapUpA, lookA, sliceA, boundsA, opO, okO, copyA, dstOk, nilA, quietOk, nilSliceOp, panA, resA, argFr, retA.eq_1, retA.eq_2, Nat.reduceAdd, Nat.reduceSub, Nat.reduceMul, Nat.reduceLT, Nat.reduceLeDiff, Nat.reduceEqDiff, Nat.reduceBEq, Int.reduceAdd, Int.reduceSub, Int.reduceMul, Int.reduceNeg, Int.reduceLE, Int.reduceLT, Int.reduceEq, Int.reduceNe, Int.reduceToNat, ↓reduceIte, reduceCtorEq, implies_true, forall_const, eq_self, ne_eq, wtAll, Try.ntmps27, Try.results27, hh_i3]) ?_ | refine HSub_drop2 (by simp only [eq_self, hh_i3]) ?_ | refine HSub_keep_eq (by simp only [vsAll, binA, binLitA, intA, aggA, boolA, nilA2, isConst, unA, loadA, loadRow, partA, partOk, fieldAddrA, indexAddrA, indexA, fieldA, extractA, lenA, nilCheckA, boxA, cellA, cellsA, fillA, okParts, buildSliceA, buildMutA, makeSliceA, partIdx, elemsA, lensA, ifaceA, convA, mmA, pickA, okAll, stAll, opsA, partsA, partsOk, opA, allocA, boxMutA, newCells, okCells, storeObj, appendA, guardV, taA, nM, mapUpA, lookA, sliceA, boundsA, opO, okO, copyA, dstOk, nilA, quietOk, nilSliceOp, panA, resA, argFr, retA.eq_1, retA.eq_2, Nat.reduceAdd, Nat.reduceSub, Nat.reduceMul, Nat.reduceLT, Nat.reduceLeDiff, Nat.reduceEqDiff, Nat.reduceBEq, Int.reduceAdd, Int.reduceSub, Int.reduceMul, Int.reduceNeg, Int.reduceLE, Int.reduceLT, Int.reduceEq, Int.reduceNe, Int.reduceToNat, ↓reduceIte, reduceCtorEq, implies_true, forall_const, eq_self, ne_eq, wtAll, Try.ntmps27, Try.results27, hh_i3]) ?_)))
    simp only [eq_self, Int.natCast_zero]
  · cases hv
  · simp only [vsAll, okAll, stAll, opsA, opA, dstOk, Nat.reduceLT, ↓reduceIte, eq_self]
    refine told_call hk (full_lt hk).2 (fun hl => ?_) (fun hl => ?_)
    · have e : errE x true true = 0 := errE_told hk hl
      rw [e]
      have nC := hk.nC
      simp only [vsAll, loadA, loadRow, partA, partOk, fieldAddrA, lenA, cellA, cellsA, okAll, stAll, opsA, opA, allocA, newCells, okCells, storeObj, dstOk, Nat.reduceLT, Nat.reduceEqDiff, ↓reduceIte, eq_self, wtAll]
      intro i4 hh_i4; (try simp only [ite_none] at hh_i4)
      refine callK_pure (fewest_tri (clP x) x.cl.length _ _ nC trivial rfl (fun j hj => clash1_tri x i4 j _ hk (by simp only [vsAll, ↓reduceIte, eq_self]) (Nat.lt_of_lt_of_le hj (Nat.pow_le_pow_right (by decide) (by ((try clear hh_i3); (try clear hh_i4); omega)))))) ?_
      have hlt := fewV_lt (clP x) x.cl.length
      have hp : 2 ^ x.cl.length ≤ 2 ^ 8 := Nat.pow_le_pow_right (by decide) nC
      have h1 := setV_some (r := clashR x)
      have h2 := setV_none (r := clashR x)
      simp only [clashR] at h1 h2 ⊢
      generalize fewV (clP x) x.cl.length = cr at hlt h1 h2 ⊢
      simp only [vsAll, extractA, okAll, stAll, opsA, opA, dstOk, nilSliceOp, Nat.reduceAdd, Nat.reduceLT, Nat.reduceEqDiff, ↓reduceIte, eq_self]
      refine ask_call (fun h => ?_) (fun h => ?_)
      · obtain ⟨e1, e2⟩ := h1 h
        rw [e1, e2]
        simp only [vsAll, cellA, cellsA, convA, opA, newCells, okCells, storeObj, dstOk, nilSliceOp, Nat.reduceLT, Nat.reduceEqDiff, ↓reduceIte, eq_self, wtAll, hh_i4]
        refine ⟨by simp only [InR_i64]; ((try clear hh_i3); (try clear hh_i4); omega), ?_⟩
        refine Ent.ret ⟨i3, _, rfl, by simp only [vsAll, ↓reduceIte, eq_self]; try rfl, ?_⟩
        simp only [vsAll, loadA, loadRow, partA, partOk, resA, retA.eq_2, Nat.reduceLT, Nat.reduceEqDiff, ↓reduceIte, eq_self, wtAll, Try.results27]
        refine dropR_pure ?_ (by (repeat (first | exact HSub_rfl | refine HSub_put_eq (by simp only [vsAll, binA, binLitA, intA, aggA, boolA, nilA2, isConst, unA, loadA, loadRow, partA, partOk, fieldAddrA, indexAddrA, indexA, fieldA, extractA, lenA, nilCheckA, boxA, cellA, cellsA, fillA, okParts, buildSliceA, buildMutA, makeSliceA, partIdx, elemsA, lensA, ifaceA, convA, mmA, pickA, okAll, stAll, opsA, partsA, partsOk, opA, allocA, boxMutA, newCells, okCells, storeObj, appendA, guardV, taA, nM, mapUpA, lookA, sliceA, boundsA, opO, okO, copyA, dstOk, nilA, quietOk, nilSliceOp, panA, resA, argFr, retA.eq_1, retA.eq_2, Nat.reduceAdd, Nat.reduceSub, Nat.reduceMul, Nat.reduceLT, Nat.reduceLeDiff, Nat.reduceEqDiff, Nat.reduceBEq, Int.reduceAdd, Int.reduceSub, Int.reduceMul, Int.reduceNeg, Int.reduceLE, Int.reduceLT, Int.reduceEq, Int.reduceNe, Int.reduceToNat, ↓reduceIte, reduceCtorEq, implies_true, forall_const, eq_self, ne_eq, wtAll, Try.ntmps27, Try.results27, hh_i3, hh_i4]) ?_ | refine HSub_drop2 (by simp only [eq_self, hh_i3, hh_i4]) ?_ | refine HSub_keep_eq (by simp only [vsAll, binA, binLitA, intA, aggA, boolA, nilA2, isConst, unA, loadA, loadRow, partA, partOk, fieldAddrA, indexAddrA, indexA, fieldA, extractA, lenA, nilCheckA, boxA, cellA, cellsA, fillA, okParts, buildSliceA, buildMutA, makeSliceA, partIdx, elemsA, lensA, ifaceA, convA, mmA, pickA, okAll, stAll, opsA, partsA, partsOk, opA, allocA, boxMutA, newCells, okCells, storeObj, appendA, guardV, taA, nM, mapUpA, lookA, sliceA, boundsA, opO, okO, copyA, dstOk, nilA, quietOk, nilSliceOp, panA, resA, argFr, retA.eq_1, retA.eq_2, Nat.reduceAdd, Nat.reduceSub, Nat.reduceMul, Nat.reduceLT, Nat.reduceLeDiff, Nat.reduceEqDiff, Nat.reduceBEq, Int.reduceAdd, Int.reduceSub, Int.reduceMul, Int.reduceNeg, Int.reduceLE, Int.reduceLT, Int.reduceEq, Int.reduceNe, Int.reduceToNat, ↓reduceIte, reduceCtorEq, implies_true, forall_const, eq_self, ne_eq, wtAll, Try.ntmps27, Try.results27, hh_i3, hh_i4]) ?_)))
        rfl
      · obtain ⟨e1, e2⟩ := h2 h
        rw [e1, e2]
        simp only [vsAll]
        refine ⟨4, i3, _, rfl, rfl, by simp only [vsAll, ↓reduceIte, eq_self, hh_i4]; try rfl, ?_⟩
        simp only [vsAll, loadA, loadRow, partA, partOk, resA, retA.eq_2, Nat.reduceLT, Nat.reduceEqDiff, ↓reduceIte, eq_self, wtAll, Try.results27]
        refine dropR_pure ?_ (by (repeat (first | exact HSub_rfl | refine HSub_put_eq (by simp only [vsAll, binA, binLitA, intA, aggA, boolA, nilA2, isConst, unA, loadA, loadRow, partA, partOk, fieldAddrA, indexAddrA, indexA, fieldA, extractA, lenA, nilCheckA, boxA, cellA, cellsA, fillA, okParts, buildSliceA, buildMutA, makeSliceA, partIdx, elemsA, lensA, ifaceA, convA, mmA, pickA, okAll, stAll, opsA, partsA, partsOk, opA, allocA, boxMutA, newCells, okCells, storeObj, appendA, guardV, taA, nM, mapUpA, lookA, sliceA, boundsA, opO, okO, copyA, dstOk, nilA, quietOk, nilSliceOp, panA, resA, argFr, retA.eq_1, retA.eq_2, Nat.reduceAdd, Nat.reduceSub, Nat.reduceMul, Nat.reduceLT, Nat.reduceLeDiff, Nat.reduceEqDiff, Nat.reduceBEq, Int.reduceAdd, Int.reduceSub, Int.reduceMul, Int.reduceNeg, Int.reduceLE, Int.reduceLT, Int.reduceEq, Int.reduceNe, Int.reduceToNat, ↓reduceIte, reduceCtorEq, implies_true, forall_const, eq_self, ne_eq, wtAll, Try.ntmps27, Try.results27, hh_i3, hh_i4]) ?_ | refine HSub_drop2 (by simp only [eq_self, hh_i3, hh_i4]) ?_ | refine HSub_keep_eq (by simp only [vsAll, binA, binLitA, intA, aggA, boolA, nilA2, isConst, unA, loadA, loadRow, partA, partOk, fieldAddrA, indexAddrA, indexA, fieldA, extractA, lenA, nilCheckA, boxA, cellA, cellsA, fillA, okParts, buildSliceA, buildMutA, makeSliceA, partIdx, elemsA, lensA, ifaceA, convA, mmA, pickA, okAll, stAll, opsA, partsA, partsOk, opA, allocA, boxMutA, newCells, okCells, storeObj, appendA, guardV, taA, nM, mapUpA, lookA, sliceA, boundsA, opO, okO, copyA, dstOk, nilA, quietOk, nilSliceOp, panA, resA, argFr, retA.eq_1, retA.eq_2, Nat.reduceAdd, Nat.reduceSub, Nat.reduceMul, Nat.reduceLT, Nat.reduceLeDiff, Nat.reduceEqDiff, Nat.reduceBEq, Int.reduceAdd, Int.reduceSub, Int.reduceMul, Int.reduceNeg, Int.reduceLE, Int.reduceLT, Int.reduceEq, Int.reduceNe, Int.reduceToNat, ↓reduceIte, reduceCtorEq, implies_true, forall_const, eq_self, ne_eq, wtAll, Try.ntmps27, Try.results27, hh_i3, hh_i4]) ?_)))
        simp only [eq_self, Int.natCast_zero]
    · have e : errE x true true = 10 := errE_clash hk hl
      obtain ⟨e1, e2⟩ := setV_no (e := 10) (r := clashR x) (by decide)
      rw [e, e1, e2]
      simp only [vsAll]
      refine ⟨10, i3, _, rfl, rfl, by simp only [vsAll, ↓reduceIte, eq_self]; try rfl, ?_⟩
      simp only [vsAll, loadA, loadRow, partA, partOk, resA, retA.eq_2, Nat.reduceLT, Nat.reduceEqDiff, ↓reduceIte, eq_self, wtAll, Try.results27]
      refine dropR_pure ?_ (by (repeat (first | exact HSub_rfl | refine HSub_put_eq (by simp only [vsAll, binA, binLitA, intA, aggA, boolA, nilA2, isConst, unA, loadA, loadRow, partA, partOk, fieldAddrA, indexAddrA, indexA, fieldA, extractA, lenA, nilCheckA, boxA, cellA, cellsA, fillA, okParts, buildSliceA, buildMutA, makeSliceA, partIdx, elemsA, lensA, ifaceA, convA, mmA, pickA, okAll, stAll, opsA, partsA, partsOk, opA, allocA, boxMutA, newCells, okCells, storeObj, appendA, guardV, taA, nM, mapUpA, lookA, sliceA, boundsA, opO, okO, copyA, dstOk, nilA, quietOk, nilSliceOp, panA, resA, argFr, retA.eq_1, retA.eq_2, Nat.reduceAdd, Nat.reduceSub, Nat.reduceMul, Nat.reduceLT, Nat.reduceLeDiff, Nat.reduceEqDiff, Nat.reduceBEq, Int.reduceAdd, Int.reduceSub, Int.reduceMul, Int.reduceNeg, Int.reduceLE, Int.reduceLT, Int.reduceEq, Int.reduceNe, Int.reduceToNat, ↓reduceIte, reduceCtorEq, implies_true, forall_const, eq_self, ne_eq, wtAll, Try.ntmps27, Try.results27, hh_i3]) ?_ | refine HSub_drop2 (by simp only [eq_self, hh_i3]) ?_ | refine HSub_keep_eq (by simp only [vsAll, binA, binLitA, intA, aggA, boolA, nilA2, isConst, unA, loadA, loadRow, partA, partOk, fieldAddrA, indexAddrA, indexA, fieldA, extractA, lenA, nilCheckA, boxA, cellA, cellsA, fillA, okParts, buildSliceA, buildMutA, makeSliceA, partIdx, elemsA, lensA, ifaceA, convA, mmA, pickA, okAll, stAll, opsA, partsA, partsOk, opA, allocA, boxMutA, newCells, okCells, storeObj, appendA, guardV, taA, nM, mapUpA, lookA, sliceA, boundsA, opO, okO, copyA, dstOk, nilA, quietOk, nilSliceOp, panA, resA, argFr, retA.eq_1, retA.eq_2, Nat.reduceAdd, Nat.reduceSub, Nat.reduceMul, Nat.reduceLT, Nat.reduceLeDiff, Nat.reduceEqDiff, Nat.reduceBEq, Int.reduceAdd, Int.reduceSub, Int.reduceMul, Int.reduceNeg, Int.reduceLE, Int.reduceLT, Int.reduceEq, Int.reduceNe, Int.reduceToNat, ↓reduceIte, reduceCtorEq, implies_true, forall_const, eq_self, ne_eq, wtAll, Try.ntmps27, Try.results27, hh_i3]) ?_)))
      simp only [eq_self, Int.natCast_zero]
theorem wshort_tri (x : Ir) (H : Hp) (kn : Near x) : PTri Try.prog (fnA 29) [x.av] H (.tuple [i64 (setV (errE x true false) (shortR x) : Nat), i64 (setE (errE x true false) (shortR x))]) := by
  refine Tri.drop ?_
  refine tri_a (m := fun _ => false) ans43 Try.func29 (by kernel_rfl) rfl (by simp only [List.length_append, List.length_cons, List.length_nil, Try.ntmps29]; decide) ?_
  simp only [vsAll, loadA, loadRow, partA, partOk, boxA, okAll, stAll, opsA, opA, allocA, dstOk, nilSliceOp, argFr, Nat.reduceAdd, Nat.reduceLT, Nat.reduceEqDiff, ↓reduceIte, eq_self, wtAll, Try.ntmps29]
  intro i3 hh_i3; (try simp only [Hp.set_none, ite_none] at hh_i3)
  refine open_call (open_tri x _ true _ kn trivial rfl (fun hk H' => always_tri _ H')) (fun hno => ?_) (fun hk hv => ?_) (fun hk hv => ?_)
  · have e : errE x true false = 1 := errE_no hno _ _
    obtain ⟨e1, e2⟩ := setV_no (e := 1) (r := shortR x) (by decide)
    rw [e, e1, e2]
    simp only [vsAll]
    refine ⟨1, i3, _, rfl, rfl, by simp only [vsAll, ↓reduceIte, eq_self]; try rfl, ?_⟩
    simp only [vsAll, loadA, loadRow, partA, partOk, resA, retA.eq_2, Nat.reduceLT, Nat.reduceEqDiff, ↓reduceIte, eq_self, wtAll, Try.results29]
    refine dropR_pure ?_ (by (repeat (first | exact HSub_rfl | refine HSub_put_eq (by simp only [vsAll, binA, binLitA, intA, aggA, boolA, nilA2, isConst, unA, loadA, loadRow, partA, partOk, fieldAddrA, indexAddrA, indexA, fieldA, extractA, lenA, nilCheckA, boxA, cellA, cellsA, fillA, okParts, buildSliceA, buildMutA, makeSliceA, partIdx, elemsA, lensA, ifaceA, convA, mmA, pickA, okAll, stAll, opsA, partsA, partsOk, opA, allocA, boxMutA, newCells, okCells, storeObj, appendA, guardV, taA, nM, mapUpA, lookA, sliceA, boundsA, opO, okO, copyA, dstOk, nilA, quietOk, nilSliceOp, panA, resA, argFr, retA.eq_1, retA.eq_2, Nat.reduceAdd, Nat.reduceSub, Nat.reduceMul, Nat.reduceLT, Nat.reduceLeDiff, Nat.reduceEqDiff, Nat.reduceBEq, Int.reduceAdd, Int.reduceSub, Int.reduceMul, Int.reduceNeg, Int.reduceLE, Int.reduceLT, Int.reduceEq, Int.reduceNe, Int.reduceToNat, ↓reduceIte, reduceCtorEq, implies_true, forall_const, eq_self, ne_eq, wtAll, Try.ntmps29, Try.results29, hh_i3]) ?_ | refine HSub_drop2 (by simp only [eq_self, hh_i3]) ?_ | refine HSub_keep_eq (by simp only [vsAll, binA, binLitA, intA, aggA, boolA, nilA2, isConst, unA, loadA, loadRow, partA, partOk, fieldAddrA, indexAddrA, indexA, fieldA, extractA, lenA, nilCheckA, boxA, cellA, cellsA, fillA, okParts, buildSliceA, buildMutA, makeSliceA, partIdx, elemsA, lensA, ifaceA, convA, mmA, pickA, okAll, stAll, opsA, partsA, partsOk, opA, allocA, boxMutA, newCells, okCells, storeObj, appendA, guardV, taA, nM, mapUpA, lookA, sliceA, boundsA, opO, okO, copyA, dstOk, nilA, quietOk, nilSliceOp, panA, resA, argFr, retA.eq_1, retA.eq_2, Nat.reduceAdd, Nat.reduceSub, Nat.reduceMul, Nat.reduceLT, Nat.reduceLeDiff, Nat.reduceEqDiff, Nat.reduceBEq, Int.reduceAdd, Int.reduceSub, Int.reduceMul, Int.reduceNeg, Int.reduceLE, Int.reduceLT, Int.reduceEq, Int.reduceNe, Int.reduceToNat, ↓reduceIte, reduceCtorEq, implies_true, forall_const, eq_self, ne_eq, wtAll, Try.ntmps29, Try.results29, hh_i3]) ?_)))
    simp only [eq_self, Int.natCast_zero]
  · cases hv
  · have e : errE x true false = 0 := errE_ok hk
    rw [e]
    have nS : x.st.length ≤ 8 := Nat.le_trans hk.nS (by decide)
    simp only [vsAll, loadA, loadRow, partA, partOk, fieldAddrA, lenA, cellA, cellsA, okAll, stAll, opsA, opA, allocA, newCells, okCells, storeObj, dstOk, Nat.reduceLT, Nat.reduceEqDiff, ↓reduceIte, eq_self, wtAll]
    intro i4 hh_i4; (try simp only [ite_none] at hh_i4)
    refine callK_pure (fewest_tri (shP x) x.st.length _ _ nS trivial rfl (fun j hj => short1_tri x i4 j _ hk (by simp only [vsAll, ↓reduceIte, eq_self]) (Nat.lt_of_lt_of_le hj (Nat.pow_le_pow_right (by decide) (by ((try clear hh_i3); (try clear hh_i4); omega)))))) ?_
    have hlt := fewV_lt (shP x) x.st.length
    have hp : 2 ^ x.st.length ≤ 2 ^ 8 := Nat.pow_le_pow_right (by decide) nS
    have h1 := setV_some (r := shortR x)
    have h2 := setV_none (r := shortR x)
    simp only [shortR] at h1 h2 ⊢
    generalize fewV (shP x) x.st.length = cr at hlt h1 h2 ⊢
    simp only [vsAll, extractA, okAll, stAll, opsA, opA, dstOk, nilSliceOp, Nat.reduceAdd, Nat.reduceLT, Nat.reduceEqDiff, ↓reduceIte, eq_self]
    refine ask_call (fun h => ?_) (fun h => ?_)
    · obtain ⟨e1, e2⟩ := h1 h
      rw [e1, e2]
      simp only [vsAll, cellA, cellsA, convA, opA, newCells, okCells, storeObj, dstOk, nilSliceOp, Nat.reduceLT, Nat.reduceEqDiff, ↓reduceIte, eq_self, wtAll, hh_i4]
      refine ⟨by simp only [InR_i64]; ((try clear hh_i3); (try clear hh_i4); omega), ?_⟩
      refine Ent.ret ⟨i3, _, rfl, by simp only [vsAll, ↓reduceIte, eq_self]; try rfl, ?_⟩
      simp only [vsAll, loadA, loadRow, partA, partOk, resA, retA.eq_2, Nat.reduceLT, Nat.reduceEqDiff, ↓reduceIte, eq_self, wtAll, Try.results29]
      refine dropR_pure ?_ (by (repeat (first | exact HSub_rfl | refine HSub_put_eq (by simp only [vsAll, binA, binLitA, intA, aggA, boolA, nilA2, isConst, unA, loadA, loadRow, partA, partOk, fieldAddrA, indexAddrA, indexA, fieldA, extractA, lenA, nilCheckA, boxA, cellA, cellsA, fillA, okParts, buildSliceA, buildMutA, makeSliceA, partIdx, elemsA, lensA, ifaceA, convA, mmA, pickA, okAll, stAll, opsA, partsA, partsOk, opA, allocA, boxMutA, newCells, okCells, storeObj, appendA, guardV, taA, nM, mapUpA, lookA, sliceA, boundsA, opO, okO, copyA, dstOk, nilA, quietOk, nilSliceOp, panA, resA, argFr, retA.eq_1, retA.eq_2, Nat.reduceAdd, Nat.reduceSub, Nat.reduceMul, Nat.reduceLT, Nat.reduceLeDiff, Nat.reduceEqDiff, Nat.reduceBEq, Int.reduceAdd, Int.reduceSub, Int.reduceMul, Int.reduceNeg, Int.reduceLE, Int.reduceLT, Int.reduceEq, Int.reduceNe, Int.reduceToNat, ↓reduceIte, reduceCtorEq, implies_true, forall_const, eq_self, ne_eq, wtAll, Try.ntmps29, Try.results29, hh_i3, hh_i4]) ?_ | refine HSub_drop2 (by simp only [eq_self, hh_i3, hh_i4]) ?_ | refine HSub_keep_eq (by simp only [vsAll, binA, binLitA, intA, aggA, boolA, nilA2, isConst, unA, loadA, loadRow, partA, partOk, fieldAddrA, indexAddrA, indexA, fieldA, extractA, lenA, nilCheckA, boxA, cellA, cellsA, fillA, okParts, buildSliceA, buildMutA, makeSliceA, partIdx, elemsA, lensA, ifaceA, convA, mmA, pickA, okAll, stAll, opsA, partsA, partsOk, opA, allocA, boxMutA, newCells, okCells, storeObj, appendA, guardV, taA, nM, mapUpA, lookA, sliceA, boundsA, opO, okO, copyA, dstOk, nilA, quietOk, nilSliceOp, panA, resA, argFr, retA.eq_1, retA.eq_2, Nat.reduceAdd, Nat.reduceSub, Nat.reduceMul, Nat.reduceLT, Nat.reduceLeDiff, Nat.reduceEqDiff, Nat.reduceBEq, Int.reduceAdd, Int.reduceSub, Int.reduceMul, Int.reduceNeg, Int.reduceLE, Int.reduceLT, Int.reduceEq, Int.reduceNe, Int.reduceToNat, ↓reduceIte, reduceCtorEq, implies_true, forall_const, eq_self, ne_eq, wtAll, Try.ntmps29, Try.results29, hh_i3, hh_i4]) ?_)))
      rfl
    · obtain ⟨e1, e2⟩ := h2 h
      rw [e1, e2]
      simp only [vsAll]
      refine ⟨4, i3, _, rfl, rfl, by simp only [vsAll, ↓reduceIte, eq_self, hh_i4]; try rfl, ?_⟩
      simp only [vsAll, loadA, loadRow, partA, partOk, resA, retA.eq_2, Nat.reduceLT, Nat.reduceEqDiff, ↓reduceIte, eq_self, wtAll, Try.results29]
      refine dropR_pure ?_ (by (repeat (first | exact HSub_rfl | refine HSub_put_eq (by simp only [vsAll, binA, binLitA, intA, aggA, boolA, nilA2, isConst, unA, loadA, loadRow, partA, partOk, fieldAddrA, indexAddrA, indexA, fieldA, extractA, lenA, nilCheckA, boxA, cellA, cellsA, fillA, okParts, buildSliceA, buildMutA, makeSliceA, partIdx, elemsA, lensA, ifaceA, convA, mmA, pickA, okAll, stAll, opsA, partsA, partsOk, opA, allocA, boxMutA, newCells, okCells, storeObj, appendA, guardV, taA, nM, mapUpA, lookA, sliceA, boundsA, opO, okO, copyA, dstOk, nilA, quietOk, nilSliceOp, panA, resA, argFr, retA.eq_1, retA.eq_2, Nat.reduceAdd, Nat.reduceSub, Nat.reduceMul, Nat.reduceLT, Nat.reduceLeDiff, Nat.reduceEqDiff, Nat.reduceBEq, Int.reduceAdd, Int.reduceSub, Int.reduceMul, Int.reduceNeg, Int.reduceLE, Int.reduceLT, Int.reduceEq, Int.reduceNe, Int.reduceToNat, ↓reduceIte, reduceCtorEq, implies_true, forall_const, eq_self, ne_eq, wtAll, Try.ntmps29, Try.results29, hh_i3, hh_i4]) ?_ | refine HSub_drop2 (by simp only [eq_self, hh_i3, hh_i4]) ?_ | refine HSub_keep_eq (by simp only [vsAll, binA, binLitA, intA, aggA, boolA, nilA2, isConst, unA, loadA, loadRow, partA, partOk, fieldAddrA, indexAddrA, indexA, fieldA, extractA, lenA, nilCheckA, boxA, cellA, cellsA, fillA, okParts, buildSliceA, buildMutA, makeSliceA, partIdx, elemsA, lensA, ifaceA, convA, mmA, pickA, okAll, stAll, opsA, partsA, partsOk, opA, allocA, boxMutA, newCells, okCells, storeObj, appendA, guardV, taA, nM, mapUpA, lookA, sliceA, boundsA, opO, okO, copyA, dstOk, nilA, quietOk, nilSliceOp, panA, resA, argFr, retA.eq_1, retA.eq_2, Nat.reduceAdd, Nat.reduceSub, Nat.reduceMul, Nat.reduceLT, Nat.reduceLeDiff, Nat.reduceEqDiff, Nat.reduceBEq, Int.reduceAdd, Int.reduceSub, Int.reduceMul, Int.reduceNeg, Int.reduceLE, Int.reduceLT, Int.reduceEq, Int.reduceNe, Int.reduceToNat, ↓reduceIte, reduceCtorEq, implies_true, forall_const, eq_self, ne_eq, wtAll, Try.ntmps29, Try.results29, hh_i3, hh_i4]) ?_)))
      simp only [eq_self, Int.natCast_zero]

end Go.Proofs.Ytkonoggmdcdeeaa
end
section
set_option linter.unusedVariables false
set_option linter.unusedSimpArgs false
namespace Go.V
theorem row_leA {st n : Nat} {f g : Nat → List AV} (hl : ∀ i, i < n → (g i).length = (f i).length) (h : ∀ i, i < n → ∀ j, j < st → AV.Le ((f i).getD j .any) ((g i).getD j .any)) : Obj.Le (.row st n f) (.row st n g) := by
  refine ⟨rfl, fun S i k => ?_⟩
  obtain ⟨hg, hc⟩ := k
  refine ⟨hg, hc.imp (fun x => x) ?_⟩
  rintro ⟨b, c, e, h1, h2, h3, h4⟩
  exact ⟨b, c, e, h1, h2, h3, h4.1, fun i hi => (hl i hi).trans (h4.2.1 i hi), fun i j hi hj => h i hi j hj _ _ (h4.2.2 i j hi hj)⟩
theorem HSub_del {A B : Hp} {i : Nat} (h : B i = none) (k : Go.V.HSub A B) : Go.V.HSub (A.del i) B := by
  intro j o hj
  have e : j ≠ i := fun e => by rw [e, h] at hj; cases hj
  obtain ⟨o', h1, h2⟩ := k j o hj
  exact ⟨o', by rw [Hp.del_ne _ e]; exact h1, h2⟩
end Go.V
end
section
set_option linter.unusedVariables false
set_option linter.unusedSimpArgs false
namespace Go.V
theorem Ent.step {s : Fr} {ds : List AD} {H : Hp} {K : Fr → List AD → Hp → Prop} (h : Ent s ds H fun s ds H => Ent s ds H K) : Ent s ds H K := Ent.bind h fun _ _ _ h => h
/-- A row that is written no more, of which another row tells. -/
theorem Ent.freezeRow {s s' : Fr} {ds : List AD} {H : Hp} {K : Fr → List AD → Hp → Prop} {id st n j st' n' : Nat} {f g g' : Nat → List AV} (ho : H id = some (.row st n f)) (hj : H j = some (.row st' n' g)) (hne : j ≠ id)
    (hs : ∀ t, Frz id st n f (s t) (s' t)) (hl : ∀ k, k < n' → (g' k).length = st') (hg : ∀ k c, k < n' → c < st' → Frz id st n f ((g k).getD c .any) ((g' k).getD c .any))
    (h : K s' ds ((H.del id).set j (.row st' n' g'))) : Ent s ds H K := by
  intro S a hH hF hD
  obtain ⟨S2, hw, hle, h2, hc⟩ := frz_step hH ho
  have conv : ∀ x y v, Frz id st n f x y → VRel S x v → VRel S2 y v := fun x y v hxy hv => by
    rcases hxy with rfl | ⟨rfl, rfl⟩
    · exact hv.mono hle
    · exact hc v hv
  have hj2 : (H.del id) j = some (.row st' n' g) := by rw [Hp.del_ne _ hne]; exact hj
  refine ⟨S2, s', ds, _, hw, hle, ?_, fun t => conv _ _ _ (hs t) (hF t), hD.mono hle, h⟩
  obtain ⟨g1, acase⟩ := hH.obj j _ hj
  obtain ⟨g2, qcase⟩ := h2.obj j _ hj2
  have hnew : (Obj.row st' n' g').gen = n' := rfl
  refine ⟨fun i hi => ⟨?_, (h2.fresh i hi).2⟩, h2.immlt, ?_, ?_⟩
  · have hi' := (h2.fresh i hi).1
    by_cases ei : i = j
    · subst ei; rw [hj2] at hi'; cases hi'
    · rw [Hp.set_ne _ _ ei]; exact hi'
  · intro i o hi
    by_cases ei : i = j
    · subst ei
      rw [Hp.set_same] at hi
      cases hi
      refine ⟨g2, ?_⟩
      rcases qcase with q | ⟨b2, c2, e2, q1, q2, q3, q4⟩
      · exact .inl q
      · right
        rcases acase with ⟨a0, a1⟩ | ⟨b, c, e, a1, a2, a3, a4⟩
        · have := hle.locNil a1
          rw [a0] at q1
          rw [this] at q1; cases q1
        · have eb : b2 = b := by
            have := hle.locBlk a1
            rw [this] at q1
            cases q1; rfl
          subst eb
          exact ⟨b2, c, e, q1, by rw [hw]; exact a2, q3, a4.1, hl, fun k d hk hd => conv _ _ _ (hg k d hk hd) (a4.2.2 k d hk hd)⟩
    · rw [Hp.set_ne _ _ ei] at hi
      exact h2.obj i o hi
  · intro i i' o o' x hi hi' hx hx'
    have back : ∀ k o, ((H.del id).set j (.row st' n' g')) k = some o → ∃ p, (H.del id) k = some p ∧ p.gen = o.gen := fun k o hk => by
      by_cases ek : k = j
      · subst ek
        rw [Hp.set_same] at hk
        cases hk
        exact ⟨_, hj2, Eq.refl _⟩
      · rw [Hp.set_ne _ _ ek] at hk
        exact ⟨o, hk, Eq.refl _⟩
    obtain ⟨p, p1, p2⟩ := back i o hi
    obtain ⟨p', p1', p2'⟩ := back i' o' hi'
    exact h2.inj i i' p p' x p1 p1' (by rw [p2]; exact hx) (by rw [p2']; exact hx')
theorem box_leA {st n : Nat} {f g : Nat → List AV} (hl : ∀ i, i < n → (g i).length = (f i).length) (h : ∀ i, i < n → ∀ j, j < st → AV.Le ((f i).getD j .any) ((g i).getD j .any)) : Obj.Le (.box st n f) (.box st n g) := by
  refine ⟨rfl, fun S i k => ?_⟩
  obtain ⟨b, c, e, h1, h2, h3, h4⟩ := k
  exact ⟨b, c, e, h1, h2, h3, h4.1, fun i hi => (hl i hi).trans (h4.2.1 i hi), fun i j hi hj => h i hi j hj _ _ (h4.2.2 i j hi hj)⟩
theorem AV.Le.rslA {n st : Nat} {f g : Nat → List AV} (hl : ∀ i, i < n → (g i).length = (f i).length) (h : ∀ i, i < n → ∀ j, j < st → AV.Le ((f i).getD j .any) ((g i).getD j .any)) : AV.Le (.rsl n st f) (.rsl n st g) := by
  intro S v hv
  cases hv with
  | rsl0 => exact .rsl0
  | rsl hi hb hsz hf hh => exact .rsl hi hb hsz (fun i hi => (hl i hi).trans (hf i hi)) (fun i j hi hj => h i hi j hj _ _ (hh i j hi hj))
theorem loop_ent {r : Option Nat} {P : Program} {m : Option Tmp → Bool} {n : Nat} {k : List It} {Q : Post} {s : Fr} {ds0 ds : List AD} {H : Hp} {σ : Type} {inv : σ → Prop} {fr : σ → List (Nat × AV)} {hp : σ → Hp} {μ : σ → Nat} {x : σ}
    (h : Ent s ds H fun s ds H => LoopQ r P m n inv fr hp μ ds0 k Q x .normal s ds H) : LoopQ r P m n inv fr hp μ ds0 k Q x .normal s ds H := Ent.step h
theorem fn_ent {P : Program} {fn : Func} {R : Res → Hp → Prop} {s : Fr} {ds : List AD} {H : Hp} (h : Ent s ds H fun s ds H => FnPost P fn R .ret s ds H) : FnPost P fn R .ret s ds H := Ent.step h
end Go.V
end
section
set_option linter.unusedVariables false
set_option linter.unusedSimpArgs false
set_option maxHeartbeats 4000000
set_option maxRecDepth 100000
namespace Go.Proofs.Ytkonoggmdcdeeaa
open Go.V
/-- The owners' values with one more: one for one owner, none for all others. -/
def owW (x : Ir) (o : Nat) (i : Nat) : List Int := x.ow.getD i [] ++ [if i = o then 1 else 0]
def stW (x : Ir) (s : Nat) (i : Nat) : List Mk := if i = s then x.st.getD i [] ++ [⟨x.F, 1, 1⟩] else x.st.getD i []
/-- Irons in which a strake has a mark that just an owner's iron has. -/
def withI (x : Ir) (s o : Nat) : Ir := ⟨x.F + 1, (List.range x.ow.length).map (owW x o), x.mo, (List.range x.st.length).map (stW x s), x.cl⟩
def rowO (x : Ir) (o : Nat) (i : Nat) : Nat → List AV := fun j => if j < i then [intsAV (owW x o j)] else llF x.ow j
theorem rowO_len (x : Ir) (o i q : Nat) : (rowO x o i q).length = 1 := by
  unfold rowO
  split <;> rfl
theorem updF_at {n i q : Nat} (hi : i < n) (hq : q < n) (f : Nat → List AV) (c : List AV) : updF n i f c q = if q = i then c else f q := by
  unfold updF
  split
  · rw [if_pos (by omega)]
  · rfl
abbrev extF (l : List Int) (z : Int) : Nat → List AV := appF l.length 1 (appF 0 l.length (fun i => []) (intF l)) (fun i => [[i64 z]].getD i [])
theorem rowO_step {x : Ir} {o i : Nat} {z : Int} (ez : owW x o i = x.ow.getD i [] ++ [z]) (n : Nat) :
    Obj.Le (.row 1 n fun j => if j = i then [.rsl ((x.ow.getD i []).length + 1) 1 (extF (x.ow.getD i []) z)] else rowO x o i j) (.row 1 n (rowO x o (i + 1))) := by
  refine row_leA (fun q hq => ?_) fun q hq c hc => ?_
  · rw [rowO_len]
    split
    · rfl
    · rw [rowO_len]
  · have hc0 : c = 0 := by omega
    subst hc0
    by_cases e : q = i
    · subst e
      rw [if_pos rfl]
      simp only [rowO, Nat.lt_succ_self, if_true, List.getD_cons_zero, ez, intsAV, List.length_append, List.length_cons, List.length_nil, Nat.zero_add]
      exact AV.Le.rsl fun j hj => cp_app _ _ j hj
    · rw [if_neg e]
      have : rowO x o (i + 1) q = rowO x o i q := by
        simp only [rowO]
        by_cases h : q < i
        · rw [if_pos h, if_pos (by omega)]
        · rw [if_neg h, if_neg (by omega)]
      rw [this]
      exact AV.Le.refl _
theorem rowO_frz {x : Ir} {o i iz n q c : Nat} {F : Nat → List AV} {w : Nat} (hi : i < n) (hq : q < n) (hc : c < 1) :
    Frz iz 1 w F ((updF n i (rowO x o i) [AV.sl iz 1 w] q).getD c .any) ((if q = i then [AV.rsl w 1 F] else rowO x o i q).getD c .any) := by
  have hc0 : c = 0 := by omega
  subst hc0
  rw [updF_at hi hq]
  split
  · exact Frz.hit
  · exact Frz.rfl
abbrev extM (l : List Mk) (F : Int) : Nat → List AV := appF l.length 1 (appF 0 l.length (fun i => []) (mkF l)) (fun i => [[i64 F, i64 1, i64 1]].getD i [])
abbrev cpS (x : Ir) : Nat → List AV := cpF 0 x.st.length (fun _ => [.lit (.slice none 0 0)]) 0 (stF x.st)
theorem cpS_at (x : Ir) {j : Nat} (hj : j < x.st.length) : cpS x j = [mksAV (x.st.getD j [])] := by
  simp only [cpF]
  rw [if_pos (by omega), Nat.zero_add, Nat.sub_zero]
  rfl
theorem extM_at (l : List Mk) (F : Int) (i : Nat) (hi : i < l.length + 1) : extM l F i = mkF (l ++ [⟨F, 1, 1⟩]) i := by
  show appF l.length 1 _ _ i = _
  rw [appF_at (by omega)]
  simp only [mkF, getD_snoc]
  by_cases e : i = l.length
  · rw [if_neg (by omega), if_pos e, e, Nat.sub_self]; rfl
  · rw [if_pos (by omega), if_neg e, appF_at (by omega), if_neg (by omega), Nat.sub_zero]; rfl
theorem getD_mapR {α : Type} (f : Nat → α) (n i : Nat) (d : α) (hi : i < n) : ((List.range n).map f).getD i d = f i := by
  rw [List.getD_eq_getElem?_getD, List.getElem?_map, List.getElem?_range hi]; rfl
theorem ow_le (x : Ir) (s o : Nat) : AV.Le (.rsl x.ow.length 1 (rowO x o x.ow.length)) (llAV (withI x s o).ow) := by
  have hl : (withI x s o).ow.length = x.ow.length := by simp [withI]
  simp only [llAV, hl]
  refine AV.Le.rsl fun i hi => ?_
  simp only [rowO, hi, if_true, llF, withI, getD_mapR _ _ _ _ hi]
theorem st_le (x : Ir) (s o : Nat) (hs : s < x.st.length) : AV.Le (.rsl x.st.length 1 fun j => if j = s then [.rsl ((x.st.getD s []).length + 1) 3 (extM (x.st.getD s []) x.F)] else cpS x j) (stAV (withI x s o).st) := by
  have hl : (withI x s o).st.length = x.st.length := by simp [withI]
  simp only [stAV, hl]
  refine AV.Le.rslA (fun i hi => ?_) fun i hi j hj => ?_
  · split
    · rfl
    · rw [cpS_at x hi]; rfl
  · have hj0 : j = 0 := by omega
    subst hj0
    have e : stF (withI x s o).st i = [mksAV (stW x s i)] := by simp only [stF, withI, getD_mapR _ _ _ _ hi]
    rw [e]
    by_cases eq : i = s
    · subst eq
      rw [if_pos rfl]
      simp only [List.getD_cons_zero, stW, if_true, mksAV, List.length_append, List.length_cons, List.length_nil, Nat.zero_add]
      exact AV.Le.rsl fun q hq => extM_at _ _ q hq
    · rw [if_neg eq, cpS_at x hi]
      simp only [stW, eq, if_false]
      exact AV.Le.refl _
theorem cpS_frz {x : Ir} {s im q c w : Nat} {F : Nat → List AV} (hs : s < x.st.length) (hq : q < x.st.length) (hc : c < 1) :
    Frz im 3 w F ((updF x.st.length s (cpS x) [AV.sl im 3 w] q).getD c .any) ((if q = s then [AV.rsl w 3 F] else cpS x q).getD c .any) := by
  have hc0 : c = 0 := by omega
  subst hc0
  rw [updF_at hs hq]
  split
  · exact Frz.hit
  · exact Frz.rfl
theorem with1_tri (x : Ir) (S C : Nat) (m : Bool) (s o : Nat) (H : Hp) (k : Ok x) (hs : s < x.st.length) (ho : o < x.ow.length) :
    PTri Try.prog (fnA 66) [irP x S C m, i64 s, i64 o] H (.tuple [irP (withI x s o) S C m, boo (fitB x o s)]) := by
  have nO := k.nO
  have nS := k.nS
  have hF := k.F
  refine tri_vs (m := mset [21, 55, 57, 60, 69, 85, 94, 102]) Try.func66 (by kernel_rfl) rfl (by simp only [List.length_append, List.length_cons, List.length_nil, Try.ntmps66]; decide) ?_
  simp only [vsAll, loadA, loadRow, partA, partOk, fieldAddrA, lenA, nilCheckA, cellA, cellsA, makeSliceA, opA, allocA, newCells, okCells, storeObj, dstOk, nilSliceOp, argFr, Nat.reduceAdd, Nat.reduceLT, Nat.reduceLeDiff, Nat.reduceEqDiff, Nat.reduceBEq, ↓reduceIte, reduceCtorEq, eq_self, wtAll, Try.ntmps66]
  intro i8 hh_i8; (try simp only [Hp.set_none, ite_none] at hh_i8)
  refine ⟨by ((try clear hh_i8); omega), by ((try clear hh_i8); omega), by ((try clear hh_i8); omega), ?_⟩
  intro iow hh_iow; (try simp only [ite_none] at hh_iow)
  simp only [vsAll, Nat.reduceLT, ↓reduceIte, eq_self, hh_iow]
  refine vs_draw2 [0, 0, 0, 0, 0, 0, 0, 0, 1] [([0, 1, 2, 3, 4, 5, 6, 7], [], 8)] [] (by decide +kernel) ?_
  simp only [vsAll, binA, binLitA, intA, loadA, loadRow, partA, partOk, fieldAddrA, lenA, nilCheckA, cellA, cellsA, opA, newCells, okCells, storeObj, copyA, dstOk, argFr, Nat.reduceLT, Nat.reduceLeDiff, Nat.reduceEqDiff, ↓reduceIte, reduceCtorEq, eq_self, wtAll, hh_iow, Nat.min_self]
  refine ⟨fun i hi => by simp [llF, okCells, cellA], by simp only [InR_i64]; ((try clear hh_i8); (try clear hh_iow); omega), ?_⟩
  rw [Hp.set_set]
  refine vs_loop (σ := Nat) (fun i => i ≤ x.ow.length) (fun i => [(0, irP x S C m), (1, i64 s), (2, i64 o), (8, .ref i8 0 8 0 0), (41, .sl iow 1 x.ow.length), (42, i64 x.ow.length), (43, i64 i)])
    (fun i => (H.set iow (.row 1 x.ow.length (rowO x o i))).set i8 (.box 8 1 fun _ => [i64 (x.F + 1), .sl iow 1 x.ow.length, intsAV x.mo, stAV x.st, clAV x.cl, u64 S, u64 C, boo m])) (fun i => x.ow.length - i) 0 (by ((try clear hh_i8); (try clear hh_iow); omega)) ?_ ?_ fun i hi => ?_
  · simp only [vsAll, argFr, Nat.reduceEqDiff, ↓reduceIte, reduceCtorEq, eq_self, Int.natCast_zero]
  · refine HSub.set (HSub.set (HSub_drop2 hh_i8 (HSub_drop2 hh_iow.2.2 (HSub_drop2 hh_i8 HSub_rfl))) (row_ext fun q hq => ?_)) (.refl _)
    simp only [cpF, rowO, Nat.not_lt_zero, if_false]
    rw [if_pos (by ((try clear hh_i8); (try clear hh_iow); omega)), Nat.zero_add, Nat.sub_zero]
  · simp only [vsAll, binA, binLitA, intA, opA, dstOk, Nat.reduceLT, Nat.reduceEqDiff, ↓reduceIte, reduceCtorEq, eq_self]
    refine condD (fun hd => ?_) (fun hd => ?_)
    · have hr : rowO x o i i = [intsAV (x.ow.getD i [])] := by simp only [rowO, Nat.lt_irrefl, if_false]; rfl
      simp only [vsAll, binA, binLitA, intA, loadA, loadRow, partA, partOk, indexAddrA, opA, dstOk, nilSliceOp, Nat.reduceLT, Nat.reduceEqDiff, Nat.reduceBEq, ↓reduceIte, reduceCtorEq, eq_self, wtAll, hh_iow, hr]
      have hfl := k.ow i (by ((try clear hh_i8); (try clear hh_iow); omega))
      refine ⟨by ((try clear hh_i8); (try clear hh_iow); omega), by ((try clear hh_i8); (try clear hh_iow); omega), condV (fun hc => ?_) (fun hc => ?_)⟩
      · have hc : i = o := by have := of_decide_eq_true hc; ((try clear hh_i8); (try clear hh_iow); omega)
        have ez : owW x o i = x.ow.getD i [] ++ [1] := by simp only [owW, hc, if_true]
        simp only [vsAll, opA, dstOk, nilSliceOp, Nat.reduceLT, Nat.reduceBEq, eq_self]
        refine vs_draw2 [0, 0, 0, 0, 1, 0, 3, 0, 0, 5, 6, 7] [([0, 1, 2, 3, 5, 7, 8], [2], 4), ([], [2], 6), ([], [2], 9), ([10], [], 11)] [] (by decide +kernel) ?_
        simp only [vsAll, binA, binLitA, intA, loadA, loadRow, partA, partOk, fieldAddrA, indexAddrA, cellA, cellsA, okParts, buildSliceA, buildMutA, partIdx, elemsA, lensA, partsA, partsOk, opA, newCells, okCells, storeObj, appendA, dstOk, Nat.reduceMul, Nat.reduceLT, Nat.reduceLeDiff, Nat.reduceEqDiff, Nat.reduceBEq, ↓reduceIte, reduceCtorEq, eq_self, wtAll, hh_iow]
        intro iz hh_iz; (try simp only [ite_none] at hh_iz)
        simp only [vsAll, Nat.reduceLT, ↓reduceIte, eq_self, hh_iz, hr]
        refine ⟨fun q hq => by simp [intF, okCells, cellA], by ((try clear hh_i8); (try clear hh_iow); (try clear hh_iz); omega), by ((try clear hh_i8); (try clear hh_iow); (try clear hh_iz); omega), fun q hq => by simp [okCells, cellA, show q = 0 by ((try clear hh_i8); (try clear hh_iow); (try clear hh_iz); omega)], by ((try clear hh_i8); (try clear hh_iow); (try clear hh_iz); omega), by ((try clear hh_i8); (try clear hh_iow); (try clear hh_iz); omega), by ((try clear hh_i8); (try clear hh_iow); (try clear hh_iz); omega), by ((try clear hh_i8); (try clear hh_iow); (try clear hh_iz); omega), by simp only [InR_i64]; ((try clear hh_i8); (try clear hh_iow); (try clear hh_iz); omega), ?_⟩
        rw [Hp.set_set, Hp.set_set]
        refine loop_ent (Ent.freezeRow (s' := _) (id := iz) (st := 1) (n := (x.ow.getD i []).length + 1) (f := appF (x.ow.getD i []).length 1 (appF 0 (x.ow.getD i []).length (fun i => []) (intF (x.ow.getD i []))) (fun i => [[i64 1]].getD i []))
          (j := iow) (st' := 1) (n' := x.ow.length) (g := updF x.ow.length i (rowO x o i) [.sl iz 1 ((x.ow.getD i []).length + 1)])
          (g' := fun j => if j = i then [.rsl ((x.ow.getD i []).length + 1) 1 (appF (x.ow.getD i []).length 1 (appF 0 (x.ow.getD i []).length (fun i => []) (intF (x.ow.getD i []))) (fun i => [[i64 1]].getD i []))] else rowO x o i j) (by simp only [vsAll, ↓reduceIte, eq_self, hh_iz]) (by simp only [vsAll, ↓reduceIte, eq_self]) hh_iz.2.1.2 (fun t => .rfl) (fun q hq => ?_) (fun q c hq hc' => ?_) ?_)
        · show (ite _ _ _ : List AV).length = 1
          split
          · rfl
          · exact rowO_len _ _ _ _
        · exact rowO_frz (by ((try clear hh_i8); (try clear hh_iow); (try clear hh_iz); omega)) hq hc'
        · refine loop_next (i + 1) (by ((try clear hh_i8); (try clear hh_iow); (try clear hh_iz); omega)) (by ((try clear hh_i8); (try clear hh_iow); (try clear hh_iz); omega)) ?_ ?_
          · simp only [vsAll, Nat.reduceEqDiff, ↓reduceIte, reduceCtorEq, eq_self, Int.natCast_add, Int.natCast_one]
          · exact HSub_put (o' := .box 8 1 fun _ => [i64 (x.F + 1), .sl iow 1 x.ow.length, intsAV x.mo, stAV x.st, clAV x.cl, u64 S, u64 C, boo m]) (by simp only [vsAll, ↓reduceIte, eq_self, hh_iow, hh_iz, Hp.del_get]) (.refl _) (HSub.set (HSub_del hh_iz.2.2 (HSub_drop2 hh_iow.2.2 (HSub_drop2 hh_iz.2.2 (HSub_drop2 hh_i8 (HSub_drop2 hh_iow.2.2 HSub_rfl))))) (rowO_step ez _))
      · have hc : ¬ i = o := by have := of_decide_eq_false hc; ((try clear hh_i8); (try clear hh_iow); omega)
        have ez : owW x o i = x.ow.getD i [] ++ [0] := by simp only [owW, hc, if_false]
        simp only [vsAll]
        refine vs_draw2 [0, 0, 0, 0, 1, 0, 3, 0, 0, 5, 6, 7] [([0, 1, 2, 3, 5, 7, 8], [2], 4), ([], [2], 6), ([], [2], 9), ([10], [], 11)] [] (by decide +kernel) ?_
        simp only [vsAll, binA, binLitA, intA, loadA, loadRow, partA, partOk, fieldAddrA, indexAddrA, cellA, cellsA, okParts, buildSliceA, buildMutA, partIdx, elemsA, lensA, partsA, partsOk, opA, newCells, okCells, storeObj, appendA, dstOk, Nat.reduceMul, Nat.reduceLT, Nat.reduceLeDiff, Nat.reduceEqDiff, Nat.reduceBEq, ↓reduceIte, reduceCtorEq, eq_self, wtAll, hh_iow]
        intro iz hh_iz; (try simp only [ite_none] at hh_iz)
        simp only [vsAll, Nat.reduceLT, ↓reduceIte, eq_self, hh_iz, hr]
        refine ⟨fun q hq => by simp [intF, okCells, cellA], by ((try clear hh_i8); (try clear hh_iow); (try clear hh_iz); omega), by ((try clear hh_i8); (try clear hh_iow); (try clear hh_iz); omega), fun q hq => by simp [okCells, cellA, show q = 0 by ((try clear hh_i8); (try clear hh_iow); (try clear hh_iz); omega)], by ((try clear hh_i8); (try clear hh_iow); (try clear hh_iz); omega), by ((try clear hh_i8); (try clear hh_iow); (try clear hh_iz); omega), by ((try clear hh_i8); (try clear hh_iow); (try clear hh_iz); omega), by ((try clear hh_i8); (try clear hh_iow); (try clear hh_iz); omega), by simp only [InR_i64]; ((try clear hh_i8); (try clear hh_iow); (try clear hh_iz); omega), ?_⟩
        rw [Hp.set_set, Hp.set_set]
        refine loop_ent (Ent.freezeRow (s' := _) (id := iz) (st := 1) (n := (x.ow.getD i []).length + 1) (f := appF (x.ow.getD i []).length 1 (appF 0 (x.ow.getD i []).length (fun i => []) (intF (x.ow.getD i []))) (fun i => [[i64 0]].getD i []))
          (j := iow) (st' := 1) (n' := x.ow.length) (g := updF x.ow.length i (rowO x o i) [.sl iz 1 ((x.ow.getD i []).length + 1)])
          (g' := fun j => if j = i then [.rsl ((x.ow.getD i []).length + 1) 1 (appF (x.ow.getD i []).length 1 (appF 0 (x.ow.getD i []).length (fun i => []) (intF (x.ow.getD i []))) (fun i => [[i64 0]].getD i []))] else rowO x o i j) (by simp only [vsAll, ↓reduceIte, eq_self, hh_iz]) (by simp only [vsAll, ↓reduceIte, eq_self]) hh_iz.2.1.2 (fun t => .rfl) (fun q hq => ?_) (fun q c hq hc' => ?_) ?_)
        · show (ite _ _ _ : List AV).length = 1
          split
          · rfl
          · exact rowO_len _ _ _ _
        · exact rowO_frz (by ((try clear hh_i8); (try clear hh_iow); (try clear hh_iz); omega)) hq hc'
        · refine loop_next (i + 1) (by ((try clear hh_i8); (try clear hh_iow); (try clear hh_iz); omega)) (by ((try clear hh_i8); (try clear hh_iow); (try clear hh_iz); omega)) ?_ ?_
          · simp only [vsAll, Nat.reduceEqDiff, ↓reduceIte, reduceCtorEq, eq_self, Int.natCast_add, Int.natCast_one]
          · exact HSub_put (o' := .box 8 1 fun _ => [i64 (x.F + 1), .sl iow 1 x.ow.length, intsAV x.mo, stAV x.st, clAV x.cl, u64 S, u64 C, boo m]) (by simp only [vsAll, ↓reduceIte, eq_self, hh_iow, hh_iz, Hp.del_get]) (.refl _) (HSub.set (HSub_del hh_iz.2.2 (HSub_drop2 hh_iow.2.2 (HSub_drop2 hh_iz.2.2 (HSub_drop2 hh_i8 (HSub_drop2 hh_iow.2.2 HSub_rfl))))) (rowO_step ez _))
    · have ei : i = x.ow.length := by ((try clear hh_i8); (try clear hh_iow); omega)
      subst ei
      simp only [vsAll, loadA, loadRow, partA, partOk, fieldAddrA, lenA, nilCheckA, cellA, cellsA, makeSliceA, opA, newCells, okCells, storeObj, dstOk, Nat.reduceAdd, Nat.reduceLT, Nat.reduceLeDiff, Nat.reduceEqDiff, Nat.reduceBEq, ↓reduceIte, reduceCtorEq, eq_self, wtAll]
      refine ⟨by ((try clear hh_i8); (try clear hh_iow); omega), by ((try clear hh_i8); (try clear hh_iow); omega), by ((try clear hh_i8); (try clear hh_iow); omega), ?_⟩
      intro ist hh_ist; (try simp only [ite_none] at hh_ist)
      simp only [vsAll, Nat.reduceLT, ↓reduceIte, eq_self, hh_ist]
      refine vs_draw2 [0, 0, 0, 0, 0, 0, 0, 0, 1] [([0, 1, 2, 3, 4, 5, 6, 7], [], 8)] [] (by decide +kernel) ?_
      simp only [vsAll, loadA, loadRow, partA, partOk, fieldAddrA, nilCheckA, opA, copyA, dstOk, Nat.reduceLT, Nat.reduceEqDiff, ↓reduceIte, reduceCtorEq, eq_self, wtAll, hh_ist, Nat.min_self]
      refine ⟨fun i hi => by simp [stF, okCells, cellA], ?_⟩
      refine vs_draw2 [0, 0, 0, 0, 1, 0, 0, 0, 0, 0, 0, 0, 0, 3, 0, 0, 0, 0, 0, 0, 0, 5, 6, 7] [([0, 1, 2, 3, 5, 6, 7, 8, 9, 10, 11, 12, 14, 15, 16, 17, 18, 19, 20], [2, 9, 12, 18], 4), ([], [2, 18], 13), ([], [2], 21), ([22], [], 23)] [] (by decide +kernel) ?_
      simp only [vsAll, loadA, loadRow, partA, partOk, fieldAddrA, indexAddrA, nilCheckA, cellA, cellsA, fillA, okParts, buildSliceA, buildMutA, partIdx, elemsA, lensA, okAll, stAll, opsA, partsA, partsOk, opA, newCells, okCells, storeObj, appendA, dstOk, Nat.reduceAdd, Nat.reduceMul, Nat.reduceLT, Nat.reduceLeDiff, Nat.reduceEqDiff, Nat.reduceBEq, ↓reduceIte, reduceCtorEq, eq_self, wtAll, hh_ist, stF_at]
      refine ⟨by ((try clear hh_i8); (try clear hh_iow); (try clear hh_ist); omega), by ((try clear hh_i8); (try clear hh_iow); (try clear hh_ist); omega), ?_⟩
      intro im hh_im; (try simp only [ite_none] at hh_im)
      have hml := k.st s hs
      have hcp : cpF 0 x.st.length (fun _ => [.lit (.slice none 0 0)]) 0 (stF x.st) s = [mksAV (x.st.getD s [])] := cpS_at x hs
      simp only [vsAll, Nat.reduceLT, ↓reduceIte, eq_self, hh_im, hcp]
      refine ⟨by ((try clear hh_i8); (try clear hh_iow); (try clear hh_ist); (try clear hh_im); omega), fun q hq => by simp [mkF, okCells, cellA], by ((try clear hh_i8); (try clear hh_iow); (try clear hh_ist); (try clear hh_im); omega), by ((try clear hh_i8); (try clear hh_iow); (try clear hh_ist); (try clear hh_im); omega), fun q hq => by simp [okCells, cellA, show q = 0 by ((try clear hh_i8); (try clear hh_iow); (try clear hh_ist); (try clear hh_im); omega)], by ((try clear hh_i8); (try clear hh_iow); (try clear hh_ist); (try clear hh_im); omega), by ((try clear hh_i8); (try clear hh_iow); (try clear hh_ist); (try clear hh_im); omega), by ((try clear hh_i8); (try clear hh_iow); (try clear hh_ist); (try clear hh_im); omega), by ((try clear hh_i8); (try clear hh_iow); (try clear hh_ist); (try clear hh_im); omega), ?_⟩
      rw [Hp.set_set, Hp.set_set]
      refine callK_pure (wfit_tri x S C m o s _ k.gd ho hs) ?_
      simp only [vsAll, opA, dstOk, nilSliceOp, Nat.reduceLT, Nat.reduceEqDiff, Nat.reduceBEq, ↓reduceIte, reduceCtorEq, eq_self]
      refine fn_ent (Ent.of [(6, .ref i8 0 8 0 0), (7, boo (fitB x o s))] (H' := ((((H.set i8 (.box 8 1 fun _ => [i64 (x.F + 1), .sl iow 1 x.ow.length, intsAV x.mo, .sl ist 1 x.st.length, clAV x.cl, u64 S, u64 C, boo m])).set iow (.row 1 x.ow.length (rowO x o x.ow.length))).set im (.row 3 ((x.st.getD s []).length + 1) (extM (x.st.getD s []) x.F))).set ist (.row 1 x.st.length (updF x.st.length s (cpS x) [.sl im 3 ((x.st.getD s []).length + 1)])))) (by simp only [vsAll, Nat.reduceEqDiff, ↓reduceIte, eq_self]) ?_ ?_)
      · (repeat (first | exact HSub_rfl | refine HSub_put_eq (by simp only [vsAll, ↓reduceIte, eq_self, hh_iow, hh_ist, hh_im]) ?_ | refine HSub_drop2 (by simp only [eq_self, hh_i8, hh_iow, hh_ist, hh_im]) ?_ | refine HSub_keep_eq (by simp only [vsAll, binA, binLitA, intA, aggA, boolA, nilA2, isConst, unA, loadA, loadRow, partA, partOk, fieldAddrA, indexAddrA, indexA, fieldA, extractA, lenA, nilCheckA, boxA, cellA, cellsA, fillA, okParts, buildSliceA, buildMutA, makeSliceA, partIdx, elemsA, lensA, ifaceA, convA, mmA, pickA, okAll, stAll, opsA, partsA, partsOk, opA, allocA, boxMutA, newCells, okCells, storeObj, appendA, guardV, taA, nM, mapUpA, lookA, sliceA, boundsA, opO, okO, copyA, dstOk, nilA, quietOk, nilSliceOp, panA, resA, argFr, retA.eq_1, retA.eq_2, Nat.reduceAdd, Nat.reduceSub, Nat.reduceMul, Nat.reduceLT, Nat.reduceLeDiff, Nat.reduceEqDiff, Nat.reduceBEq, Int.reduceAdd, Int.reduceSub, Int.reduceMul, Int.reduceNeg, Int.reduceLE, Int.reduceLT, Int.reduceEq, Int.reduceNe, Int.reduceToNat, ↓reduceIte, reduceCtorEq, implies_true, forall_const, eq_self, ne_eq, wtAll, Try.ntmps66, Try.results66, hh_i8, hh_iow, hh_ist, hh_im]) ?_))
      · have d1 := hh_im.1
        have d2 := hh_iow.2.2
        refine fn_ent (Ent.freezeRow (s' := _) (id := im) (st := 3) (n := (x.st.getD s []).length + 1) (f := extM (x.st.getD s []) x.F) (j := ist) (st' := 1) (n' := x.st.length) (g := updF x.st.length s (cpS x) [.sl im 3 ((x.st.getD s []).length + 1)])
          (g' := (fun j => if j = s then [.rsl ((x.st.getD s []).length + 1) 3 (extM (x.st.getD s []) x.F)] else cpS x j)) (by simp only [vsAll, ↓reduceIte, eq_self, hh_im]) (by simp only [vsAll, ↓reduceIte, eq_self]) (by simp only [vsAll, ne_eq, hh_im]) (fun t => .rfl) (fun q hq => ?_) (fun q c hq hc => cpS_frz hs hq hc) ?_)
        · show (ite _ _ _ : List AV).length = 1
          split
          · rfl
          · rw [cpS_at x hq]; rfl
        refine fn_ent (Ent.of [(6, .ref i8 0 8 0 0), (7, boo (fitB x o s))] (H' := ((H.set i8 (.box 8 1 fun _ => [i64 (x.F + 1), .sl iow 1 x.ow.length, intsAV x.mo, .sl ist 1 x.st.length, clAV x.cl, u64 S, u64 C, boo m])).set iow (.row 1 x.ow.length (rowO x o x.ow.length))).set ist (.row 1 x.st.length (fun j => if j = s then [.rsl ((x.st.getD s []).length + 1) 3 (extM (x.st.getD s []) x.F)] else cpS x j))) (by simp only [vsAll, Nat.reduceEqDiff, ↓reduceIte, eq_self]) ?_ ?_)
        · exact HSub.set (HSub_del (by simp only [vsAll, ↓reduceIte, eq_self, hh_im]) (HSub_drop2 (by simp only [vsAll, ↓reduceIte, eq_self, hh_ist]) (HSub_drop2 (by simp only [vsAll, ↓reduceIte, eq_self, hh_im]) HSub_rfl))) (.refl _)
        refine fn_ent (Ent.freezeBox (s' := _) (id := iow) (st := 1) (n := x.ow.length) (f := rowO x o x.ow.length) (j := i8) (st' := 8) (n' := 1) (g := fun _ => [i64 (x.F + 1), .sl iow 1 x.ow.length, intsAV x.mo, .sl ist 1 x.st.length, clAV x.cl, u64 S, u64 C, boo m]) (g' := fun _ => [i64 (x.F + 1), .rsl x.ow.length 1 (rowO x o x.ow.length), intsAV x.mo, .sl ist 1 x.st.length, clAV x.cl, u64 S, u64 C, boo m]) (by simp only [vsAll, ↓reduceIte, eq_self, hh_ist]) (by simp only [vsAll, ↓reduceIte, eq_self, hh_iow, hh_ist]) (fun t => .rfl) (fun _ _ => rfl) (fun q c hq hc => ?_) ?_)
        · match c, hc with
          | 0, _ => exact .rfl
          | 1, _ => exact .hit
          | 2, _ => exact .rfl
          | 3, _ => exact .rfl
          | 4, _ => exact .rfl
          | 5, _ => exact .rfl
          | 6, _ => exact .rfl
          | 7, _ => exact .rfl
        refine fn_ent (Ent.of [(6, .ref i8 0 8 0 0), (7, boo (fitB x o s))] (H' := (H.set i8 (.box 8 1 fun _ => [i64 (x.F + 1), .rsl x.ow.length 1 (rowO x o x.ow.length), intsAV x.mo, .sl ist 1 x.st.length, clAV x.cl, u64 S, u64 C, boo m])).set ist (.row 1 x.st.length (fun j => if j = s then [.rsl ((x.st.getD s []).length + 1) 3 (extM (x.st.getD s []) x.F)] else cpS x j))) (by simp only [vsAll, Nat.reduceEqDiff, ↓reduceIte, eq_self]) ?_ ?_)
        · exact HSub_put (o' := .row 1 x.st.length (fun j => if j = s then [.rsl ((x.st.getD s []).length + 1) 3 (extM (x.st.getD s []) x.F)] else cpS x j)) (by simp only [vsAll, ↓reduceIte, eq_self, hh_ist, Hp.del_get]) (.refl _) (HSub.set (HSub_del hh_iow.2.2 (HSub_drop2 hh_ist.2.2 (HSub_drop2 hh_iow.2.2 (HSub_drop2 hh_i8 HSub_rfl)))) (.refl _))
        refine fn_ent (Ent.freezeBox (s' := _) (id := ist) (st := 1) (n := x.st.length) (f := (fun j => if j = s then [.rsl ((x.st.getD s []).length + 1) 3 (extM (x.st.getD s []) x.F)] else cpS x j)) (j := i8) (st' := 8) (n' := 1) (g := fun _ => [i64 (x.F + 1), .rsl x.ow.length 1 (rowO x o x.ow.length), intsAV x.mo, .sl ist 1 x.st.length, clAV x.cl, u64 S, u64 C, boo m]) (g' := fun _ => [i64 (x.F + 1), .rsl x.ow.length 1 (rowO x o x.ow.length), intsAV x.mo, .rsl x.st.length 1 (fun j => if j = s then [.rsl ((x.st.getD s []).length + 1) 3 (extM (x.st.getD s []) x.F)] else cpS x j), clAV x.cl, u64 S, u64 C, boo m]) (by simp only [vsAll, ↓reduceIte, eq_self]) (by simp only [vsAll, ↓reduceIte, eq_self, hh_ist]) (fun t => .rfl) (fun _ _ => rfl) (fun q c hq hc => ?_) ?_)
        · match c, hc with
          | 0, _ => exact .rfl
          | 1, _ => exact .rfl
          | 2, _ => exact .rfl
          | 3, _ => exact .hit
          | 4, _ => exact .rfl
          | 5, _ => exact .rfl
          | 6, _ => exact .rfl
          | 7, _ => exact .rfl
        refine fn_ent (Ent.of [(6, .ref i8 0 8 0 0), (7, boo (fitB x o s))] (H' := H.set i8 (.box 8 1 fun _ => irC (withI x s o) S C m)) (by simp only [vsAll, Nat.reduceEqDiff, ↓reduceIte, eq_self]) ?_ ?_)
        · refine HSub.set (HSub_del hh_ist.2.2 (HSub_drop2 hh_ist.2.2 (HSub_drop2 hh_i8 HSub_rfl))) (box_leA (fun _ _ => rfl) fun q hq c hc => ?_)
          match c, hc with
          | 0, _ => exact AV.Le.refl _
          | 1, _ => exact ow_le x s o
          | 2, _ => exact AV.Le.refl _
          | 3, _ => exact st_le x s o hs
          | 4, _ => exact AV.Le.refl _
          | 5, _ => exact AV.Le.refl _
          | 6, _ => exact AV.Le.refl _
          | 7, _ => exact AV.Le.refl _
        refine fn_ent (Ent.freezeB (id := i8) (s' := Fr.of [(6, irP (withI x s o) S C m), (7, boo (fitB x o s))]) (Hp.set_same _ _ _) (fun t => ?_) ?_)
        · by_cases ht : t = 6
          · subst ht
            exact .inr ⟨0, 0, rfl, rfl⟩
          · left
            simp only [Fr.of]
            simp [ht]
        rw [set_del hh_i8]
        refine ret0 ?_
        simp only [vsAll, resA, retA.eq_2, Nat.reduceEqDiff, ↓reduceIte, eq_self, Try.results66]
        exact dropR_pure rfl (HSub.refl _)
end Go.Proofs.Ytkonoggmdcdeeaa
end
section
set_option linter.unusedVariables false
set_option linter.unusedSimpArgs false
set_option maxHeartbeats 4000000
set_option maxRecDepth 100000
namespace Go.Proofs.Ytkonoggmdcdeeaa
open Go.V
theorem withI_ow {x : Ir} {s o i : Nat} (hi : i < x.ow.length) : (withI x s o).ow.getD i [] = owW x o i := getD_mapR _ _ _ _ hi
theorem withI_st {x : Ir} {s o i : Nat} (hi : i < x.st.length) : (withI x s o).st.getD i [] = stW x s i := getD_mapR _ _ _ _ hi
theorem withI_gd {x : Ir} (k : Ok x) (s o : Nat) : Gd (withI x s o) := by
  have lo : (withI x s o).ow.length = x.ow.length := by simp [withI]
  have ls : (withI x s o).st.length = x.st.length := by simp [withI]
  have hF := k.F
  refine ⟨by show 0 ≤ x.F + 1 ∧ x.F + 1 ≤ 5; omega, by rw [lo]; exact k.nO, by rw [lo]; exact k.nM, by rw [ls]; exact k.nS, k.nC, fun i hi => ?_, fun i hi => k.mo i (by omega), fun i hi q hq => ?_, fun i hi => ?_, fun i hi q hq => ?_, fun i hi q hq => ?_, fun i hi => by rw [ls]; exact k.cs i hi, fun i hi => by rw [lo]; exact k.co i hi⟩
  · rw [lo] at hi
    rw [withI_ow hi, owW, List.length_append]
    have := k.ow i hi
    show ((_ + 1 : Nat) : Int) = x.F + 1
    omega
  · rw [lo] at hi
    rw [withI_ow hi, owW, getD_snoc]
    have h1 := k.ow i hi
    have h2 : (q : Int) < x.F + 1 := hq
    split
    · split <;> omega
    · exact k.ov i hi q (by omega)
  · rw [ls] at hi
    rw [withI_st hi, stW]
    have := k.st i hi
    split
    · rw [List.length_append]; show _ + 1 ≤ 7; omega
    · omega
  · rw [ls] at hi
    rw [withI_st hi] at hq ⊢
    show 0 ≤ _ ∧ _ < x.F + 1
    unfold stW at hq ⊢
    split at hq <;> rename_i e
    · rw [if_pos e, getD_snoc]
      split
      · show 0 ≤ x.F ∧ x.F < x.F + 1; omega
      · rename_i hne
        rw [List.length_append] at hq
        have := k.sf i hi q (by simp only [List.length_cons, List.length_nil] at hq; omega)
        omega
    · rw [if_neg e]
      have := k.sf i hi q hq
      omega
  · rw [ls] at hi
    rw [withI_st hi] at hq ⊢
    unfold stW at hq ⊢
    split at hq <;> rename_i e
    · rw [if_pos e, getD_snoc]
      split
      · exact ⟨(by decide : (0 : Int) ≤ 1), (by decide : (1 : Int) ≤ 1), (by decide : (1 : Int) ≤ 9)⟩
      · rename_i hne
        rw [List.length_append] at hq
        exact k.sl i hi q (by simp only [List.length_cons, List.length_nil] at hq; omega)
    · rw [if_neg e]
      exact k.sl i hi q hq

def likB (x : Ir) (s o : Nat) : Bool := fitB x o s && ((tlW (withI x s o) (fullS x) (fullC x) false).isSome && decide (((tlW (withI x s o) (fullS x) (fullC x) false).getD (0, 0)).1 = ((tlW x (fullS x) (fullC x) false).getD (0, 0)).1))
def likN (x : Ir) (s : Nat) : Nat → Nat
  | 0 => 0
  | o + 1 => likN x s o + if likB x s o = true then 2 ^ o else 0
theorem likN_lt (x : Ir) (s o : Nat) : likN x s o < 2 ^ o := by
  induction o with
  | zero => simp [likN]
  | succ o ih => simp only [likN, Nat.pow_succ]; split <;> omega
def likE (x : Ir) (s : Int) : Int := errE x (strB x s) true
def likV (x : Ir) (s : Int) : Nat := if likE x s = 0 then likN x s.toNat x.ow.length else 0
theorem dec_cast2 (a b : Nat) (x : Bool) : (x && decide ((a : Int) = (b : Int))) = (x && decide (a = b)) := by
  rw [show decide ((a : Int) = (b : Int)) = decide (a = b) from decide_eq_decide.2 (by omega)]
theorem wlikely_tri (x : Ir) (s : Int) (H : Hp) (kn : Near x) : PTri Try.prog (fnA 25) [x.av, i64 s] H (.tuple [i64 (likV x s : Nat), i64 (likE x s)]) := by
  refine Tri.drop ?_
  refine tri_a (m := fun _ => false) ans43 Try.func25 (by kernel_rfl) rfl (by simp only [List.length_append, List.length_cons, List.length_nil, Try.ntmps25]; decide) ?_
  simp only [vsAll, boxA, okAll, stAll, opsA, opA, allocA, dstOk, nilSliceOp, argFr, Nat.reduceAdd, Nat.reduceLT, ↓reduceIte, eq_self, wtAll, Try.ntmps25]
  intro i5 hh_i5; (try simp only [Hp.set_none, ite_none] at hh_i5)
  refine vs_draw2 [0, 0, 0, 1, 3, 4] [([0, 1, 2], [], 3), ([], [], 4)] [5] (by decide +kernel) ?_
  simp only [vsAll, loadA, loadRow, partA, partOk, opA, dstOk, argFr, Nat.reduceLT, Nat.reduceEqDiff, ↓reduceIte, eq_self, wtAll]
  refine qcall _ ⟨trivial, by simp only [vsAll, okAll, opsA, opA, ↓reduceIte, eq_self], isStrakeF_tri s _⟩ ?_
  simp only [vsAll, okAll, stAll, opsA, opA, dstOk, Nat.reduceLT, Nat.reduceEqDiff, ↓reduceIte, eq_self]
  refine open_call (open_tri x _ (strB x s) _ kn trivial rfl (fun hk H' => isStrake1_tri x _ _ _ s H' kn)) (fun hno => ?_) (fun hk hv => ?_) (fun hk hv => ?_)
  · have e : likE x s = 1 := errE_no hno _ _
    have ev : likV x s = 0 := by simp only [likV, e]; rfl
    simp only [vsAll]
    refine ⟨1, i5, _, rfl, rfl, by simp only [vsAll, ↓reduceIte, eq_self]; try rfl, ?_⟩
    simp only [vsAll, loadA, loadRow, partA, partOk, resA, retA.eq_2, Nat.reduceLT, Nat.reduceEqDiff, ↓reduceIte, eq_self, wtAll, Try.results25]
    refine dropR_pure ?_ (by (repeat (first | exact HSub_rfl | refine HSub_put_eq (by simp only [vsAll, binA, binLitA, intA, aggA, boolA, nilA2, isConst, unA, loadA, loadRow, partA, partOk, fieldAddrA, indexAddrA, indexA, fieldA, extractA, lenA, nilCheckA, boxA, cellA, cellsA, fillA, okParts, buildSliceA, buildMutA, makeSliceA, partIdx, elemsA, lensA, ifaceA, convA, mmA, pickA, okAll, stAll, opsA, partsA, partsOk, opA, allocA, boxMutA, newCells, okCells, storeObj, appendA, guardV, taA, nM, mapUpA, lookA, sliceA, boundsA, opO, okO, copyA, dstOk, nilA, quietOk, nilSliceOp, panA, resA, argFr, retA.eq_1, retA.eq_2, Nat.reduceAdd, Nat.reduceSub, Nat.reduceMul, Nat.reduceLT, Nat.reduceLeDiff, Nat.reduceEqDiff, Nat.reduceBEq, Int.reduceAdd, Int.reduceSub, Int.reduceMul, Int.reduceNeg, Int.reduceLE, Int.reduceLT, Int.reduceEq, Int.reduceNe, Int.reduceToNat, ↓reduceIte, reduceCtorEq, implies_true, forall_const, eq_self, ne_eq, wtAll, Try.ntmps25, Try.results25, hh_i5]) ?_ | refine HSub_drop2 (by simp only [eq_self, hh_i5]) ?_ | refine HSub_keep_eq (by simp only [vsAll, binA, binLitA, intA, aggA, boolA, nilA2, isConst, unA, loadA, loadRow, partA, partOk, fieldAddrA, indexAddrA, indexA, fieldA, extractA, lenA, nilCheckA, boxA, cellA, cellsA, fillA, okParts, buildSliceA, buildMutA, makeSliceA, partIdx, elemsA, lensA, ifaceA, convA, mmA, pickA, okAll, stAll, opsA, partsA, partsOk, opA, allocA, boxMutA, newCells, okCells, storeObj, appendA, guardV, taA, nM, mapUpA, lookA, sliceA, boundsA, opO, okO, copyA, dstOk, nilA, quietOk, nilSliceOp, panA, resA, argFr, retA.eq_1, retA.eq_2, Nat.reduceAdd, Nat.reduceSub, Nat.reduceMul, Nat.reduceLT, Nat.reduceLeDiff, Nat.reduceEqDiff, Nat.reduceBEq, Int.reduceAdd, Int.reduceSub, Int.reduceMul, Int.reduceNeg, Int.reduceLE, Int.reduceLT, Int.reduceEq, Int.reduceNe, Int.reduceToNat, ↓reduceIte, reduceCtorEq, implies_true, forall_const, eq_self, ne_eq, wtAll, Try.ntmps25, Try.results25, hh_i5]) ?_)))
    simp only [eq_self, ev, e, Int.natCast_zero]
  · have e : likE x s = 2 := by unfold likE; rw [hv]; exact errE_bad hk _
    have ev : likV x s = 0 := by simp only [likV, e]; rfl
    simp only [vsAll]
    refine ⟨2, i5, _, rfl, rfl, by simp only [vsAll, ↓reduceIte, eq_self]; try rfl, ?_⟩
    simp only [vsAll, loadA, loadRow, partA, partOk, resA, retA.eq_2, Nat.reduceLT, Nat.reduceEqDiff, ↓reduceIte, eq_self, wtAll, Try.results25]
    refine dropR_pure ?_ (by (repeat (first | exact HSub_rfl | refine HSub_put_eq (by simp only [vsAll, binA, binLitA, intA, aggA, boolA, nilA2, isConst, unA, loadA, loadRow, partA, partOk, fieldAddrA, indexAddrA, indexA, fieldA, extractA, lenA, nilCheckA, boxA, cellA, cellsA, fillA, okParts, buildSliceA, buildMutA, makeSliceA, partIdx, elemsA, lensA, ifaceA, convA, mmA, pickA, okAll, stAll, opsA, partsA, partsOk, opA, allocA, boxMutA, newCells, okCells, storeObj, appendA, guardV, taA, nM, mapUpA, lookA, sliceA, boundsA, opO, okO, copyA, dstOk, nilA, quietOk, nilSliceOp, panA, resA, argFr, retA.eq_1, retA.eq_2, Nat.reduceAdd, Nat.reduceSub, Nat.reduceMul, Nat.reduceLT, Nat.reduceLeDiff, Nat.reduceEqDiff, Nat.reduceBEq, Int.reduceAdd, Int.reduceSub, Int.reduceMul, Int.reduceNeg, Int.reduceLE, Int.reduceLT, Int.reduceEq, Int.reduceNe, Int.reduceToNat, ↓reduceIte, reduceCtorEq, implies_true, forall_const, eq_self, ne_eq, wtAll, Try.ntmps25, Try.results25, hh_i5]) ?_ | refine HSub_drop2 (by simp only [eq_self, hh_i5]) ?_ | refine HSub_keep_eq (by simp only [vsAll, binA, binLitA, intA, aggA, boolA, nilA2, isConst, unA, loadA, loadRow, partA, partOk, fieldAddrA, indexAddrA, indexA, fieldA, extractA, lenA, nilCheckA, boxA, cellA, cellsA, fillA, okParts, buildSliceA, buildMutA, makeSliceA, partIdx, elemsA, lensA, ifaceA, convA, mmA, pickA, okAll, stAll, opsA, partsA, partsOk, opA, allocA, boxMutA, newCells, okCells, storeObj, appendA, guardV, taA, nM, mapUpA, lookA, sliceA, boundsA, opO, okO, copyA, dstOk, nilA, quietOk, nilSliceOp, panA, resA, argFr, retA.eq_1, retA.eq_2, Nat.reduceAdd, Nat.reduceSub, Nat.reduceMul, Nat.reduceLT, Nat.reduceLeDiff, Nat.reduceEqDiff, Nat.reduceBEq, Int.reduceAdd, Int.reduceSub, Int.reduceMul, Int.reduceNeg, Int.reduceLE, Int.reduceLT, Int.reduceEq, Int.reduceNe, Int.reduceToNat, ↓reduceIte, reduceCtorEq, implies_true, forall_const, eq_self, ne_eq, wtAll, Try.ntmps25, Try.results25, hh_i5]) ?_)))
    simp only [eq_self, ev, e, Int.natCast_zero]
  · simp only [vsAll, okAll, stAll, opsA, opA, dstOk, Nat.reduceLT, ↓reduceIte, eq_self]
    refine told_call hk (full_lt hk).2 (fun hl => ?_) (fun hl => ?_)
    · have e : likE x s = 0 := by unfold likE; rw [hv]; exact errE_told hk hl
      rw [strB_iff] at hv
      obtain ⟨q, rfl⟩ : ∃ q : Nat, s = (q : Int) := ⟨s.toNat, by ((try clear hh_i5); omega)⟩
      have nO := hk.nO
      simp only [vsAll, okAll, stAll, opsA, opA, dstOk, Nat.reduceLT, ↓reduceIte, eq_self]
      refine callK_pure (least_tri x (fullS x) (fullC x) false _ hk.gd (full_lt hk).1 (full_lt hk).2) ?_
      simp only [vsAll, loadA, loadRow, partA, partOk, fieldAddrA, extractA, lenA, cellA, cellsA, opA, allocA, newCells, okCells, storeObj, dstOk, nilSliceOp, Nat.reduceAdd, Nat.reduceLT, Nat.reduceEqDiff, ↓reduceIte, eq_self, wtAll]
      intro i7 hh_i7; (try simp only [ite_none] at hh_i7)
      refine vs_loop (σ := Nat) (fun i => i ≤ x.ow.length) (fun i => [(1, i64 q), (5, .ref i5 0 1 0 0), (6, irP x (fullS x) (fullC x) false), (7, .ref i7 0 2 0 0), (9, i64 (likN x q i : Nat)), (27, i64 x.ow.length), (28, i64 i)])
        (fun _ => (H.set i5 (.box 1 1 fun _ => [i64 0])).set i7 (.box 2 1 fun _ => [i64 (((tlW x (fullS x) (fullC x) false).getD (0, 0)).1 : Nat), i64 (((tlW x (fullS x) (fullC x) false).getD (0, 0)).2 : Nat)])) (fun i => x.ow.length - i) 0 (by ((try clear hh_i5); (try clear hh_i7); omega)) ?_ ?_ fun i hi => ?_
      · simp only [vsAll, argFr, Nat.reduceEqDiff, ↓reduceIte, eq_self, Int.natCast_zero, likN]
      · (repeat (first | exact HSub_rfl | refine HSub_put_eq (by simp only [vsAll, ↓reduceIte, eq_self, hh_i7]) ?_ | refine HSub_drop2 (by simp only [eq_self, hh_i5, hh_i7]) ?_ | refine HSub_keep_eq (by simp only [vsAll, binA, binLitA, intA, aggA, boolA, nilA2, isConst, unA, loadA, loadRow, partA, partOk, fieldAddrA, indexAddrA, indexA, fieldA, extractA, lenA, nilCheckA, boxA, cellA, cellsA, fillA, okParts, buildSliceA, buildMutA, makeSliceA, partIdx, elemsA, lensA, ifaceA, convA, mmA, pickA, okAll, stAll, opsA, partsA, partsOk, opA, allocA, boxMutA, newCells, okCells, storeObj, appendA, guardV, taA, nM, mapUpA, lookA, sliceA, boundsA, opO, okO, copyA, dstOk, nilA, quietOk, nilSliceOp, panA, resA, argFr, retA.eq_1, retA.eq_2, Nat.reduceAdd, Nat.reduceSub, Nat.reduceMul, Nat.reduceLT, Nat.reduceLeDiff, Nat.reduceEqDiff, Nat.reduceBEq, Int.reduceAdd, Int.reduceSub, Int.reduceMul, Int.reduceNeg, Int.reduceLE, Int.reduceLT, Int.reduceEq, Int.reduceNe, Int.reduceToNat, ↓reduceIte, reduceCtorEq, implies_true, forall_const, eq_self, ne_eq, wtAll, Try.ntmps25, Try.results25, hh_i5, hh_i7]) ?_))
      · simp only [vsAll, binA, binLitA, intA, opA, dstOk, Nat.reduceLT, Nat.reduceEqDiff, ↓reduceIte, eq_self]
        refine condD (fun hd => ?_) (fun hd => ?_)
        · have hb := likN_lt x q i
          have hp : 2 ^ i ≤ 2 ^ 5 := Nat.pow_le_pow_right (by decide) (by ((try clear hh_i5); (try clear hh_i7); omega))
          have ep : (1 : Int) * 2 ^ i = ((2 ^ i : Nat) : Int) := by rw [Int.one_mul]; simp
          simp only [vsAll, okAll, stAll, opsA, opA, dstOk, nilSliceOp, Nat.reduceLT, Nat.reduceEqDiff, ↓reduceIte, eq_self]
          refine callK_pure (with1_tri x _ _ _ q i _ hk (by ((try clear hh_i5); (try clear hh_i7); omega)) (by ((try clear hh_i5); (try clear hh_i7); omega))) ?_
          simp only [vsAll, extractA, opA, dstOk, nilSliceOp, Nat.reduceAdd, Nat.reduceLT, Nat.reduceEqDiff, ↓reduceIte, eq_self]
          refine condV (fun hf => ?_) (fun hf => ?_)
          · simp only [vsAll, okAll, stAll, opsA, opA, dstOk, Nat.reduceLT, Nat.reduceEqDiff, ↓reduceIte, eq_self]
            refine callK_pure (least_tri (withI x q i) (fullS x) (fullC x) false _ (withI_gd hk q i) (full_lt hk).1 (full_lt hk).2) ?_
            have hlb : likB x q i = ((tlW (withI x q i) (fullS x) (fullC x) false).isSome && decide (((tlW (withI x q i) (fullS x) (fullC x) false).getD (0, 0)).1 = ((tlW x (fullS x) (fullC x) false).getD (0, 0)).1)) := by simp only [likB, hf, Bool.true_and]
            generalize tlW (withI x q i) (fullS x) (fullC x) false = tv at hlb ⊢
            simp only [vsAll, binA, binLitA, intA, loadA, loadRow, partA, partOk, fieldAddrA, extractA, cellA, cellsA, pickA, opA, allocA, newCells, okCells, storeObj, guardV, dstOk, nilSliceOp, Nat.reduceAdd, Nat.reduceLT, Nat.reduceEqDiff, ↓reduceIte, implies_true, eq_self, wtAll]
            intro i13 hh_i13; (try simp only [ite_none] at hh_i13)
            simp only [vsAll, Nat.reduceLT, ↓reduceIte, eq_self, hh_i13]
            rw [dec_cast2, ← hlb]
            refine condV (fun hc => ?_) (fun hc => ?_)
            · have e2 : likN x q (i + 1) = likN x q i + 2 ^ i := by simp only [likN, hc, if_true]
              simp only [vsAll, binA, binLitA, intA, opA, dstOk, nilSliceOp, Nat.reduceLT, Nat.reduceEqDiff, ↓reduceIte, eq_self, ep]
              have eo : likN x q i ||| 2 ^ i = likN x q (i + 1) := by rw [or_bit _ _ hb, e2]
              refine ⟨⟨by ((try clear hh_i5); (try clear hh_i7); (try clear hh_i13); omega), by ((try clear hh_i5); (try clear hh_i7); (try clear hh_i13); omega), by simp only [InR_i64]; ((try clear hh_i5); (try clear hh_i7); (try clear hh_i13); omega)⟩, ⟨by ((try clear hh_i5); (try clear hh_i7); (try clear hh_i13); omega), by ((try clear hh_i5); (try clear hh_i7); (try clear hh_i13); omega), by simp only [InR_i64]; ((try clear hh_i5); (try clear hh_i7); (try clear hh_i13); omega), by simp only [InR_i64]; ((try clear hh_i5); (try clear hh_i7); (try clear hh_i13); omega)⟩, by simp only [InR_i64]; ((try clear hh_i5); (try clear hh_i7); (try clear hh_i13); omega), loop_next (i + 1) (by ((try clear hh_i5); (try clear hh_i7); (try clear hh_i13); omega)) (by ((try clear hh_i5); (try clear hh_i7); (try clear hh_i13); omega)) ?_ ?_⟩
              · simp only [vsAll, Nat.reduceEqDiff, ↓reduceIte, eq_self, Int.natCast_add, Int.natCast_one, eo]
              · (repeat (first | exact HSub_rfl | refine HSub_put_eq (by simp only [vsAll, ↓reduceIte, eq_self, hh_i7, hh_i13]) ?_ | refine HSub_drop2 (by simp only [eq_self, hh_i5, hh_i7, hh_i13]) ?_ | refine HSub_keep_eq (by simp only [vsAll, binA, binLitA, intA, aggA, boolA, nilA2, isConst, unA, loadA, loadRow, partA, partOk, fieldAddrA, indexAddrA, indexA, fieldA, extractA, lenA, nilCheckA, boxA, cellA, cellsA, fillA, okParts, buildSliceA, buildMutA, makeSliceA, partIdx, elemsA, lensA, ifaceA, convA, mmA, pickA, okAll, stAll, opsA, partsA, partsOk, opA, allocA, boxMutA, newCells, okCells, storeObj, appendA, guardV, taA, nM, mapUpA, lookA, sliceA, boundsA, opO, okO, copyA, dstOk, nilA, quietOk, nilSliceOp, panA, resA, argFr, retA.eq_1, retA.eq_2, Nat.reduceAdd, Nat.reduceSub, Nat.reduceMul, Nat.reduceLT, Nat.reduceLeDiff, Nat.reduceEqDiff, Nat.reduceBEq, Int.reduceAdd, Int.reduceSub, Int.reduceMul, Int.reduceNeg, Int.reduceLE, Int.reduceLT, Int.reduceEq, Int.reduceNe, Int.reduceToNat, ↓reduceIte, reduceCtorEq, implies_true, forall_const, eq_self, ne_eq, wtAll, Try.ntmps25, Try.results25, hh_i5, hh_i7, hh_i13]) ?_))
            · have e2 : likN x q (i + 1) = likN x q i := by simp only [likN, hc, Bool.false_eq_true, if_false, Nat.add_zero]
              simp only [vsAll, binA, binLitA, intA, opA, dstOk, Nat.reduceLT, Nat.reduceEqDiff, ↓reduceIte, eq_self]
              refine ⟨by simp only [InR_i64]; ((try clear hh_i5); (try clear hh_i7); (try clear hh_i13); omega), loop_next (i + 1) (by ((try clear hh_i5); (try clear hh_i7); (try clear hh_i13); omega)) (by ((try clear hh_i5); (try clear hh_i7); (try clear hh_i13); omega)) ?_ ?_⟩
              · simp only [vsAll, Nat.reduceEqDiff, ↓reduceIte, eq_self, Int.natCast_add, Int.natCast_one, e2]
              · (repeat (first | exact HSub_rfl | refine HSub_put_eq (by simp only [vsAll, ↓reduceIte, eq_self, hh_i7, hh_i13]) ?_ | refine HSub_drop2 (by simp only [eq_self, hh_i5, hh_i7, hh_i13]) ?_ | refine HSub_keep_eq (by simp only [vsAll, binA, binLitA, intA, aggA, boolA, nilA2, isConst, unA, loadA, loadRow, partA, partOk, fieldAddrA, indexAddrA, indexA, fieldA, extractA, lenA, nilCheckA, boxA, cellA, cellsA, fillA, okParts, buildSliceA, buildMutA, makeSliceA, partIdx, elemsA, lensA, ifaceA, convA, mmA, pickA, okAll, stAll, opsA, partsA, partsOk, opA, allocA, boxMutA, newCells, okCells, storeObj, appendA, guardV, taA, nM, mapUpA, lookA, sliceA, boundsA, opO, okO, copyA, dstOk, nilA, quietOk, nilSliceOp, panA, resA, argFr, retA.eq_1, retA.eq_2, Nat.reduceAdd, Nat.reduceSub, Nat.reduceMul, Nat.reduceLT, Nat.reduceLeDiff, Nat.reduceEqDiff, Nat.reduceBEq, Int.reduceAdd, Int.reduceSub, Int.reduceMul, Int.reduceNeg, Int.reduceLE, Int.reduceLT, Int.reduceEq, Int.reduceNe, Int.reduceToNat, ↓reduceIte, reduceCtorEq, implies_true, forall_const, eq_self, ne_eq, wtAll, Try.ntmps25, Try.results25, hh_i5, hh_i7, hh_i13]) ?_))
          · have e2 : likN x q (i + 1) = likN x q i := by simp only [likN, likB, hf, Bool.false_and, Bool.false_eq_true, if_false, Nat.add_zero]
            simp only [vsAll, binA, binLitA, intA, opA, dstOk, Nat.reduceLT, Nat.reduceEqDiff, ↓reduceIte, eq_self]
            refine ⟨by simp only [InR_i64]; ((try clear hh_i5); (try clear hh_i7); omega), loop_next (i + 1) (by ((try clear hh_i5); (try clear hh_i7); omega)) (by ((try clear hh_i5); (try clear hh_i7); omega)) ?_ ?_⟩
            · simp only [vsAll, Nat.reduceEqDiff, ↓reduceIte, eq_self, Int.natCast_add, Int.natCast_one, e2]
            · (repeat (first | exact HSub_rfl | refine HSub_put_eq (by simp only [vsAll, binA, binLitA, intA, aggA, boolA, nilA2, isConst, unA, loadA, loadRow, partA, partOk, fieldAddrA, indexAddrA, indexA, fieldA, extractA, lenA, nilCheckA, boxA, cellA, cellsA, fillA, okParts, buildSliceA, buildMutA, makeSliceA, partIdx, elemsA, lensA, ifaceA, convA, mmA, pickA, okAll, stAll, opsA, partsA, partsOk, opA, allocA, boxMutA, newCells, okCells, storeObj, appendA, guardV, taA, nM, mapUpA, lookA, sliceA, boundsA, opO, okO, copyA, dstOk, nilA, quietOk, nilSliceOp, panA, resA, argFr, retA.eq_1, retA.eq_2, Nat.reduceAdd, Nat.reduceSub, Nat.reduceMul, Nat.reduceLT, Nat.reduceLeDiff, Nat.reduceEqDiff, Nat.reduceBEq, Int.reduceAdd, Int.reduceSub, Int.reduceMul, Int.reduceNeg, Int.reduceLE, Int.reduceLT, Int.reduceEq, Int.reduceNe, Int.reduceToNat, ↓reduceIte, reduceCtorEq, implies_true, forall_const, eq_self, ne_eq, wtAll, Try.ntmps25, Try.results25, hh_i5, hh_i7]) ?_ | refine HSub_drop2 (by simp only [vsAll, binA, binLitA, intA, aggA, boolA, nilA2, isConst, unA, loadA, loadRow, partA, partOk, fieldAddrA, indexAddrA, indexA, fieldA, extractA, lenA, nilCheckA, boxA, cellA, cellsA, fillA, okParts, buildSliceA, buildMutA, makeSliceA, partIdx, elemsA, lensA, ifaceA, convA, mmA, pickA, okAll, stAll, opsA, partsA, partsOk, opA, allocA, boxMutA, newCells, okCells, storeObj, appendA, guardV, taA, nM, mapUpA, lookA, sliceA, boundsA, opO, okO, copyA, dstOk, nilA, quietOk, nilSliceOp, panA, resA, argFr, retA.eq_1, retA.eq_2, Nat.reduceAdd, Nat.reduceSub, Nat.reduceMul, Nat.reduceLT, Nat.reduceLeDiff, Nat.reduceEqDiff, Nat.reduceBEq, Int.reduceAdd, Int.reduceSub, Int.reduceMul, Int.reduceNeg, Int.reduceLE, Int.reduceLT, Int.reduceEq, Int.reduceNe, Int.reduceToNat, ↓reduceIte, reduceCtorEq, implies_true, forall_const, eq_self, ne_eq, wtAll, Try.ntmps25, Try.results25, hh_i5, hh_i7]) ?_ | refine HSub_keep_eq (by simp only [vsAll, binA, binLitA, intA, aggA, boolA, nilA2, isConst, unA, loadA, loadRow, partA, partOk, fieldAddrA, indexAddrA, indexA, fieldA, extractA, lenA, nilCheckA, boxA, cellA, cellsA, fillA, okParts, buildSliceA, buildMutA, makeSliceA, partIdx, elemsA, lensA, ifaceA, convA, mmA, pickA, okAll, stAll, opsA, partsA, partsOk, opA, allocA, boxMutA, newCells, okCells, storeObj, appendA, guardV, taA, nM, mapUpA, lookA, sliceA, boundsA, opO, okO, copyA, dstOk, nilA, quietOk, nilSliceOp, panA, resA, argFr, retA.eq_1, retA.eq_2, Nat.reduceAdd, Nat.reduceSub, Nat.reduceMul, Nat.reduceLT, Nat.reduceLeDiff, Nat.reduceEqDiff, Nat.reduceBEq, Int.reduceAdd, Int.reduceSub, Int.reduceMul, Int.reduceNeg, Int.reduceLE, Int.reduceLT, Int.reduceEq, Int.reduceNe, Int.reduceToNat, ↓reduceIte, reduceCtorEq, implies_true, forall_const, eq_self, ne_eq, wtAll, Try.ntmps25, Try.results25, hh_i5, hh_i7]) ?_))
        · have ei : i = x.ow.length := by ((try clear hh_i5); (try clear hh_i7); omega)
          have ev : likV x (q : Int) = likN x q i := by simp only [likV, e, if_true, Int.toNat_natCast, ei]
          simp only [vsAll, cellA, cellsA, opA, newCells, okCells, storeObj, dstOk, nilSliceOp, Nat.reduceLT, Nat.reduceEqDiff, ↓reduceIte, eq_self, wtAll, hh_i7]
          refine Ent.ret ⟨i5, _, rfl, by simp only [vsAll, ↓reduceIte, eq_self]; try rfl, ?_⟩
          simp only [vsAll, loadA, loadRow, partA, partOk, resA, retA.eq_2, Nat.reduceLT, Nat.reduceEqDiff, ↓reduceIte, eq_self, wtAll, Try.results25]
          refine dropR_pure ?_ (by (repeat (first | exact HSub_rfl | refine HSub_put_eq (by simp only [vsAll, binA, binLitA, intA, aggA, boolA, nilA2, isConst, unA, loadA, loadRow, partA, partOk, fieldAddrA, indexAddrA, indexA, fieldA, extractA, lenA, nilCheckA, boxA, cellA, cellsA, fillA, okParts, buildSliceA, buildMutA, makeSliceA, partIdx, elemsA, lensA, ifaceA, convA, mmA, pickA, okAll, stAll, opsA, partsA, partsOk, opA, allocA, boxMutA, newCells, okCells, storeObj, appendA, guardV, taA, nM, mapUpA, lookA, sliceA, boundsA, opO, okO, copyA, dstOk, nilA, quietOk, nilSliceOp, panA, resA, argFr, retA.eq_1, retA.eq_2, Nat.reduceAdd, Nat.reduceSub, Nat.reduceMul, Nat.reduceLT, Nat.reduceLeDiff, Nat.reduceEqDiff, Nat.reduceBEq, Int.reduceAdd, Int.reduceSub, Int.reduceMul, Int.reduceNeg, Int.reduceLE, Int.reduceLT, Int.reduceEq, Int.reduceNe, Int.reduceToNat, ↓reduceIte, reduceCtorEq, implies_true, forall_const, eq_self, ne_eq, wtAll, Try.ntmps25, Try.results25, hh_i5, hh_i7]) ?_ | refine HSub_drop2 (by simp only [eq_self, hh_i5, hh_i7]) ?_ | refine HSub_keep_eq (by simp only [vsAll, binA, binLitA, intA, aggA, boolA, nilA2, isConst, unA, loadA, loadRow, partA, partOk, fieldAddrA, indexAddrA, indexA, fieldA, extractA, lenA, nilCheckA, boxA, cellA, cellsA, fillA, okParts, buildSliceA, buildMutA, makeSliceA, partIdx, elemsA, lensA, ifaceA, convA, mmA, pickA, okAll, stAll, opsA, partsA, partsOk, opA, allocA, boxMutA, newCells, okCells, storeObj, appendA, guardV, taA, nM, mapUpA, lookA, sliceA, boundsA, opO, okO, copyA, dstOk, nilA, quietOk, nilSliceOp, panA, resA, argFr, retA.eq_1, retA.eq_2, Nat.reduceAdd, Nat.reduceSub, Nat.reduceMul, Nat.reduceLT, Nat.reduceLeDiff, Nat.reduceEqDiff, Nat.reduceBEq, Int.reduceAdd, Int.reduceSub, Int.reduceMul, Int.reduceNeg, Int.reduceLE, Int.reduceLT, Int.reduceEq, Int.reduceNe, Int.reduceToNat, ↓reduceIte, reduceCtorEq, implies_true, forall_const, eq_self, ne_eq, wtAll, Try.ntmps25, Try.results25, hh_i5, hh_i7]) ?_)))
          simp only [eq_self, ev, e]
    · have e : likE x s = 10 := by unfold likE; rw [hv]; exact errE_clash hk hl
      have ev : likV x s = 0 := by simp only [likV, e]; rfl
      simp only [vsAll]
      refine ⟨10, i5, _, rfl, rfl, by simp only [vsAll, ↓reduceIte, eq_self]; try rfl, ?_⟩
      simp only [vsAll, loadA, loadRow, partA, partOk, resA, retA.eq_2, Nat.reduceLT, Nat.reduceEqDiff, ↓reduceIte, eq_self, wtAll, Try.results25]
      refine dropR_pure ?_ (by (repeat (first | exact HSub_rfl | refine HSub_put_eq (by simp only [vsAll, binA, binLitA, intA, aggA, boolA, nilA2, isConst, unA, loadA, loadRow, partA, partOk, fieldAddrA, indexAddrA, indexA, fieldA, extractA, lenA, nilCheckA, boxA, cellA, cellsA, fillA, okParts, buildSliceA, buildMutA, makeSliceA, partIdx, elemsA, lensA, ifaceA, convA, mmA, pickA, okAll, stAll, opsA, partsA, partsOk, opA, allocA, boxMutA, newCells, okCells, storeObj, appendA, guardV, taA, nM, mapUpA, lookA, sliceA, boundsA, opO, okO, copyA, dstOk, nilA, quietOk, nilSliceOp, panA, resA, argFr, retA.eq_1, retA.eq_2, Nat.reduceAdd, Nat.reduceSub, Nat.reduceMul, Nat.reduceLT, Nat.reduceLeDiff, Nat.reduceEqDiff, Nat.reduceBEq, Int.reduceAdd, Int.reduceSub, Int.reduceMul, Int.reduceNeg, Int.reduceLE, Int.reduceLT, Int.reduceEq, Int.reduceNe, Int.reduceToNat, ↓reduceIte, reduceCtorEq, implies_true, forall_const, eq_self, ne_eq, wtAll, Try.ntmps25, Try.results25, hh_i5]) ?_ | refine HSub_drop2 (by simp only [eq_self, hh_i5]) ?_ | refine HSub_keep_eq (by simp only [vsAll, binA, binLitA, intA, aggA, boolA, nilA2, isConst, unA, loadA, loadRow, partA, partOk, fieldAddrA, indexAddrA, indexA, fieldA, extractA, lenA, nilCheckA, boxA, cellA, cellsA, fillA, okParts, buildSliceA, buildMutA, makeSliceA, partIdx, elemsA, lensA, ifaceA, convA, mmA, pickA, okAll, stAll, opsA, partsA, partsOk, opA, allocA, boxMutA, newCells, okCells, storeObj, appendA, guardV, taA, nM, mapUpA, lookA, sliceA, boundsA, opO, okO, copyA, dstOk, nilA, quietOk, nilSliceOp, panA, resA, argFr, retA.eq_1, retA.eq_2, Nat.reduceAdd, Nat.reduceSub, Nat.reduceMul, Nat.reduceLT, Nat.reduceLeDiff, Nat.reduceEqDiff, Nat.reduceBEq, Int.reduceAdd, Int.reduceSub, Int.reduceMul, Int.reduceNeg, Int.reduceLE, Int.reduceLT, Int.reduceEq, Int.reduceNe, Int.reduceToNat, ↓reduceIte, reduceCtorEq, implies_true, forall_const, eq_self, ne_eq, wtAll, Try.ntmps25, Try.results25, hh_i5]) ?_)))
      simp only [eq_self, ev, e, Int.natCast_zero]
end Go.Proofs.Ytkonoggmdcdeeaa
end
section
set_option linter.unusedVariables false
set_option linter.unusedSimpArgs false
namespace Go.V
/-- What one cell holds. -/
inductive CK where
  | int (k : IntKind)
  | bool
  | sl (ks : List CK)

/-- The cells of a type. -/
def cellsT (P : Program) : Nat → TypeId → Option (List CK)
  | 0, _ => none
  | d + 1, t => match P.underlying t with
    | some .bool => some [.bool]
    | some (.int k) => some [.int k]
    | some (.slice e) => match cellsT P d e with
      | some ks => if P.cellsOf e = ks.length ∧ 0 < ks.length then some [.sl ks] else none
      | none => none
    | some (.array n e) => match cellsT P d e with
      | some ks => if P.cellsOf e = ks.length ∧ P.cellsOf t = n * ks.length then some ((List.replicate n ks).flatten) else none
      | none => none
    | some (.struct fs) => match fs.toList.foldl (fun acc f => match acc with
        | some ks => match cellsT P d f.type with
          | some l => if f.offset = ks.length ∧ P.cellsOf f.type = l.length then some (ks ++ l) else none
          | none => none
        | none => none) (some []) with
      | some ks => if P.cellsOf t = ks.length then some ks else none
      | none => none
    | _ => none

/-- Such an abstract value. -/
inductive CKA : CK → AV → Prop
  | int {k : IntKind} {z : Int} (h : (Lit.int k z).wf = true) : CKA (.int k) (.lit (.int k z))
  | bool {b : Bool} : CKA .bool (.lit (.bool b))
  | sl {ks : List CK} {n : Nat} {f : Nat → List AV} (hn : n ≤ maxLen) (hl : ∀ i, i < n → (f i).length = ks.length) (h : ∀ i j k, i < n → ks[j]? = some k → CKA k ((f i).getD j .any)) : CKA (.sl ks) (.rsl n ks.length f)

def CellIs (W : World) (k : CK) (v : Value) : Prop := ∃ av, CKA k av ∧ VRel (st0 W) av v
def CellsOk (W : World) (ks : List CK) (cs : List Value) : Prop := cs.length = ks.length ∧ ∀ (i : Nat) (k : CK) (v : Value), ks[i]? = some k → cs[i]? = some v → CellIs W k v

theorem CellsOk.append {W : World} {ks ls : List CK} {cs ds : List Value} (h : CellsOk W ks cs) (h' : CellsOk W ls ds) : CellsOk W (ks ++ ls) (cs ++ ds) := by
  refine ⟨by simp [h.1, h'.1], fun i k v hk hv => ?_⟩
  by_cases hi : i < ks.length
  · rw [List.getElem?_append_left hi] at hk
    rw [List.getElem?_append_left (by rw [h.1]; exact hi)] at hv
    exact h.2 i k v hk hv
  · rw [List.getElem?_append_right (by omega)] at hk
    rw [List.getElem?_append_right (by rw [h.1]; omega), h.1] at hv
    exact h'.2 _ k v hk hv

theorem trod_cells {H : Type} {enc : TypeId × Value → H} {P : Program} {W : World} {held : Bool} {sp : Nat → Bool} :
    ∀ (d fuel : Nat) (t : TypeId) (cs : List Value) (x : DataW H × List MemPlace) (ks : List CK), cellsT P d t = some ks → DataW.trod enc P W 0 sp held fuel t cs = some x → CellsOk W ks cs := by
  intro d
  induction d with
  | zero => intro fuel t cs x ks hg; cases hg
  | succ d ih =>
    intro fuel t cs x ks hg h
    cases fuel with
    | zero => cases h
    | succ fuel =>
      unfold cellsT at hg
      unfold DataW.trod at h
      cases hu : P.underlying t with
      | none => rw [hu] at hg; cases hg
      | some td =>
        rw [hu] at hg h
        cases td <;> simp only at hg <;> try (cases hg; done)
        case bool =>
          cases hg
          split at h <;> simp_all
          rename_i b
          exact ⟨rfl, fun i k v hk hv => by cases i <;> simp at hk hv; subst hk hv; exact ⟨_, .bool, .lit _⟩⟩
        case int k =>
          cases hg
          split at h <;> simp_all
          rename_i n hh
          exact ⟨rfl, fun i k v hk hv => by cases i <;> simp at hk hv; subst hk hv; exact ⟨_, .int h.1.2, .lit _⟩⟩
        case array n e =>
          cases hke : cellsT P d e with
          | none => rw [hke] at hg; cases hg
          | some lk =>
            rw [hke] at hg
            simp only at hg
            by_cases hc : P.cellsOf e = lk.length ∧ P.cellsOf t = n * lk.length
            case neg => rw [if_neg hc] at hg; cases hg
            rw [if_pos hc] at hg
            cases hg
            split at h <;> try (simp_all; done)
            case _ n' e' heq =>
              simp only [Option.some.injEq, TypeDesc.array.injEq] at heq
              obtain ⟨rfl, rfl⟩ := heq
              split at h
              case isFalse hl => cases h
              case isTrue hl =>
                rw [Option.map_eq_some_iff] at h
                obtain ⟨ys, hy, rfl⟩ := h
                have key : ∀ (c : List Value), (∀ i, i < n → ∃ y, DataW.trod enc P W 0 sp held fuel e ((c.drop (i * P.cellsOf e)).take (P.cellsOf e)) = some y) → ∀ m, m ≤ n → CellsOk W (List.replicate m lk).flatten (c.take (m * lk.length)) := by
                  intro c hcy m
                  induction m with
                  | zero => intro _; exact ⟨by simp, fun i k v hk => by simp at hk⟩
                  | succ m ihm =>
                    intro hm
                    have h0 := ihm (by omega)
                    obtain ⟨y, h2⟩ := hcy m (by omega)
                    have h3 := ih fuel e _ y lk hke h2
                    rw [hc.1] at h3
                    have := h0.append h3
                    rw [List.replicate_succ', List.flatten_append, Nat.succ_mul, List.take_add]
                    simpa using this
                have := key _ (fun i hi => by
                  obtain ⟨y, _, h2⟩ := (mapM_get _ _ hy).2 i i (by simp [hi])
                  exact ⟨y, h2⟩) n (Nat.le_refl _)
                rw [List.take_of_length_le (by rw [hl, hc.2]; exact Nat.le_refl _)] at this
                exact this
        case slice e =>
          cases hke : cellsT P d e with
          | none => rw [hke] at hg; cases hg
          | some lk =>
            rw [hke] at hg
            simp only at hg
            by_cases hc : P.cellsOf e = lk.length ∧ 0 < lk.length
            case neg => rw [if_neg hc] at hg; cases hg
            rw [if_pos hc] at hg
            cases hg
            obtain ⟨hsz, hpos⟩ := hc
            split at h <;> try (simp_all; done)
            · rename_i heq
              refine ⟨rfl, fun i k v hk hv => ?_⟩
              cases i <;> simp at hk hv
              subst hk hv
              exact ⟨.rsl 0 lk.length fun _ => [], .sl (Nat.zero_le _) (fun i hi => by omega) (fun i j k hi => by omega), .rsl0⟩
            · rename_i e' a len cap heq
              simp only [Option.some.injEq, TypeDesc.slice.injEq] at heq
              subst heq
              simp only at h
              split at h
              case isFalse hl => cases h
              case isTrue hl =>
                rw [Option.bind_eq_some_iff] at h
                obtain ⟨es, he, -⟩ := h
                let g : Nat → List Value := fun i => match W.cells? 0 (a.add (i * P.cellsOf e)) (P.cellsOf e) with
                  | some c => c
                  | none => []
                have hel : ∀ i, i < len → W.cells? 0 (a.add (i * P.cellsOf e)) (P.cellsOf e) = some (g i) ∧ CellsOk W lk (g i) := by
                  intro i hi
                  obtain ⟨y, _, hy⟩ := (mapM_get _ _ he).2 i i (by simp [hi])
                  rw [Option.bind_eq_some_iff] at hy
                  obtain ⟨c, h1, h2⟩ := hy
                  have : g i = c := by simp only [g, h1]
                  rw [this]
                  exact ⟨h1, ih fuel e c y lk hke h2⟩
                -- the abstract cells
                have hch : ∀ i j, ∃ av, i < len → j < lk.length → ∃ k v, lk[j]? = some k ∧ (g i)[j]? = some v ∧ CKA k av ∧ VRel (st0 W) av v := by
                  intro i j
                  by_cases hi : i < len
                  · by_cases hj : j < lk.length
                    · obtain ⟨l1, l2⟩ := (hel i hi).2
                      obtain ⟨av, c1, c2⟩ := l2 j lk[j] (g i)[j] (List.getElem?_eq_getElem hj) (List.getElem?_eq_getElem (by omega))
                      exact ⟨av, fun _ _ => ⟨_, _, List.getElem?_eq_getElem hj, List.getElem?_eq_getElem (by omega), c1, c2⟩⟩
                    · exact ⟨.any, fun _ x => absurd x hj⟩
                  · exact ⟨.any, fun x => absurd x hi⟩
                have hf := fun i => Classical.axiomOfChoice (hch i)
                obtain ⟨F, hF⟩ := Classical.axiomOfChoice hf
                have hget : ∀ i j, j < lk.length → ((List.range lk.length).map (F i)).getD j .any = F i j := fun i j hj => by
                  rw [List.getD_eq_getElem?_getD, List.getElem?_map, List.getElem?_range hj]; rfl
                refine ⟨rfl, fun i k v hk hv => ?_⟩
                cases i <;> simp at hk hv
                subst hk hv
                refine ⟨.rsl len lk.length fun i => (List.range lk.length).map (F i), .sl (Nat.le_trans hl.2.1 hl.2.2) (fun i hi => by simp) (fun i j k hi hk => ?_), ?_⟩
                · have hj := (List.getElem?_eq_some_iff.1 hk).1
                  rw [hget i j hj]
                  obtain ⟨k', v, h1, h2, h3, h4⟩ := hF i j hi hj
                  rw [hk] at h1; cases h1
                  exact h3
                by_cases h0 : len = 0
                · subst h0; exact .rsl0
                have hcell : ∀ i j, i < len → j < lk.length → ∃ u, (g i)[j]? = some u ∧ W.cell? ((a.add (i * P.cellsOf e)).add j) = some u := by
                  intro i j hi hj
                  have h1 := (hel i hi).1
                  unfold World.cells? at h1
                  rw [if_pos (Nat.zero_le _)] at h1
                  exact (mapM_get _ _ h1).2 j j (by simp [hsz, hj])
                obtain ⟨b, off, spot⟩ := a
                obtain ⟨u0, _, hc0⟩ := hcell 0 0 (by omega) hpos
                rw [show ((⟨b, off, spot⟩ : Addr).add (0 * P.cellsOf e)).add 0 = ⟨b, off, spot⟩ from by simp [Addr.add]] at hc0
                unfold World.cell? at hc0
                split at hc0
                case h_2 => cases hc0
                case h_1 c ct fz hb =>
                  have hspot : spot = none := by
                    cases spot with
                    | none => rfl
                    | some s => simp at hc0
                  subst hspot
                  have hadd : ∀ i j, (((⟨b, off, none⟩ : Addr).add (i * P.cellsOf e)).add j) = ⟨b, off + i * P.cellsOf e + j, none⟩ := fun i j => by rw [addr_add, addr_add]
                  have hall : ∀ i j, i < len → j < lk.length → ∃ u, (g i)[j]? = some u ∧ c[off + i * lk.length + j]? = some u := by
                    intro i j hi hj
                    obtain ⟨u, h1, h2⟩ := hcell i j hi hj
                    rw [hadd] at h2
                    unfold World.cell? at h2
                    simp only at hb
                    rw [show W.heap[(⟨b, off + i * P.cellsOf e + j, none⟩ : Addr).block]? = some (.cells c ct fz) from hb] at h2
                    simp only [Option.isSome_none, Bool.false_eq_true, if_false, hsz] at h2
                    exact ⟨u, h1, h2⟩
                  refine .rsl (c := c) (e := ct) (fz := fz) ?_ hb ?_ (fun i hi => by simp) fun i j hi hj => ?_
                  · exact (Array.getElem?_eq_some_iff.1 hb).1
                  · obtain ⟨u, _, h2⟩ := hall (len - 1) (lk.length - 1) (by omega) (by omega)
                    have := (Array.getElem?_eq_some_iff.1 h2).1
                    have e1 : len * lk.length = (len - 1) * lk.length + lk.length := by
                      obtain ⟨q, rfl⟩ : ∃ q, len = q + 1 := ⟨len - 1, by omega⟩
                      rw [Nat.add_sub_cancel, Nat.succ_mul]
                    omega
                  · obtain ⟨u, h1, h2⟩ := hall i j hi hj
                    obtain ⟨k', v, q1, q2, q3, q4⟩ := hF i j hi hj
                    rw [h1] at q2; cases q2
                    rw [hget i j hj, Array.getD_eq_getD_getElem?, h2]
                    exact q4
        case struct fs =>
          split at h <;> try (simp_all; done)
          case _ fs' heq =>
            simp only [Option.some.injEq, TypeDesc.struct.injEq] at heq
            subst heq
            split at h
            case isFalse hl => cases h
            case isTrue hl =>
              rw [Option.map_eq_some_iff] at h
              obtain ⟨ys, hy, rfl⟩ := h
              have key : ∀ (c : List Value) (l : List Field) (acc ks : List CK), (∀ f ∈ l, ∃ y, DataW.trod enc P W 0 sp held fuel f.type ((c.drop f.offset).take (P.cellsOf f.type)) = some y) → CellsOk W acc (c.take acc.length) →
                  l.foldl (fun acc f => match acc with
                    | some ks => match cellsT P d f.type with
                      | some l => if f.offset = ks.length ∧ P.cellsOf f.type = l.length then some (ks ++ l) else none
                      | none => none
                    | none => none) (some acc) = some ks → CellsOk W ks (c.take ks.length) := by
                intro c l
                induction l with
                | nil => intro acc ks _ ha he; simp at he; subst he; exact ha
                | cons f l ih2 =>
                  intro acc ks hf ha he
                  simp only [List.foldl_cons] at he
                  have hnone : ∀ l : List Field, l.foldl (fun acc f => match acc with
                    | some ks => match cellsT P d f.type with
                      | some l => if f.offset = ks.length ∧ P.cellsOf f.type = l.length then some (ks ++ l) else none
                      | none => none
                    | none => none) none = (none : Option (List CK)) := by
                    intro l; induction l with
                    | nil => rfl
                    | cons a l ih => simpa using ih
                  cases hl2 : cellsT P d f.type with
                  | none => rw [hl2] at he; simp only at he; rw [hnone] at he; cases he
                  | some lk =>
                    rw [hl2] at he
                    simp only at he
                    by_cases hc : f.offset = acc.length ∧ P.cellsOf f.type = lk.length
                    · rw [if_pos hc] at he
                      obtain ⟨y, hy⟩ := hf f (by simp)
                      have := ih fuel f.type _ y lk hl2 hy
                      rw [hc.1, hc.2] at this
                      have hap := ha.append this
                      refine ih2 (acc ++ lk) ks (fun g hg => hf g (by simp [hg])) ?_ he
                      rw [List.length_append, List.take_add]
                      exact hap
                    · rw [if_neg hc, hnone] at he; cases he
              split at hg
              case h_2 => cases hg
              case h_1 ks' he =>
                split at hg
                case isFalse => cases hg
                case isTrue hc =>
                  cases hg
                  have := key _ fs.toList [] ks (fun f hf => by
                    obtain ⟨i, hi⟩ := List.getElem?_of_mem hf
                    obtain ⟨y, _, h2⟩ := (mapM_get _ _ hy).2 i f hi
                    exact ⟨y, h2⟩) ⟨by simp, fun i k v hk => by simp at hk⟩ he
                  rw [List.take_of_length_le (by rw [hl, hc]; exact Nat.le_refl _)] at this
                  exact this

end Go.V
end
section
set_option linter.unusedVariables false
set_option linter.unusedSimpArgs false
namespace Go.V
open Go.ChangeShapes
theorem AV.Le.rslD {n st : Nat} {f g : Nat → List AV} (h : ∀ i, i < n → (g i).length = st ∧ ∀ j, j < st → AV.Le ((f i).getD j .any) ((g i).getD j .any)) : AV.Le (.rsl n st f) (.rsl n st g) := by
  intro S v hv
  cases hv with
  | rsl0 => exact .rsl0
  | rsl hi hb hsz hf hh => exact .rsl hi hb hsz (fun i hi => (h i hi).1) fun i j hi hj => (h i hi).2 j hj _ _ (hh i j hi hj)
theorem AV.Le.aggD {cs ds : List AV} (hl : ds.length = cs.length) (h : ∀ j, j < cs.length → AV.Le (cs.getD j .any) (ds.getD j .any)) : AV.Le (.agg cs) (.agg ds) := by
  intro S v hv
  cases hv with
  | agg hn hh => exact .agg (hn.trans hl.symm) fun k hk => h k (by omega) _ _ (hh k (by omega))

/-- Cells that are told. -/
def Told (ks : List CK) (cs : List AV) : Prop := cs.length = ks.length ∧ ∀ j k, ks[j]? = some k → CKA k (cs.getD j .any)

/-- A struct that is handed in. -/
theorem trod_agg {H : Type} {enc : TypeId × Value → H} {P : Program} {W : World} {held : Bool} {sp : Nat → Bool} {t dd : Nat} {v : Value} {d : DataW H} {ps : List MemPlace} {ks : List CK}
    (hk : cellsT P dd t = some ks) (hn : 2 ≤ ks.length) (h : DataW.Trod enc P W 0 sp held t v d ps) : ∃ cs : List AV, Told ks cs ∧ VRel (st0 W) (.agg cs) v := by
  obtain ⟨fuel, h⟩ := h
  obtain ⟨hl, hz⟩ := trod_cells dd fuel t _ _ ks hk h
  cases v with
  | agg vs =>
    simp only [Value.cells] at hl hz
    have hl2 : vs.size = ks.length := by simpa using hl
    have hch : ∀ j : Nat, ∃ av : AV, ∀ (k : CK) (u : Value), ks[j]? = some k → vs[j]? = some u → CKA k av ∧ VRel (st0 W) av u := fun j => by
      cases hkj : ks[j]? with
      | none => exact ⟨.any, fun k u h => by cases h⟩
      | some k =>
        cases hvj : vs[j]? with
        | none => exact ⟨.any, fun k u _ h => by cases h⟩
        | some u =>
          obtain ⟨av, h1, h2⟩ := hz j k u hkj (by simpa using hvj)
          exact ⟨av, fun k' u' e1 e2 => by cases e1; cases e2; exact ⟨h1, h2⟩⟩
    obtain ⟨F, hF⟩ := Classical.axiomOfChoice hch
    have hget : ∀ j, j < ks.length → ((List.range ks.length).map F).getD j .any = F j := fun j hj => by
      rw [List.getD_eq_getElem?_getD, List.getElem?_map, List.getElem?_range hj]; rfl
    refine ⟨(List.range ks.length).map F, ⟨by simp, fun j k hk => ?_⟩, .agg (by simpa using hl2) fun j hj => ?_⟩
    · have hj := (List.getElem?_eq_some_iff.1 hk).1
      rw [hget j hj]
      exact (hF j k vs[j] hk (by simp [show j < vs.size by omega])).1
    · have hj : j < ks.length := by simpa using hj
      rw [hget j hj, Array.getD_eq_getD_getElem?, Array.getElem?_eq_getElem (by omega)]
      exact (hF j ks[j] vs[j] (List.getElem?_eq_getElem hj) (by simp [show j < vs.size by omega])).2
  | _ => simp [Value.cells] at hl; omega
/-- A slice of what can be told. -/
theorem told_slice {α : Type} {ks : List CK} (en : α → List AV) (d0 : α) (hd : ∀ cs, Told ks cs → ∃ x : α, (en x).length = ks.length ∧ ∀ j, j < ks.length → AV.Le (cs.getD j .any) ((en x).getD j .any)) {av : AV} (h : CKA (.sl ks) av) :
    ∃ l : List α, l.length ≤ maxLen ∧ AV.Le av (.rsl l.length ks.length fun i => en (l.getD i d0)) := by
  cases h with
  | @sl _ n f hn hl hh =>
    have hch : ∀ i, ∃ x : α, i < n → (en x).length = ks.length ∧ ∀ j, j < ks.length → AV.Le ((f i).getD j .any) ((en x).getD j .any) := fun i => by
      by_cases hi : i < n
      · obtain ⟨x, h1⟩ := hd (f i) ⟨hl i hi, fun j k hk => hh i j k hi hk⟩
        exact ⟨x, fun _ => h1⟩
      · exact ⟨d0, fun x => absurd x hi⟩
    obtain ⟨F, hF⟩ := Classical.axiomOfChoice hch
    refine ⟨(List.range n).map F, by simpa using hn, ?_⟩
    rw [List.length_map, List.length_range]
    refine AV.Le.rslD fun i hi => ?_
    have e : ((List.range n).map F).getD i d0 = F i := by
      rw [List.getD_eq_getElem?_getD, List.getElem?_map, List.getElem?_range hi]; rfl
    rw [e]
    exact hF i hi
theorem told_int {cs : List AV} {k : IntKind} (j : Nat) {ks : List CK} (h : Told ks cs) (hk : ks[j]? = some (.int k)) : ∃ z : Int, cs.getD j .any = .lit (.int k z) ∧ (Lit.int k z).wf = true := by
  have := h.2 j _ hk
  generalize cs.getD j .any = x at *
  cases this with
  | int hw => exact ⟨_, rfl, hw⟩
theorem told_bool {cs : List AV} (j : Nat) {ks : List CK} (h : Told ks cs) (hk : ks[j]? = some .bool) : ∃ b : Bool, cs.getD j .any = .lit (.bool b) := by
  have := h.2 j _ hk
  generalize cs.getD j .any = x at *
  cases this with
  | bool => exact ⟨_, rfl⟩

end Go.V
end
section
set_option linter.unusedVariables false
set_option linter.unusedSimpArgs false
set_option maxHeartbeats 4000000
set_option maxRecDepth 100000
namespace Go.Proofs.Ytkonoggmdcdeeaa
open Go.V
def farO (x : Ir) : Nat → Int
  | 0 => max (max (max (x.ow.length : Int) x.mo.length) x.st.length) x.cl.length
  | i + 1 => max (farO x i) (x.ow.getD i []).length
def farS (x : Ir) : Nat → Int
  | 0 => farO x x.ow.length
  | i + 1 => max (farS x i) (x.st.getD i []).length
def farB (x : Ir) : Bool := decide (40 < farS x x.st.length)
theorem far_tri (x : Ir) (H : Hp) (hO : x.ow.length < 2 ^ 63) (hS : x.st.length < 2 ^ 63) : PTri Try.prog (fnA 35) [x.av] H (boo (farB x)) := by
  refine tri_v0 (fun _ => false) Try.func35 (by kernel_rfl) rfl (by simp only [List.length_append, List.length_cons, List.length_nil, Try.ntmps35]; decide) ?_
  simp only [vsAll, loadA, loadRow, partA, partOk, fieldAddrA, lenA, boxA, mmA, okAll, stAll, opsA, opA, dstOk, nilSliceOp, argFr, Nat.reduceAdd, Nat.reduceLT, Nat.reduceEqDiff, ↓reduceIte, eq_self, wtAll, Try.ntmps35]
  refine vs_loop (σ := Nat) (fun i => i ≤ x.ow.length) (fun i => [(1, .rptr 1 5 (fun _ => x.cs) 0 0), (3, i64 (farO x i)), (22, llAV x.ow), (23, i64 x.ow.length), (24, i64 i)]) (fun _ => H) (fun i => x.ow.length - i) 0 (by omega) ?_ (HSub.refl _) fun i hi => ?_
  · simp only [vsAll, Nat.reduceEqDiff, ↓reduceIte, eq_self, Int.natCast_zero, farO]
  · simp only [vsAll, binA, binLitA, intA, opA, dstOk, Nat.reduceLT, Nat.reduceEqDiff, ↓reduceIte, eq_self]
    refine condD (fun hd => ?_) (fun hd => ?_)
    · simp only [vsAll, binA, binLitA, intA, loadA, loadRow, partA, partOk, indexAddrA, lenA, mmA, okAll, stAll, opsA, opA, dstOk, nilSliceOp, Nat.reduceLT, Nat.reduceEqDiff, ↓reduceIte, eq_self, wtAll, llF_at]
      refine ⟨by omega, by omega, by simp only [InR_i64]; omega, loop_next (i + 1) (by omega) (by omega) ?_ (HSub.refl _)⟩
      simp only [vsAll, Nat.reduceEqDiff, ↓reduceIte, eq_self, Int.natCast_add, Int.natCast_one, farO]
    · have ei : i = x.ow.length := by omega
      subst ei
      simp only [vsAll, loadA, loadRow, partA, partOk, fieldAddrA, lenA, opA, dstOk, Nat.reduceLT, Nat.reduceEqDiff, ↓reduceIte, eq_self, wtAll]
      refine vs_loop (σ := Nat) (fun i => i ≤ x.st.length) (fun i => [(3, i64 (farS x i)), (34, stAV x.st), (35, i64 x.st.length), (36, i64 i)]) (fun _ => H) (fun i => x.st.length - i) 0 (by omega) ?_ (HSub.refl _) fun i hi => ?_
      · simp only [vsAll, Nat.reduceEqDiff, ↓reduceIte, eq_self, Int.natCast_zero, farS]
      · simp only [vsAll, binA, binLitA, intA, opA, dstOk, Nat.reduceLT, Nat.reduceEqDiff, ↓reduceIte, eq_self]
        refine condD (fun hd => ?_) (fun hd => ?_)
        · simp only [vsAll, binA, binLitA, intA, loadA, loadRow, partA, partOk, indexAddrA, lenA, mmA, okAll, stAll, opsA, opA, dstOk, nilSliceOp, Nat.reduceLT, Nat.reduceEqDiff, ↓reduceIte, eq_self, wtAll, stF_at]
          refine ⟨by omega, by omega, by simp only [InR_i64]; omega, loop_next (i + 1) (by omega) (by omega) ?_ (HSub.refl _)⟩
          simp only [vsAll, Nat.reduceEqDiff, ↓reduceIte, eq_self, Int.natCast_add, Int.natCast_one, farS]
        · have ei : i = x.st.length := by omega
          subst ei
          simp only [vsAll, binA, binLitA, intA, opA, dstOk, nilSliceOp, resA, retA.eq_1, Nat.reduceLT, Nat.reduceEqDiff, ↓reduceIte, eq_self, Try.results35]
          rfl
theorem farO_le (x : Ir) (i : Nat) : (x.ow.length : Int) ≤ farO x i ∧ (x.mo.length : Int) ≤ farO x i ∧ (x.st.length : Int) ≤ farO x i ∧ (x.cl.length : Int) ≤ farO x i ∧ ∀ j, j < i → ((x.ow.getD j []).length : Int) ≤ farO x i := by
  induction i with
  | zero => exact ⟨by simp only [farO]; omega, by simp only [farO]; omega, by simp only [farO]; omega, by simp only [farO]; omega, fun j hj => absurd hj (by omega)⟩
  | succ i ih =>
    obtain ⟨h1, h2, h3, h4, h5⟩ := ih
    simp only [farO]
    refine ⟨by omega, by omega, by omega, by omega, fun j hj => ?_⟩
    by_cases e : j = i
    · subst e; omega
    · have := h5 j (by omega); omega
theorem farS_le (x : Ir) (i : Nat) : farO x x.ow.length ≤ farS x i ∧ ∀ j, j < i → ((x.st.getD j []).length : Int) ≤ farS x i := by
  induction i with
  | zero => exact ⟨Int.le_refl _, fun j hj => absurd hj (by omega)⟩
  | succ i ih =>
    obtain ⟨h1, h2⟩ := ih
    simp only [farS]
    refine ⟨by omega, fun j hj => ?_⟩
    by_cases e : j = i
    · subst e; omega
    · have := h2 j (by omega); omega
theorem far_near {x : Ir} (h : farB x = false) : Near x := by
  have h0 := of_decide_eq_false h
  obtain ⟨h1, h2⟩ := farS_le x x.st.length
  obtain ⟨q1, q2, q3, q4, q5⟩ := farO_le x x.ow.length
  exact ⟨by omega, by omega, by omega, by omega, fun i hi => by have := q5 i hi; omega, fun i hi => by have := h2 i hi; omega⟩

def hvB (x : Ir) (most : Nat) : Bool := if (farB x || !decide (Ok x)) = true then farB x else decide (most < (max 1 x.ow.length) ^ x.st.length)
theorem hv_near {x : Ir} {most : Nat} (h : hvB x most = false) : Near x := by
  unfold hvB at h
  split at h
  · exact far_near h
  · rename_i hc
    rw [Bool.not_eq_true, Bool.or_eq_false_iff] at hc
    exact far_near hc.1
theorem dec_lt (a b : Nat) : decide ((a : Int) < (b : Int)) = decide (a < b) := decide_eq_decide.2 (by omega)
theorem heavy_tri (x : Ir) (most : Nat) (H : Hp) (hO : x.ow.length < 2 ^ 63) (hS : x.st.length < 2 ^ 63) : PTri Try.prog (fnA 13) [x.av, i64 most] H (boo (hvB x most)) := by
  refine tri_v0 (fun _ => false) Try.func13 (by kernel_rfl) rfl (by simp only [List.length_append, List.length_cons, List.length_nil, Try.ntmps13]; decide) ?_
  simp only [vsAll, loadA, loadRow, partA, partOk, boxA, okAll, stAll, opsA, opA, dstOk, nilSliceOp, argFr, Nat.reduceAdd, Nat.reduceLT, Nat.reduceEqDiff, ↓reduceIte, eq_self, wtAll, Try.ntmps13]
  refine callK_pure (far_tri x _ hO hS) ?_
  simp only [vsAll, loadA, loadRow, partA, partOk, opA, guardV, dstOk, Nat.reduceLT, Nat.reduceEqDiff, ↓reduceIte, implies_true, eq_self, wtAll]
  refine gcall _ (fun g => ⟨by simp only [vsAll, opA], by simp only [vsAll, okAll, opsA, opA, ↓reduceIte, eq_self, g], rirons_tri x _ (far_near (by simpa using g))⟩) ?_
  simp only [vsAll, unA, pickA, opA, guardV, dstOk, Nat.reduceLT, Nat.reduceEqDiff, ↓reduceIte, implies_true, eq_self]
  refine condV (fun hc => ?_) (fun hc => ?_)
  · have e : hvB x most = farB x := by rw [hvB, if_pos hc]
    rw [e]
    simp only [vsAll, loadA, loadRow, partA, partOk, okAll, stAll, opsA, opA, dstOk, Nat.reduceLT, Nat.reduceEqDiff, ↓reduceIte, eq_self, wtAll]
    refine callK_pure (far_tri x _ hO hS) ?_
    simp only [vsAll, opA, dstOk, nilSliceOp, resA, retA.eq_1, Nat.reduceLT, ↓reduceIte, eq_self, Try.results13]
  · have e : hvB x most = decide (most < (max 1 x.ow.length) ^ x.st.length) := by rw [hvB, if_neg (by rw [hc]; decide)]
    rw [e]
    have hok : Ok x := by
      rw [Bool.or_eq_false_iff] at hc
      simpa using hc.2
    have nO := hok.nO
    have nS := hok.nS
    have hb : ∀ i, i ≤ x.st.length → (max 1 x.ow.length) ^ i ≤ 5 ^ 6 := fun i hi => Nat.le_trans (Nat.pow_le_pow_left (by omega) i) (Nat.pow_le_pow_right (by decide) (by omega))
    simp only [vsAll, loadA, loadRow, partA, partOk, fieldAddrA, lenA, opA, dstOk, nilSliceOp, Nat.reduceLT, Nat.reduceEqDiff, ↓reduceIte, eq_self, wtAll]
    refine vs_loop (σ := Nat) (fun i => i ≤ x.st.length) (fun i => [(1, i64 most), (2, .rptr 1 5 (fun _ => x.cs) 0 0), (5, i64 (((max 1 x.ow.length) ^ i : Nat) : Int)), (17, i64 x.st.length), (18, i64 i)]) (fun _ => H) (fun i => x.st.length - i) 0 (by omega) ?_ (HSub.refl _) fun i hi => ?_
    · simp only [vsAll, argFr, Nat.reduceEqDiff, ↓reduceIte, eq_self, Int.natCast_zero, Nat.pow_zero, Int.natCast_one]
    · simp only [vsAll, binA, binLitA, intA, opA, dstOk, Nat.reduceLT, Nat.reduceEqDiff, ↓reduceIte, eq_self]
      refine condD (fun hd => ?_) (fun hd => ?_)
      · have h1 := hb (i + 1) (by omega)
        have ep : (((max 1 x.ow.length) ^ i : Nat) : Int) * max 1 (x.ow.length : Int) = (((max 1 x.ow.length) ^ (i + 1) : Nat) : Int) := by
          rw [Nat.pow_succ, Int.natCast_mul]
          congr 1
          omega
        simp only [vsAll, binA, binLitA, intA, loadA, loadRow, partA, partOk, fieldAddrA, lenA, mmA, okAll, stAll, opsA, opA, dstOk, nilSliceOp, Nat.reduceLT, Nat.reduceEqDiff, ↓reduceIte, eq_self, wtAll, ep]
        refine ⟨by simp only [InR_i64]; omega, by simp only [InR_i64]; omega, loop_next (i + 1) (by omega) (by omega) ?_ (HSub.refl _)⟩
        simp only [vsAll, Nat.reduceEqDiff, ↓reduceIte, eq_self, Int.natCast_add, Int.natCast_one]
      · have ei : i = x.st.length := by omega
        subst ei
        simp only [vsAll, binA, binLitA, intA, opA, dstOk, nilSliceOp, resA, retA.eq_1, Nat.reduceLT, Nat.reduceEqDiff, ↓reduceIte, eq_self, Try.results13]
        rw [dec_lt]

theorem mark_tri (a b c : Int) (H : Hp) : PTri Try.prog (fnA 40) [i64 a, i64 b, i64 c] H (.agg [i64 a, i64 b, i64 c]) := by
  refine tri_vs (m := fun _ => false) Try.func40 (by kernel_rfl) rfl (by simp only [List.length_append, List.length_cons, List.length_nil, Try.ntmps40]; decide) ?_
  simp only [vsAll, cellA, cellsA, fillA, okParts, partsA, partsOk, opA, allocA, newCells, okCells, storeObj, dstOk, argFr, Nat.reduceAdd, Nat.reduceLT, Nat.reduceLeDiff, Nat.reduceEqDiff, ↓reduceIte, reduceCtorEq, eq_self, wtAll, Try.ntmps40]
  intro i4 hh_i4; (try simp only [Hp.set_none, ite_none] at hh_i4)
  refine ret0 ?_
  simp only [vsAll, loadA, loadRow, partA, partOk, resA, retA.eq_1, Nat.reduceLT, Nat.reduceEqDiff, ↓reduceIte, eq_self, wtAll, Try.results40]
  exact dropR_pure rfl (by (repeat (first | exact HSub_rfl | refine HSub_put_eq (by simp only [vsAll, binA, binLitA, intA, aggA, boolA, nilA2, isConst, unA, loadA, loadRow, partA, partOk, fieldAddrA, indexAddrA, indexA, fieldA, extractA, lenA, nilCheckA, boxA, cellA, cellsA, fillA, okParts, buildSliceA, buildMutA, makeSliceA, partIdx, elemsA, lensA, ifaceA, convA, mmA, pickA, okAll, stAll, opsA, partsA, partsOk, opA, allocA, boxMutA, newCells, okCells, storeObj, appendA, guardV, taA, nM, mapUpA, lookA, sliceA, boundsA, opO, okO, copyA, dstOk, nilA, quietOk, nilSliceOp, panA, resA, argFr, retA.eq_1, retA.eq_2, Nat.reduceAdd, Nat.reduceSub, Nat.reduceMul, Nat.reduceLT, Nat.reduceLeDiff, Nat.reduceEqDiff, Nat.reduceBEq, Int.reduceAdd, Int.reduceSub, Int.reduceMul, Int.reduceNeg, Int.reduceLE, Int.reduceLT, Int.reduceEq, Int.reduceNe, Int.reduceToNat, ↓reduceIte, reduceCtorEq, implies_true, forall_const, eq_self, ne_eq, wtAll, Try.ntmps40, Try.results40, hh_i4]) ?_ | refine HSub_drop2 (by simp only [eq_self, hh_i4]) ?_ | refine HSub_keep_eq (by simp only [vsAll, binA, binLitA, intA, aggA, boolA, nilA2, isConst, unA, loadA, loadRow, partA, partOk, fieldAddrA, indexAddrA, indexA, fieldA, extractA, lenA, nilCheckA, boxA, cellA, cellsA, fillA, okParts, buildSliceA, buildMutA, makeSliceA, partIdx, elemsA, lensA, ifaceA, convA, mmA, pickA, okAll, stAll, opsA, partsA, partsOk, opA, allocA, boxMutA, newCells, okCells, storeObj, appendA, guardV, taA, nM, mapUpA, lookA, sliceA, boundsA, opO, okO, copyA, dstOk, nilA, quietOk, nilSliceOp, panA, resA, argFr, retA.eq_1, retA.eq_2, Nat.reduceAdd, Nat.reduceSub, Nat.reduceMul, Nat.reduceLT, Nat.reduceLeDiff, Nat.reduceEqDiff, Nat.reduceBEq, Int.reduceAdd, Int.reduceSub, Int.reduceMul, Int.reduceNeg, Int.reduceLE, Int.reduceLT, Int.reduceEq, Int.reduceNe, Int.reduceToNat, ↓reduceIte, reduceCtorEq, implies_true, forall_const, eq_self, ne_eq, wtAll, Try.ntmps40, Try.results40, hh_i4]) ?_)))
theorem lhis_tri (a b : Int) (H : Hp) : PTri Try.prog (fnA 73) [i64 a, i64 b] H (.agg [i64 a, i64 b, boo false]) := by
  refine tri_vs (m := fun _ => false) Try.func73 (by kernel_rfl) rfl (by simp only [List.length_append, List.length_cons, List.length_nil, Try.ntmps73]; decide) ?_
  simp only [vsAll, cellA, cellsA, fillA, okParts, partsA, partsOk, opA, allocA, newCells, okCells, storeObj, dstOk, argFr, Nat.reduceAdd, Nat.reduceLT, Nat.reduceLeDiff, Nat.reduceEqDiff, ↓reduceIte, reduceCtorEq, eq_self, wtAll, Try.ntmps73]
  intro i4 hh_i4; (try simp only [Hp.set_none, ite_none] at hh_i4)
  refine ret0 ?_
  simp only [vsAll, loadA, loadRow, partA, partOk, resA, retA.eq_1, Nat.reduceLT, Nat.reduceEqDiff, ↓reduceIte, eq_self, wtAll, Try.results73]
  exact dropR_pure rfl (by (repeat (first | exact HSub_rfl | refine HSub_put_eq (by simp only [vsAll, binA, binLitA, intA, aggA, boolA, nilA2, isConst, unA, loadA, loadRow, partA, partOk, fieldAddrA, indexAddrA, indexA, fieldA, extractA, lenA, nilCheckA, boxA, cellA, cellsA, fillA, okParts, buildSliceA, buildMutA, makeSliceA, partIdx, elemsA, lensA, ifaceA, convA, mmA, pickA, okAll, stAll, opsA, partsA, partsOk, opA, allocA, boxMutA, newCells, okCells, storeObj, appendA, guardV, taA, nM, mapUpA, lookA, sliceA, boundsA, opO, okO, copyA, dstOk, nilA, quietOk, nilSliceOp, panA, resA, argFr, retA.eq_1, retA.eq_2, Nat.reduceAdd, Nat.reduceSub, Nat.reduceMul, Nat.reduceLT, Nat.reduceLeDiff, Nat.reduceEqDiff, Nat.reduceBEq, Int.reduceAdd, Int.reduceSub, Int.reduceMul, Int.reduceNeg, Int.reduceLE, Int.reduceLT, Int.reduceEq, Int.reduceNe, Int.reduceToNat, ↓reduceIte, reduceCtorEq, implies_true, forall_const, eq_self, ne_eq, wtAll, Try.ntmps73, Try.results73, hh_i4]) ?_ | refine HSub_drop2 (by simp only [eq_self, hh_i4]) ?_ | refine HSub_keep_eq (by simp only [vsAll, binA, binLitA, intA, aggA, boolA, nilA2, isConst, unA, loadA, loadRow, partA, partOk, fieldAddrA, indexAddrA, indexA, fieldA, extractA, lenA, nilCheckA, boxA, cellA, cellsA, fillA, okParts, buildSliceA, buildMutA, makeSliceA, partIdx, elemsA, lensA, ifaceA, convA, mmA, pickA, okAll, stAll, opsA, partsA, partsOk, opA, allocA, boxMutA, newCells, okCells, storeObj, appendA, guardV, taA, nM, mapUpA, lookA, sliceA, boundsA, opO, okO, copyA, dstOk, nilA, quietOk, nilSliceOp, panA, resA, argFr, retA.eq_1, retA.eq_2, Nat.reduceAdd, Nat.reduceSub, Nat.reduceMul, Nat.reduceLT, Nat.reduceLeDiff, Nat.reduceEqDiff, Nat.reduceBEq, Int.reduceAdd, Int.reduceSub, Int.reduceMul, Int.reduceNeg, Int.reduceLE, Int.reduceLT, Int.reduceEq, Int.reduceNe, Int.reduceToNat, ↓reduceIte, reduceCtorEq, implies_true, forall_const, eq_self, ne_eq, wtAll, Try.ntmps73, Try.results73, hh_i4]) ?_)))
theorem lother_tri (a b : Int) (H : Hp) : PTri Try.prog (fnA 74) [i64 a, i64 b] H (.agg [i64 a, i64 b, boo true]) := by
  refine tri_vs (m := fun _ => false) Try.func74 (by kernel_rfl) rfl (by simp only [List.length_append, List.length_cons, List.length_nil, Try.ntmps74]; decide) ?_
  simp only [vsAll, cellA, cellsA, fillA, okParts, partsA, partsOk, opA, allocA, newCells, okCells, storeObj, dstOk, argFr, Nat.reduceAdd, Nat.reduceLT, Nat.reduceLeDiff, Nat.reduceEqDiff, ↓reduceIte, reduceCtorEq, eq_self, wtAll, Try.ntmps74]
  intro i4 hh_i4; (try simp only [Hp.set_none, ite_none] at hh_i4)
  refine ret0 ?_
  simp only [vsAll, loadA, loadRow, partA, partOk, resA, retA.eq_1, Nat.reduceLT, Nat.reduceEqDiff, ↓reduceIte, eq_self, wtAll, Try.results74]
  exact dropR_pure rfl (by (repeat (first | exact HSub_rfl | refine HSub_put_eq (by simp only [vsAll, binA, binLitA, intA, aggA, boolA, nilA2, isConst, unA, loadA, loadRow, partA, partOk, fieldAddrA, indexAddrA, indexA, fieldA, extractA, lenA, nilCheckA, boxA, cellA, cellsA, fillA, okParts, buildSliceA, buildMutA, makeSliceA, partIdx, elemsA, lensA, ifaceA, convA, mmA, pickA, okAll, stAll, opsA, partsA, partsOk, opA, allocA, boxMutA, newCells, okCells, storeObj, appendA, guardV, taA, nM, mapUpA, lookA, sliceA, boundsA, opO, okO, copyA, dstOk, nilA, quietOk, nilSliceOp, panA, resA, argFr, retA.eq_1, retA.eq_2, Nat.reduceAdd, Nat.reduceSub, Nat.reduceMul, Nat.reduceLT, Nat.reduceLeDiff, Nat.reduceEqDiff, Nat.reduceBEq, Int.reduceAdd, Int.reduceSub, Int.reduceMul, Int.reduceNeg, Int.reduceLE, Int.reduceLT, Int.reduceEq, Int.reduceNe, Int.reduceToNat, ↓reduceIte, reduceCtorEq, implies_true, forall_const, eq_self, ne_eq, wtAll, Try.ntmps74, Try.results74, hh_i4]) ?_ | refine HSub_drop2 (by simp only [eq_self, hh_i4]) ?_ | refine HSub_keep_eq (by simp only [vsAll, binA, binLitA, intA, aggA, boolA, nilA2, isConst, unA, loadA, loadRow, partA, partOk, fieldAddrA, indexAddrA, indexA, fieldA, extractA, lenA, nilCheckA, boxA, cellA, cellsA, fillA, okParts, buildSliceA, buildMutA, makeSliceA, partIdx, elemsA, lensA, ifaceA, convA, mmA, pickA, okAll, stAll, opsA, partsA, partsOk, opA, allocA, boxMutA, newCells, okCells, storeObj, appendA, guardV, taA, nM, mapUpA, lookA, sliceA, boundsA, opO, okO, copyA, dstOk, nilA, quietOk, nilSliceOp, panA, resA, argFr, retA.eq_1, retA.eq_2, Nat.reduceAdd, Nat.reduceSub, Nat.reduceMul, Nat.reduceLT, Nat.reduceLeDiff, Nat.reduceEqDiff, Nat.reduceBEq, Int.reduceAdd, Int.reduceSub, Int.reduceMul, Int.reduceNeg, Int.reduceLE, Int.reduceLT, Int.reduceEq, Int.reduceNe, Int.reduceToNat, ↓reduceIte, reduceCtorEq, implies_true, forall_const, eq_self, ne_eq, wtAll, Try.ntmps74, Try.results74, hh_i4]) ?_)))
def smI (m : Int) : Ir := ⟨2, [[3, 5], [3, 7], [6, 5]], [m, 2, m], [[⟨0, 3, 3⟩], [⟨1, 5, 6⟩], []], [⟨0, 0, false⟩, ⟨1, 2, true⟩, ⟨1, 2, false⟩]⟩
theorem ret_le {P : Program} {fv : AV} {args : List AV} {H : Hp} {v v' : AV} (h : PTri P fv args H v) (hle : AV.Le v v') : PTri P fv args H v' := by
  intro S vf vs hH hvf ha
  obtain ⟨nx, h1, h2⟩ := h S vf vs hH hvf ha
  have ho : ∀ e w, Out S (fun r H' => r = .ret v ∧ H' = H) e w → Out S (fun r H' => r = .ret v' ∧ H' = H) e w := by
    rintro e w ⟨S', r, H', hw, hl, hH', hrr, rfl, rfl⟩
    refine ⟨S', .ret v', H', hw, hl, hH', ?_, rfl, rfl⟩
    cases e with
    | returned cv => exact hle S' cv hrr
    | panicked ch => exact hrr.elim
    | outgrown => exact hrr.elim
  refine ⟨nx, h1, ?_⟩
  cases nx <;> simp only [NextOk] at h2 ⊢
  · exact Calls.mono h2 ho
  · exact h2.mono ho
theorem sample_tri (m : Int) (H : Hp) : PTri Try.prog (fnA 42) [i64 m] H (smI m).av := by
  refine ret_le (v := .agg [i64 2, .rsl 3 1 (fun i => [[.rsl 2 1 (fun i => [[i64 3], [i64 5]].getD i [])], [.rsl 2 1 (fun i => [[i64 3], [i64 7]].getD i [])], [.rsl 2 1 (fun i => [[i64 6], [i64 5]].getD i [])]].getD i []),
    .rsl 3 1 (fun i => [[i64 m], [i64 2], [i64 m]].getD i []),
    .rsl 3 1 (fun i => [[.rsl 1 3 (fun i => [[i64 0, i64 3, i64 3]].getD i [])], [.rsl 1 3 (fun i => [[i64 1, i64 5, i64 6]].getD i [])], [.lit (.slice none 0 0)]].getD i []),
    .rsl 3 3 (fun i => [[i64 0, i64 0, boo false], [i64 1, i64 2, boo true], [i64 1, i64 2, boo false]].getD i [])]) ?_ ?_
  · refine tri_vs (m := fun _ => false) Try.func42 (by kernel_rfl) rfl (by simp only [List.length_append, List.length_cons, List.length_nil, Try.ntmps42]; decide) ?_
    simp only [vsAll, cellA, cellsA, okParts, buildSliceA, partIdx, elemsA, lensA, okAll, stAll, opsA, partsA, partsOk, opA, allocA, dstOk, argFr, Nat.reduceAdd, Nat.reduceMul, Nat.reduceLT, Nat.reduceLeDiff, Nat.reduceEqDiff, ↓reduceIte, reduceCtorEq, eq_self, wtAll, Try.ntmps42]
    intro i2 hh_i2; (try simp only [Hp.set_none, ite_none] at hh_i2)
    refine callK_pure (mark_tri 0 3 3 _) ?_
    simp only [vsAll, cellsA, okParts, buildSliceA, partIdx, elemsA, lensA, okAll, stAll, opsA, partsA, partsOk, opA, dstOk, Nat.reduceAdd, Nat.reduceMul, Nat.reduceLT, Nat.reduceLeDiff, ↓reduceIte, eq_self, wtAll]
    refine callK_pure (mark_tri 1 5 6 _) ?_
    simp only [vsAll, cellA, cellsA, okParts, buildSliceA, partIdx, elemsA, lensA, okAll, stAll, opsA, partsA, partsOk, opA, dstOk, Nat.reduceAdd, Nat.reduceMul, Nat.reduceLT, Nat.reduceLeDiff, Nat.reduceEqDiff, ↓reduceIte, eq_self, wtAll]
    refine callK_pure (lhis_tri 0 0 _) ?_
    simp only [vsAll, okAll, stAll, opsA, opA, dstOk, Nat.reduceLT]
    refine callK_pure (lother_tri 1 2 _) ?_
    simp only [vsAll, okAll, stAll, opsA, opA, dstOk, Nat.reduceLT]
    refine callK_pure (lhis_tri 1 2 _) ?_
    simp only [vsAll, cellA, cellsA, fillA, okParts, buildSliceA, partIdx, elemsA, lensA, partsA, partsOk, opA, newCells, okCells, storeObj, dstOk, Nat.reduceAdd, Nat.reduceMul, Nat.reduceLT, Nat.reduceLeDiff, Nat.reduceEqDiff, ↓reduceIte, eq_self, wtAll]
    refine ret0 ?_
    simp only [vsAll, loadA, loadRow, partA, partOk, resA, retA.eq_1, Nat.reduceLT, Nat.reduceEqDiff, ↓reduceIte, eq_self, wtAll, Try.results42]
    exact dropR_pure rfl (by (repeat (first | exact HSub_rfl | refine HSub_put_eq (by simp only [vsAll, binA, binLitA, intA, aggA, boolA, nilA2, isConst, unA, loadA, loadRow, partA, partOk, fieldAddrA, indexAddrA, indexA, fieldA, extractA, lenA, nilCheckA, boxA, cellA, cellsA, fillA, okParts, buildSliceA, buildMutA, makeSliceA, partIdx, elemsA, lensA, ifaceA, convA, mmA, pickA, okAll, stAll, opsA, partsA, partsOk, opA, allocA, boxMutA, newCells, okCells, storeObj, appendA, guardV, taA, nM, mapUpA, lookA, sliceA, boundsA, opO, okO, copyA, dstOk, nilA, quietOk, nilSliceOp, panA, resA, argFr, retA.eq_1, retA.eq_2, Nat.reduceAdd, Nat.reduceSub, Nat.reduceMul, Nat.reduceLT, Nat.reduceLeDiff, Nat.reduceEqDiff, Nat.reduceBEq, Int.reduceAdd, Int.reduceSub, Int.reduceMul, Int.reduceNeg, Int.reduceLE, Int.reduceLT, Int.reduceEq, Int.reduceNe, Int.reduceToNat, ↓reduceIte, reduceCtorEq, implies_true, forall_const, eq_self, ne_eq, wtAll, Try.ntmps42, Try.results42, hh_i2]) ?_ | refine HSub_drop2 (by simp only [eq_self, hh_i2]) ?_ | refine HSub_keep_eq (by simp only [vsAll, binA, binLitA, intA, aggA, boolA, nilA2, isConst, unA, loadA, loadRow, partA, partOk, fieldAddrA, indexAddrA, indexA, fieldA, extractA, lenA, nilCheckA, boxA, cellA, cellsA, fillA, okParts, buildSliceA, buildMutA, makeSliceA, partIdx, elemsA, lensA, ifaceA, convA, mmA, pickA, okAll, stAll, opsA, partsA, partsOk, opA, allocA, boxMutA, newCells, okCells, storeObj, appendA, guardV, taA, nM, mapUpA, lookA, sliceA, boundsA, opO, okO, copyA, dstOk, nilA, quietOk, nilSliceOp, panA, resA, argFr, retA.eq_1, retA.eq_2, Nat.reduceAdd, Nat.reduceSub, Nat.reduceMul, Nat.reduceLT, Nat.reduceLeDiff, Nat.reduceEqDiff, Nat.reduceBEq, Int.reduceAdd, Int.reduceSub, Int.reduceMul, Int.reduceNeg, Int.reduceLE, Int.reduceLT, Int.reduceEq, Int.reduceNe, Int.reduceToNat, ↓reduceIte, reduceCtorEq, implies_true, forall_const, eq_self, ne_eq, wtAll, Try.ntmps42, Try.results42, hh_i2]) ?_)))
  · have two : ∀ a b : Int, AV.Le (.rsl 2 1 (fun i => [[i64 a], [i64 b]].getD i [])) (intsAV [a, b]) := fun a b => AV.Le.rsl fun i hi => by
      match i, hi with
      | 0, _ => rfl
      | 1, _ => rfl
    have one : ∀ a b c : Int, AV.Le (.rsl 1 3 (fun i => [[i64 a, i64 b, i64 c]].getD i [])) (mksAV [⟨a, b, c⟩]) := fun a b c => AV.Le.rsl fun i hi => by
      match i, hi with
      | 0, _ => rfl
    refine AV.Le.aggD rfl fun j hj => ?_
    match j, hj with
    | 0, _ => exact AV.Le.refl _
    | 1, _ =>
      refine AV.Le.rslA (fun i hi => ?_) fun i hi j hj => ?_
      · match i, hi with
        | 0, _ => rfl
        | 1, _ => rfl
        | 2, _ => rfl
      · match i, hi, j, hj with
        | 0, _, 0, _ => exact two 3 5
        | 1, _, 0, _ => exact two 3 7
        | 2, _, 0, _ => exact two 6 5
    | 2, _ =>
      refine AV.Le.rsl fun i hi => ?_
      match i, hi with
      | 0, _ => rfl
      | 1, _ => rfl
      | 2, _ => rfl
    | 3, _ =>
      refine AV.Le.rslA (fun i hi => ?_) fun i hi j hj => ?_
      · match i, hi with
        | 0, _ => rfl
        | 1, _ => rfl
        | 2, _ => rfl
      · match i, hi, j, hj with
        | 0, _, 0, _ => exact one 0 3 3
        | 1, _, 0, _ => exact one 1 5 6
        | 2, _, 0, _ => exact AV.Le.nil 3 _
    | 4, _ =>
      refine AV.Le.rsl fun i hi => ?_
      match i, hi with
      | 0, _ => rfl
      | 1, _ => rfl
      | 2, _ => rfl
end Go.Proofs.Ytkonoggmdcdeeaa
end
section
set_option linter.unusedVariables false
set_option linter.unusedSimpArgs false
set_option maxHeartbeats 4000000
set_option maxRecDepth 100000
namespace Go.Proofs.Ytkonoggmdcdeeaa
open Go.V
theorem sm_ok : Ok (smI 1) ∧ Ok (smI 0) := by decide +kernel
theorem sm1 : ((fitsV (smI 1) 1 : Nat) : Int) = 5 := by decide +kernel
theorem sm2 : fitsE (smI 1) 1 = 0 := by decide +kernel
theorem sm3 : ((countV (smI 1) : Nat) : Int) = 5 := by decide +kernel
theorem sm4 : countE (smI 1) = 0 := by decide +kernel
theorem sm5 : ((canV (smI 1) 2 : Nat) : Int) = 7 := by decide +kernel
theorem sm6 : canE (smI 1) 2 = 0 := by decide +kernel
theorem sm7 : claimV (smI 1) 1 = 1 := by decide +kernel
theorem sm8 : claimE (smI 1) 1 = 0 := by decide +kernel
theorem sm9 : (((falseP (smI 1)).1 : Nat) : Int) = 1 := by decide +kernel
theorem sm10 : (((falseP (smI 1)).2 : Nat) : Int) = 2 := by decide +kernel
theorem sm11 : falseE (smI 1) = 0 := by decide +kernel
theorem sm12 : ((likV (smI 1) 2 : Nat) : Int) = 2 := by decide +kernel
theorem sm13 : likE (smI 1) 2 = 0 := by decide +kernel
theorem sm14 : ((setV (errE (smI 1) true true) (clashR (smI 1)) : Nat) : Int) = 3 := by decide +kernel
theorem sm15 : setE (errE (smI 1) true true) (clashR (smI 1)) = 0 := by decide +kernel
theorem sm16 : ((setV (errE (smI 0) true false) (shortR (smI 0)) : Nat) : Int) = 2 := by decide +kernel
theorem sm17 : setE (errE (smI 0) true false) (shortR (smI 0)) = 0 := by decide +kernel
theorem awake_tri (H : Hp) : PTri Try.prog (fnA 14) [] H (boo true) := by
  have k1 := sm_ok.1.near
  have k0 := sm_ok.2.near
  refine Tri.drop ?_
  refine tri_v0 (fun _ => false) Try.func14 (by kernel_rfl) rfl (by simp only [List.length_append, List.length_nil, Try.ntmps14]; decide) ?_
  simp only [vsAll, okAll, stAll, opsA, opA, dstOk, nilSliceOp, Nat.reduceLT, eq_self, Try.ntmps14]
  refine callK_pure (sample_tri 1 _) ?_
  simp only [vsAll, loadA, loadRow, partA, partOk, cellA, cellsA, okAll, stAll, opsA, opA, allocA, newCells, okCells, storeObj, dstOk, Nat.reduceAdd, Nat.reduceLT, Nat.reduceEqDiff, ↓reduceIte, eq_self, wtAll]
  intro i1 hh_i1; (try simp only [Hp.set_none, ite_none] at hh_i1)
  refine callK_pure (wfits_tri (smI 1) 1 _ k1) ?_
  simp only [vsAll, loadA, loadRow, partA, partOk, extractA, okAll, stAll, opsA, opA, dstOk, nilSliceOp, Nat.reduceAdd, Nat.reduceLT, Nat.reduceEqDiff, ↓reduceIte, eq_self, wtAll, sm1, sm2]
  refine callK_pure (wcount_tri (smI 1) _ k1) ?_
  simp only [vsAll, loadA, loadRow, partA, partOk, extractA, okAll, stAll, opsA, opA, dstOk, nilSliceOp, Nat.reduceAdd, Nat.reduceLT, Nat.reduceEqDiff, ↓reduceIte, eq_self, wtAll, sm3, sm4]
  refine callK_pure (wcan_tri (smI 1) 2 _ k1) ?_
  simp only [vsAll, loadA, loadRow, partA, partOk, extractA, okAll, stAll, opsA, opA, dstOk, nilSliceOp, Nat.reduceAdd, Nat.reduceLT, Nat.reduceEqDiff, ↓reduceIte, eq_self, wtAll, sm5, sm6]
  refine callK_pure (wclaim_tri (smI 1) 1 _ k1) ?_
  simp only [vsAll, loadA, loadRow, partA, partOk, extractA, okAll, stAll, opsA, opA, dstOk, nilSliceOp, Nat.reduceAdd, Nat.reduceLT, Nat.reduceEqDiff, ↓reduceIte, eq_self, wtAll, sm7, sm8]
  refine callK_pure (wfalse_tri (smI 1) _ k1) ?_
  simp only [vsAll, loadA, loadRow, partA, partOk, extractA, okAll, stAll, opsA, opA, dstOk, nilSliceOp, Nat.reduceAdd, Nat.reduceLT, Nat.reduceEqDiff, ↓reduceIte, eq_self, wtAll, sm9, sm10, sm11]
  refine callK_pure (wlikely_tri (smI 1) 2 _ k1) ?_
  simp only [vsAll, loadA, loadRow, partA, partOk, extractA, okAll, stAll, opsA, opA, dstOk, nilSliceOp, Nat.reduceAdd, Nat.reduceLT, Nat.reduceEqDiff, ↓reduceIte, eq_self, wtAll, sm12, sm13]
  refine callK_pure (wclash_tri (smI 1) _ k1) ?_
  simp only [vsAll, extractA, okAll, stAll, opsA, opA, dstOk, nilSliceOp, Nat.reduceAdd, Nat.reduceLT, Nat.reduceEqDiff, ↓reduceIte, eq_self, sm14, sm15]
  refine callK_pure (sample_tri 0 _) ?_
  simp only [vsAll, okAll, stAll, opsA, opA, dstOk, Nat.reduceLT, ↓reduceIte, eq_self]
  refine callK_pure (wshort_tri (smI 0) _ k0) ?_
  simp only [vsAll, binA, binLitA, intA, extractA, pickA, opA, guardV, dstOk, nilSliceOp, resA, retA.eq_1, Nat.reduceAdd, Nat.reduceLT, Nat.reduceEqDiff, ↓reduceIte, implies_true, eq_self, Try.results14, sm16, sm17]
  exact dropR_pure rfl (by (repeat (first | exact HSub_rfl | refine HSub_put_eq (by simp only [vsAll, binA, binLitA, intA, aggA, boolA, nilA2, isConst, unA, loadA, loadRow, partA, partOk, fieldAddrA, indexAddrA, indexA, fieldA, extractA, lenA, nilCheckA, boxA, cellA, cellsA, fillA, okParts, buildSliceA, buildMutA, makeSliceA, partIdx, elemsA, lensA, ifaceA, convA, mmA, pickA, okAll, stAll, opsA, partsA, partsOk, opA, allocA, boxMutA, newCells, okCells, storeObj, appendA, guardV, taA, nM, mapUpA, lookA, sliceA, boundsA, opO, okO, copyA, dstOk, nilA, quietOk, nilSliceOp, panA, resA, argFr, retA.eq_1, retA.eq_2, Nat.reduceAdd, Nat.reduceSub, Nat.reduceMul, Nat.reduceLT, Nat.reduceLeDiff, Nat.reduceEqDiff, Nat.reduceBEq, Int.reduceAdd, Int.reduceSub, Int.reduceMul, Int.reduceNeg, Int.reduceLE, Int.reduceLT, Int.reduceEq, Int.reduceNe, Int.reduceToNat, ↓reduceIte, reduceCtorEq, implies_true, forall_const, eq_self, ne_eq, wtAll, Try.ntmps14, Try.results14, hh_i1]) ?_ | refine HSub_drop2 (by simp only [eq_self, hh_i1]) ?_ | refine HSub_keep_eq (by simp only [vsAll, binA, binLitA, intA, aggA, boolA, nilA2, isConst, unA, loadA, loadRow, partA, partOk, fieldAddrA, indexAddrA, indexA, fieldA, extractA, lenA, nilCheckA, boxA, cellA, cellsA, fillA, okParts, buildSliceA, buildMutA, makeSliceA, partIdx, elemsA, lensA, ifaceA, convA, mmA, pickA, okAll, stAll, opsA, partsA, partsOk, opA, allocA, boxMutA, newCells, okCells, storeObj, appendA, guardV, taA, nM, mapUpA, lookA, sliceA, boundsA, opO, okO, copyA, dstOk, nilA, quietOk, nilSliceOp, panA, resA, argFr, retA.eq_1, retA.eq_2, Nat.reduceAdd, Nat.reduceSub, Nat.reduceMul, Nat.reduceLT, Nat.reduceLeDiff, Nat.reduceEqDiff, Nat.reduceBEq, Int.reduceAdd, Int.reduceSub, Int.reduceMul, Int.reduceNeg, Int.reduceLE, Int.reduceLT, Int.reduceEq, Int.reduceNe, Int.reduceToNat, ↓reduceIte, reduceCtorEq, implies_true, forall_const, eq_self, ne_eq, wtAll, Try.ntmps14, Try.results14, hh_i1]) ?_)))
end Go.Proofs.Ytkonoggmdcdeeaa
end
section
set_option linter.unusedVariables false
set_option linter.unusedSimpArgs false
set_option maxHeartbeats 4000000
set_option maxRecDepth 100000
namespace Go.Proofs.Ytkonoggmdcdeeaa
open Go.V
/-- How many claims are false in a truth. -/
def popW (x : Ir) (t : List Int) : Nat := pop (wrongT x t)
def clrB (x : Ir) (o : List (List Int)) (t : List Int) : Bool := decide (0 < o.length) && decide (popW x t < popW x (o.getD 0 []))
def addB (x : Ir) (o : List (List Int)) (t : List Int) : Bool := decide (o.length = 0) || decide (popW x t = popW x (o.getD 0 []))
def bst1 (x : Ir) (o : List (List Int)) (t : List Int) : List (List Int) := if addB x o t = true then o ++ [t] else o
def bstN (x : Ir) : Nat → List (List Int)
  | 0 => []
  | i + 1 => bst1 x (if clrB x (bstN x i) ((truA x).getD i []) = true then [] else bstN x i) ((truA x).getD i [])
def bestL (x : Ir) : List (List Int) := bstN x (truA x).length
theorem bstN_mem {x : Ir} {i : Nat} (hi : i ≤ (truA x).length) : (bstN x i).length ≤ i ∧ ∀ t ∈ bstN x i, t ∈ truA x := by
  induction i with
  | zero => exact ⟨Nat.le_refl _, fun t h => by simp [bstN] at h⟩
  | succ i ih =>
    obtain ⟨h1, h2⟩ := ih (by omega)
    have hm : (truA x).getD i [] ∈ truA x := mem_getD _ i [] (by omega)
    have key : ∀ o : List (List Int), o.length ≤ i → (∀ t ∈ o, t ∈ truA x) → (bst1 x o ((truA x).getD i [])).length ≤ i + 1 ∧ ∀ t ∈ bst1 x o ((truA x).getD i []), t ∈ truA x := by
      intro o ho1 ho2
      unfold bst1
      split
      · refine ⟨by rw [List.length_append]; simp only [List.length_cons, List.length_nil]; omega, fun t ht => ?_⟩
        rcases List.mem_append.1 ht with ht | ht
        · exact ho2 t ht
        · rw [List.mem_singleton] at ht; subst ht; exact hm
      · exact ⟨by omega, ho2⟩
    simp only [bstN]
    split
    · exact key [] (by simp) (fun t h => by simp at h)
    · exact key _ h1 h2
theorem wrong_lt {x : Ir} (k : Ok x) (t : List Int) : wrongT x t < 256 := by
  have h1 := wrongN_lt x t x.cl.length
  have h2 : 2 ^ x.cl.length ≤ 2 ^ 8 := Nat.pow_le_pow_right (by decide) k.nC
  show wrongN x t x.cl.length < 256
  omega
theorem clr_eq (x : Ir) (O : List (List Int)) (t : List Int) : (decide ((0 : Int) < (O.length : Int)) && decide (((pop (wrongT x t) : Nat) : Int) < ((pop (wrongT x (O.getD 0 [])) : Nat) : Int))) = clrB x O t := by
  rw [show decide ((0 : Int) < (O.length : Int)) = decide (0 < O.length) from decide_eq_decide.2 (by omega), dec_lt]; rfl
theorem add_eq (x : Ir) (O : List (List Int)) (t : List Int) : (decide ((O.length : Int) = 0) || decide (((pop (wrongT x t) : Nat) : Int) = ((pop (wrongT x (O.getD 0 [])) : Nat) : Int))) = addB x O t := by
  rw [dec_zero, show decide (((pop (wrongT x t) : Nat) : Int) = ((pop (wrongT x (O.getD 0 [])) : Nat) : Int)) = decide (pop (wrongT x t) = pop (wrongT x (O.getD 0 []))) from decide_eq_decide.2 Int.ofNat_inj]; rfl
theorem rbest_tri (x : Ir) (H : Hp) (k : Ok x) : PTri Try.prog (fnA 64) [x.av] H (llAV (bestL x)) := by
  have hl := truS_len k (2 ^ x.st.length - 1)
  have hl : (truA x).length ≤ 15625 := hl
  refine tri_vs (m := mset [3, 54]) Try.func64 (by kernel_rfl) rfl (by simp only [List.length_append, List.length_cons, List.length_nil, Try.ntmps64]; decide) ?_
  simp only [vsAll, loadA, loadRow, partA, partOk, boxA, okAll, stAll, opsA, opA, dstOk, nilA, nilSliceOp, argFr, Nat.reduceAdd, Nat.reduceLT, Nat.reduceEqDiff, Nat.reduceBEq, ↓reduceIte, eq_self, wtAll, Try.ntmps64]
  intro i0 hh_i0; (try simp only [Hp.set_none, ite_none] at hh_i0)
  refine callK_pure (rtruthsA_tri x _ k) ?_
  simp only [vsAll, opA, dstOk, nilSliceOp, Nat.reduceLT, Nat.reduceBEq, ↓reduceIte, eq_self]
  refine vs_loop (σ := Nat × Nat) (fun y => y.1 ≤ (truA x).length ∧ H y.2 = none) (fun y => [(1, .rptr 1 5 (fun _ => x.cs) 0 0), (3, .sl y.2 1 (bstN x y.1).length), (4, llAV (truA x)), (5, i64 y.1)]) (fun y => H.set y.2 (.row 1 (bstN x y.1).length (llF (bstN x y.1)))) (fun y => (truA x).length - y.1) (0, i0) ⟨by ((try clear hh_i0); omega), hh_i0⟩ ?_ ?_ fun y hy => ?_
  · simp only [vsAll, Nat.reduceEqDiff, ↓reduceIte, eq_self, Int.natCast_zero, bstN]
  · exact HSub.set (HSub.refl _) (row_ext fun i hi => absurd hi (Nat.not_lt_zero i))
  · obtain ⟨i, id⟩ := y
    obtain ⟨hi, hid⟩ := hy
    simp only [] at hi hid
    simp only [vsAll, binA, binLitA, intA, lenA, opA, dstOk, Nat.reduceLT, Nat.reduceEqDiff, ↓reduceIte, eq_self, wtAll]
    refine condD (fun hd => ?_) (fun hd => ?_)
    · have hi2 : i < (truA x).length := by simpa using hd
      have ht := truA_mem (mem_getD (truA x) i [] hi2)
      obtain ⟨hb1, hb2⟩ := bstN_mem (x := x) (i := i) hi
      have eb : bstN x (i + 1) = bst1 x (if clrB x (bstN x i) ((truA x).getD i []) = true then [] else bstN x i) ((truA x).getD i []) := rfl
      generalize bstN x i = O at hb1 hb2 eb ⊢
      generalize htt : (truA x).getD i [] = t at ht eb ⊢
      simp only [vsAll]
      refine vs_draw2 [0, 0, 0, 0, 0, 0, 0, 0] [] [0, 1, 2, 3, 4, 5, 6, 7] (by decide +kernel) ?_
      simp only [vsAll, loadA, loadRow, partA, partOk, indexAddrA, opA, dstOk, Nat.reduceLT, Nat.reduceEqDiff, ↓reduceIte, eq_self, wtAll, llF_at, htt]
      refine ⟨by ((try clear hh_i0); omega), by ((try clear hh_i0); omega), ?_⟩
      refine qcall _ ⟨trivial, by simp only [vsAll, okAll, opsA, opA, Nat.reduceEqDiff, ↓reduceIte, eq_self], rwrong_tri x t _ k ht.1⟩ ?_
      simp only [vsAll, dstOk, Nat.reduceLT, eq_self]
      refine qcall _ ⟨trivial, by simp only [vsAll, okAll, opsA, opA, ↓reduceIte, eq_self], size_tri (wrongT x t) _ (by have := wrong_lt k t; ((try clear hh_i0); omega))⟩ ?_
      simp only [vsAll, opA, dstOk, Nat.reduceLT, ↓reduceIte, eq_self]
      have hO0 : 0 < O.length → (O.getD 0 []).length = x.st.length := fun h => (truA_mem (hb2 _ (mem_getD O 0 [] h))).1
      refine vs_draw2 [0, 0, 0, 0, 0, 0, 0, 0, 0, 0, 0, 0, 0] [] [0, 1, 2, 3, 4, 5, 6, 7, 8, 9, 10, 11, 12] (by decide +kernel) ?_
      simp only [vsAll, binA, binLitA, intA, loadA, loadRow, partA, partOk, indexAddrA, lenA, opA, guardV, dstOk, Nat.reduceLT, Nat.reduceEqDiff, Int.reduceLE, Int.reduceToNat, ↓reduceIte, implies_true, eq_self, wtAll, llF_at]
      refine ⟨fun g => ⟨g, by have := of_decide_eq_true g; ((try clear hh_i0); omega)⟩, fun g => ⟨g, by have := of_decide_eq_true g; ((try clear hh_i0); omega)⟩, ?_⟩
      refine qgcall _ (fun g => ⟨by simp only [vsAll, opA], by simp only [vsAll, okAll, opsA, opA, Nat.reduceEqDiff, ↓reduceIte, eq_self, g], rwrong_tri x (O.getD 0 []) _ k (hO0 (by have := of_decide_eq_true g; ((try clear hh_i0); omega)))⟩) ?_
      simp only [vsAll, guardV, dstOk, Nat.reduceLT, Nat.reduceEqDiff, ↓reduceIte, eq_self]
      refine qgcall _ (fun g => ⟨by simp only [vsAll, opA], by simp only [vsAll, okAll, opsA, opA, ↓reduceIte, eq_self, g], size_tri (wrongT x (O.getD 0 [])) _ (by have := wrong_lt k (O.getD 0 []); ((try clear hh_i0); omega))⟩) ?_
      simp only [vsAll, binA, binLitA, intA, pickA, opA, guardV, dstOk, Nat.reduceLT, Nat.reduceEqDiff, ↓reduceIte, implies_true, eq_self]
      rw [clr_eq]
      refine condV (fun hc => ?_) (fun hc => ?_)
      · rw [if_pos hc] at eb
        have eb2 : bstN x (i + 1) = [t] := by rw [eb]; rfl
        simp only [vsAll, dstOk, nilA, Nat.reduceLT, Nat.reduceBEq, eq_self, wtAll]
        intro id2 hh_id2; (try simp only [ite_none] at hh_id2)
        refine vs_draw2 [0, 0, 0, 0, 0, 0, 0, 0, 0, 0, 0, 0, 0] [] [0, 1, 2, 3, 4, 5, 6, 7, 8, 9, 10, 11, 12] (by decide +kernel) ?_
        have hz0 : decide (((0 : Nat) : Int) = 0) = true := rfl
        simp only [vsAll, binA, binLitA, intA, loadA, loadRow, partA, partOk, indexAddrA, lenA, opA, guardV, dstOk, Nat.reduceLT, Nat.reduceEqDiff, Int.reduceLE, Int.reduceToNat, ↓reduceIte, implies_true, eq_self, wtAll, hz0]
        refine qgcall (i64 0) (fun g => by cases g) ?_
        simp only [vsAll, guardV, dstOk, Nat.reduceLT, Nat.reduceEqDiff, ↓reduceIte, eq_self]
        refine qgcall (i64 0) (fun g => by cases g) ?_
        simp only [vsAll, binA, binLitA, intA, loadA, loadRow, partA, partOk, indexAddrA, cellA, cellsA, okParts, buildSliceA, partIdx, elemsA, lensA, pickA, partsA, partsOk, opA, appendA, guardV, dstOk, nilSliceOp, Nat.reduceMul, Nat.reduceLT, Nat.reduceLeDiff, Nat.reduceEqDiff, Nat.reduceBEq, ↓reduceIte, eq_self, wtAll, llF_at, htt]
        refine ⟨by ((try clear hh_i0); (try clear hh_id2); omega), by ((try clear hh_i0); (try clear hh_id2); omega), fun q hq => by simp [okCells, cellA, show q = 0 by ((try clear hh_i0); (try clear hh_id2); omega)], by simp only [InR_i64]; ((try clear hh_i0); (try clear hh_id2); omega), loop_next (i + 1, id2) ⟨by simp only []; ((try clear hh_i0); (try clear hh_id2); omega), hh_id2.2⟩ (by simp only []; ((try clear hh_i0); (try clear hh_id2); omega)) ?_ ?_⟩
        · simp only [vsAll, Nat.reduceEqDiff, ↓reduceIte, eq_self, Int.natCast_add, Int.natCast_one, eb2]
        · rw [eb2]
          refine HSub.set (HSub_drop2 hh_id2.2 (HSub_drop2 hid HSub_rfl)) (row_ext fun q hq => ?_)
          have hq0 : q = 0 := by ((try clear hh_i0); (try clear hh_id2); omega)
          subst hq0
          rw [appF_at (by ((try clear hh_i0); (try clear hh_id2); omega))]
          rfl
      · rw [if_neg (by rw [hc]; decide)] at eb
        simp only [vsAll]
        refine vs_draw2 [0, 0, 0, 0, 0, 0, 0, 0, 0, 0, 0, 0, 0] [] [0, 1, 2, 3, 4, 5, 6, 7, 8, 9, 10, 11, 12] (by decide +kernel) ?_
        simp only [vsAll, binA, binLitA, intA, loadA, loadRow, partA, partOk, indexAddrA, lenA, opA, guardV, dstOk, Nat.reduceLT, Nat.reduceEqDiff, Int.reduceLE, Int.reduceToNat, ↓reduceIte, implies_true, eq_self, wtAll, llF_at]
        refine ⟨fun g => ⟨g, by have := of_decide_eq_false g; ((try clear hh_i0); omega)⟩, fun g => ⟨g, by have := of_decide_eq_false g; ((try clear hh_i0); omega)⟩, ?_⟩
        refine qgcall _ (fun g => ⟨by simp only [vsAll, opA], by simp only [vsAll, okAll, opsA, opA, Nat.reduceEqDiff, ↓reduceIte, eq_self, g], rwrong_tri x (O.getD 0 []) _ k (hO0 (by have := of_decide_eq_false ((Bool.not_eq_true' _).mp g); ((try clear hh_i0); omega)))⟩) ?_
        simp only [vsAll, guardV, dstOk, Nat.reduceLT, Nat.reduceEqDiff, ↓reduceIte, eq_self]
        refine qgcall _ (fun g => ⟨by simp only [vsAll, opA], by simp only [vsAll, okAll, opsA, opA, ↓reduceIte, eq_self, g], size_tri (wrongT x (O.getD 0 [])) _ (by have := wrong_lt k (O.getD 0 []); ((try clear hh_i0); omega))⟩) ?_
        simp only [vsAll, binA, binLitA, intA, pickA, opA, guardV, dstOk, Nat.reduceLT, Nat.reduceEqDiff, ↓reduceIte, implies_true, eq_self]
        rw [add_eq]
        refine condV (fun hc2 => ?_) (fun hc2 => ?_)
        · have eb2 : bstN x (i + 1) = O ++ [t] := by rw [eb]; exact if_pos hc2
          simp only [vsAll, binA, binLitA, intA, loadA, loadRow, partA, partOk, indexAddrA, cellA, cellsA, okParts, buildSliceA, partIdx, elemsA, lensA, partsA, partsOk, opA, appendA, dstOk, nilSliceOp, Nat.reduceMul, Nat.reduceLT, Nat.reduceLeDiff, Nat.reduceEqDiff, Nat.reduceBEq, ↓reduceIte, eq_self, wtAll, llF_at, htt]
          rw [app_ll O t _ rfl]
          refine ⟨by ((try clear hh_i0); omega), by ((try clear hh_i0); omega), fun q hq => by simp [okCells, cellA, show q = 0 by ((try clear hh_i0); omega)], by ((try clear hh_i0); omega), by ((try clear hh_i0); omega), by simp only [InR_i64]; ((try clear hh_i0); omega), loop_next (i + 1, id) ⟨by simp only []; ((try clear hh_i0); omega), hid⟩ (by simp only []; ((try clear hh_i0); omega)) ?_ ?_⟩
          · simp only [vsAll, Nat.reduceEqDiff, ↓reduceIte, eq_self, Int.natCast_add, Int.natCast_one, eb2, List.length_append]
          · rw [eb2]
            simp only [List.length_append, List.length_cons, List.length_nil, Nat.zero_add]
            rw [Hp.set_set]
            exact HSub.refl _
        · have eb2 : bstN x (i + 1) = O := by rw [eb]; exact if_neg (by rw [hc2]; decide)
          simp only [vsAll, binA, binLitA, intA, opA, dstOk, nilSliceOp, Nat.reduceLT, Nat.reduceEqDiff, Nat.reduceBEq, ↓reduceIte, eq_self]
          refine ⟨by simp only [InR_i64]; ((try clear hh_i0); omega), loop_next (i + 1, id) ⟨by simp only []; ((try clear hh_i0); omega), hid⟩ (by simp only []; ((try clear hh_i0); omega)) ?_ ?_⟩
          · simp only [vsAll, Nat.reduceEqDiff, ↓reduceIte, eq_self, Int.natCast_add, Int.natCast_one, eb2]
          · rw [eb2]
            exact HSub.refl _
    · have ei : i = (truA x).length := by ((try clear hh_i0); omega)
      subst ei
      simp only [vsAll, opA, dstOk, nilSliceOp, Nat.reduceLT, Nat.reduceEqDiff, Nat.reduceBEq, ↓reduceIte, eq_self]
      exact ret_freeze (t := 2) (by kernel_rfl) (by simp only [vsAll, ↓reduceIte, eq_self]) (Hp.set_same _ _ _) ⟨H, by rw [set_del hid]; exact HSub.refl _, rfl, rfl⟩
end Go.Proofs.Ytkonoggmdcdeeaa
end
section
set_option linter.unusedVariables false
set_option linter.unusedSimpArgs false
set_option maxHeartbeats 4000000
set_option maxRecDepth 100000
namespace Go.Proofs.Ytkonoggmdcdeeaa
open Go.V
theorem bst1_pos (x : Ir) (o : List (List Int)) (t : List Int) : 0 < (bst1 x o t).length := by
  unfold bst1
  split
  · rw [List.length_append]; simp
  · rename_i h
    apply Nat.lt_of_not_le
    intro h0
    apply h
    simp only [addB, show o.length = 0 by omega, decide_true, Bool.true_or]
theorem bestL_pos {x : Ir} (h : 0 < (truA x).length) : 0 < (bestL x).length := by
  unfold bestL
  obtain ⟨n, hn⟩ : ∃ n, (truA x).length = n + 1 := ⟨(truA x).length - 1, by omega⟩
  rw [hn]
  exact bst1_pos _ _ _
/-- The least set of false claims of the first ones. -/
def mnN (x : Ir) (L : List (List Int)) : Nat → Nat
  | 0 => wrongT x (L.getD 0 [])
  | i + 1 => min (mnN x L i) (wrongT x (L.getD i []))
def rfalP (x : Ir) : Nat × Nat := if falseE x = 0 then (pop (mnN x (bestL x) (bestL x).length), mnN x (bestL x) (bestL x).length) else (0, 0)
theorem mnN_lt {x : Ir} (k : Ok x) (L : List (List Int)) (i : Nat) : mnN x L i < 256 := by
  induction i with
  | zero => exact wrong_lt k _
  | succ i ih => have := wrong_lt k (L.getD i []); simp only [mnN]; omega
theorem rfalse_tri (x : Ir) (H : Hp) (kn : Near x) : PTri Try.prog (fnA 24) [x.av] H (.tuple [i64 ((rfalP x).1 : Nat), i64 ((rfalP x).2 : Nat), i64 (falseE x)]) := by
  refine tri_v0 (fun _ => false) Try.func24 (by kernel_rfl) rfl (by simp only [List.length_append, List.length_cons, List.length_nil, Try.ntmps24]; decide) ?_
  simp only [vsAll, loadA, loadRow, partA, partOk, boxA, okAll, stAll, opsA, opA, dstOk, nilSliceOp, argFr, Nat.reduceAdd, Nat.reduceLT, Nat.reduceEqDiff, ↓reduceIte, eq_self, wtAll, Try.ntmps24]
  refine callK_pure (rcheck_tri x true true _ kn) ?_
  have ee : errE x true true = falseE x := rfl
  simp only [vsAll, binA, binLitA, intA, opA, dstOk, nilSliceOp, Nat.reduceLT, ↓reduceIte, eq_self, ee]
  refine condV (fun hc => ?_) (fun hc => ?_)
  · rw [Bool.not_eq_true'] at hc
    have hc := of_decide_eq_false hc
    have e : rfalP x = (0, 0) := by simp only [rfalP, hc, if_false]
    simp only [vsAll, opA, dstOk, nilSliceOp, resA, retA.eq_2, Nat.reduceLT, Nat.reduceEqDiff, ↓reduceIte, eq_self, Try.results24, e, Int.natCast_zero]
  · rw [Bool.not_eq_false'] at hc
    have hc := of_decide_eq_true hc
    obtain ⟨k, _, ht⟩ := errE_zero hc
    have hp := bestL_pos (ht rfl)
    have hbm := (bstN_mem (x := x) (i := (truA x).length) (Nat.le_refl _))
    have hb1 : (bestL x).length ≤ (truA x).length := hbm.1
    have hb2 : ∀ t ∈ bestL x, t ∈ truA x := hbm.2
    have hl : (truA x).length ≤ 15625 := truS_len k (2 ^ x.st.length - 1)
    have e : rfalP x = (pop (mnN x (bestL x) (bestL x).length), mnN x (bestL x) (bestL x).length) := by simp only [rfalP, hc, if_true]
    simp only [vsAll, loadA, loadRow, partA, partOk, okAll, stAll, opsA, opA, dstOk, Nat.reduceLT, Nat.reduceEqDiff, ↓reduceIte, eq_self, wtAll]
    refine callK_pure (rbest_tri x _ k) ?_
    generalize bestL x = L at hp hb1 hb2 e ⊢
    have hL : ∀ i, i < L.length → (L.getD i []).length = x.st.length := fun i hi => (truA_mem (hb2 _ (mem_getD L i [] hi))).1
    simp only [vsAll, opA, dstOk, nilSliceOp, Nat.reduceLT, ↓reduceIte, eq_self]
    refine vs_draw2 [0, 0, 0, 0, 0, 0] [] [0, 1, 2, 3, 4, 5] (by decide +kernel) ?_
    simp only [vsAll, loadA, loadRow, partA, partOk, indexAddrA, opA, dstOk, Nat.reduceLT, Nat.reduceEqDiff, Int.reduceLE, Int.reduceToNat, ↓reduceIte, eq_self, wtAll, llF_at]
    refine ⟨by omega, by omega, ?_⟩
    refine qcall _ ⟨trivial, by simp only [vsAll, okAll, opsA, opA, Nat.reduceEqDiff, ↓reduceIte, eq_self], rwrong_tri x (L.getD 0 []) _ k (hL 0 hp)⟩ ?_
    simp only [vsAll, opA, dstOk, nilSliceOp, Nat.reduceLT, ↓reduceIte, eq_self]
    refine vs_loop (σ := Nat) (fun i => i ≤ L.length) (fun i => [(1, .rptr 1 5 (fun _ => x.cs) 0 0), (6, llAV L), (7, i64 (mnN x L i : Nat)), (8, i64 i)]) (fun _ => H) (fun i => L.length - i) 0 (by omega) ?_ (HSub.refl _) fun i hi => ?_
    · simp only [vsAll, Nat.reduceEqDiff, ↓reduceIte, eq_self, Int.natCast_zero, mnN]
    · simp only [vsAll, binA, binLitA, intA, lenA, opA, dstOk, Nat.reduceLT, Nat.reduceEqDiff, ↓reduceIte, eq_self, wtAll]
      refine condD (fun hd => ?_) (fun hd => ?_)
      · have ew : min ((mnN x L i : Nat) : Int) ((wrongT x (L.getD i []) : Nat) : Int) = ((mnN x L (i + 1) : Nat) : Int) := by simp only [mnN]; omega
        simp only [vsAll]
        refine vs_draw2 [0, 0, 0, 0, 0, 0, 0, 0, 1] [([0, 1, 2, 3, 4, 5, 6, 7], [], 8)] [] (by decide +kernel) ?_
        simp only [vsAll, loadA, loadRow, partA, partOk, indexAddrA, opA, dstOk, Nat.reduceLT, Nat.reduceEqDiff, ↓reduceIte, eq_self, wtAll, llF_at]
        refine ⟨by omega, by omega, ?_⟩
        refine qcall _ ⟨trivial, by simp only [vsAll, okAll, opsA, opA, Nat.reduceEqDiff, ↓reduceIte, eq_self], rwrong_tri x (L.getD i []) _ k (hL i (by omega))⟩ ?_
        simp only [vsAll, binA, binLitA, intA, mmA, okAll, stAll, opsA, opA, dstOk, nilSliceOp, Nat.reduceLT, Nat.reduceEqDiff, ↓reduceIte, eq_self, ew]
        refine ⟨by simp only [InR_i64]; omega, loop_next (i + 1) (by omega) (by omega) ?_ (HSub.refl _)⟩
        simp only [vsAll, Nat.reduceEqDiff, ↓reduceIte, eq_self, Int.natCast_add, Int.natCast_one]
      · have ei : i = L.length := by omega
        subst ei
        have hm := mnN_lt k L L.length
        simp only [vsAll, okAll, stAll, opsA, opA, dstOk, Nat.reduceLT, Nat.reduceEqDiff, ↓reduceIte, eq_self]
        refine callK_pure (size_tri (mnN x L L.length) _ (by omega)) ?_
        simp only [vsAll, opA, dstOk, nilSliceOp, resA, retA.eq_2, Nat.reduceLT, Nat.reduceEqDiff, ↓reduceIte, eq_self, Try.results24, e, hc]
def rlikV (x : Ir) (s : Int) : Nat := if likE x s = 0 then who (bestL x) s.toNat else 0
theorem rlikely_tri (x : Ir) (s : Int) (H : Hp) (kn : Near x) : PTri Try.prog (fnA 26) [x.av, i64 s] H (.tuple [i64 (rlikV x s : Nat), i64 (likE x s)]) := by
  refine tri_v0 (fun _ => false) Try.func26 (by kernel_rfl) rfl (by simp only [List.length_append, List.length_cons, List.length_nil, Try.ntmps26]; decide) ?_
  simp only [vsAll, boxA, opA, dstOk, nilSliceOp, argFr, Nat.reduceAdd, Nat.reduceLT, eq_self, Try.ntmps26]
  refine vs_draw2 [0, 0, 0, 0, 0, 0] [] [0, 1, 2, 3, 4, 5] (by decide +kernel) ?_
  simp only [vsAll, loadA, loadRow, partA, partOk, opA, dstOk, argFr, Nat.reduceLT, Nat.reduceEqDiff, ↓reduceIte, eq_self, wtAll]
  refine qcall _ ⟨trivial, by simp only [vsAll, okAll, opsA, opA, Nat.reduceEqDiff, ↓reduceIte, eq_self], strake_tri x s _ kn⟩ ?_
  simp only [vsAll, dstOk, Nat.reduceLT, eq_self]
  refine qcall _ ⟨trivial, by simp only [vsAll, okAll, opsA, opA, Nat.reduceEqDiff, ↓reduceIte, eq_self], rcheck_tri x _ true _ kn⟩ ?_
  have ee : errE x (decide (0 ≤ s) && decide (s ≤ (x.st.length : Int) - 1)) true = likE x s := rfl
  simp only [vsAll, binA, binLitA, intA, opA, dstOk, Nat.reduceLT, ↓reduceIte, eq_self, ee]
  refine condV (fun hc => ?_) (fun hc => ?_)
  · rw [Bool.not_eq_true'] at hc
    have hc := of_decide_eq_false hc
    have e : rlikV x s = 0 := by simp only [rlikV, hc, if_false]
    simp only [vsAll, opA, dstOk, nilSliceOp, resA, retA.eq_2, Nat.reduceLT, Nat.reduceEqDiff, ↓reduceIte, eq_self, Try.results26, e, Int.natCast_zero]
  · rw [Bool.not_eq_false'] at hc
    have hc := of_decide_eq_true hc
    obtain ⟨k, hv, _⟩ := errE_zero hc
    rw [strB_iff] at hv
    have nO := k.nO
    obtain ⟨q, rfl⟩ : ∃ q : Nat, s = (q : Int) := ⟨s.toNat, by omega⟩
    have e : rlikV x (q : Int) = who (bestL x) q := by simp only [rlikV, hc, if_true, Int.toNat_natCast]
    have hl : (truA x).length ≤ 15625 := truS_len k (2 ^ x.st.length - 1)
    have hbm := (bstN_mem (x := x) (i := (truA x).length) (Nat.le_refl _))
    have hb1 : (bestL x).length ≤ (truA x).length := hbm.1
    have hb2 : ∀ t ∈ bestL x, t ∈ truA x := hbm.2
    simp only [vsAll, loadA, loadRow, partA, partOk, okAll, stAll, opsA, opA, dstOk, Nat.reduceLT, Nat.reduceEqDiff, ↓reduceIte, eq_self, wtAll]
    refine callK_pure (rbest_tri x _ k) ?_
    simp only [vsAll, okAll, stAll, opsA, opA, dstOk, argFr, Nat.reduceLT, Nat.reduceEqDiff, ↓reduceIte, eq_self]
    refine callK_pure (rwho_tri (bestL x) q _ (by omega) (fun t ht => by rw [(truA_mem (hb2 t ht)).1]; omega) (fun t ht => ?_)) ?_
    · obtain ⟨o, h1, h2⟩ := (truA_mem (hb2 t ht)).2 q (by omega)
      exact ⟨o, by omega, h2⟩
    simp only [vsAll, opA, dstOk, nilSliceOp, resA, retA.eq_2, Nat.reduceLT, Nat.reduceEqDiff, ↓reduceIte, eq_self, Try.results26, e, hc]
end Go.Proofs.Ytkonoggmdcdeeaa
end
section
set_option linter.unusedVariables false
set_option linter.unusedSimpArgs false
namespace Go.Proofs.Ytkonoggmdcdeeaa
open Go.V
def moreK (x : Ir) (C k : Nat) (s : Nat) (o : Int) (r : Nat × Nat) : Nat × Nat := (r.1 + (wrO x C s o k).1, r.2 + (wrO x C s o k).2)
/-- A claim is false, and of one of these strakes. -/
def flB (x : Ir) (C k s : Nat) (t : List Int) : Bool := decide (s ≤ (x.cl.getD k cl0).s.toNat ∧ (x.cl.getD k cl0).s.toNat < s + t.length) && C.testBit k && !rightO (x.cl.getD k cl0) (t.getD ((x.cl.getD k cl0).s.toNat - s) 0)
theorem valK_succ (x : Ir) (C k : Nat) (hc : 0 ≤ (x.cl.getD k cl0).s) (t : List Int) : ∀ s, valT (0, 0) (moreK x C (k + 1)) s t = if flB x C k s t = true then ((valT (0, 0) (moreK x C k) s t).1 + 1, (valT (0, 0) (moreK x C k) s t).2 + 2 ^ k) else valT (0, 0) (moreK x C k) s t := by
  induction t with
  | nil =>
    intro s
    have : flB x C k s [] = false := by simp only [flB, List.length_nil, Nat.add_zero]; rw [decide_eq_false (by omega)]; rfl
    rw [this]; rfl
  | cons o t ih =>
    intro s
    simp only [valT, ih (s + 1)]
    have hwr : wrO x C s o (k + 1) = if wrB x C s o k = true then ((wrO x C s o k).1 + 1, (wrO x C s o k).2 + 2 ^ k) else wrO x C s o k := rfl
    by_cases e : (x.cl.getD k cl0).s.toNat = s
    · have h1 : flB x C k (s + 1) t = false := by
        simp only [flB]; rw [decide_eq_false (by omega)]; rfl
      have h2 : flB x C k s (o :: t) = wrB x C s o k := by
        simp only [flB, wrB, List.length_cons]
        rw [decide_eq_true (by omega), e, Nat.sub_self, List.getD_cons_zero, decide_eq_true (by omega : (x.cl.getD k cl0).s = (s : Int))]
      rw [h1, h2, if_neg (by decide)]
      simp only [moreK, hwr]
      split <;> simp only [Nat.add_assoc]
    · have h1 : flB x C k s (o :: t) = flB x C k (s + 1) t := by
        simp only [flB, List.length_cons]
        by_cases q : s + 1 ≤ (x.cl.getD k cl0).s.toNat
        · obtain ⟨d, hd⟩ : ∃ d, (x.cl.getD k cl0).s.toNat - s = d + 1 := ⟨(x.cl.getD k cl0).s.toNat - s - 1, by omega⟩
          rw [hd, List.getD_cons_succ, show (x.cl.getD k cl0).s.toNat - (s + 1) = d by omega]
          rw [show decide (s ≤ (x.cl.getD k cl0).s.toNat ∧ (x.cl.getD k cl0).s.toNat < s + (t.length + 1)) = decide (s + 1 ≤ (x.cl.getD k cl0).s.toNat ∧ (x.cl.getD k cl0).s.toNat < s + 1 + t.length) from decide_eq_decide.2 (by omega)]
        · rw [decide_eq_false (by omega), decide_eq_false (by omega)]; rfl
      have h2 : wrB x C s o k = false := by
        simp only [wrB]; rw [decide_eq_false (by omega)]; rfl
      rw [h1]
      simp only [moreK, hwr, h2, Bool.false_eq_true, if_false]
      split <;> simp only [Nat.add_right_comm]
theorem pop_add : ∀ k, k < 8 → ∀ a, a < 256 → a < 2 ^ k → pop (a + 2 ^ k) = pop a + 1 := by decide +kernel
theorem valK_wrong {x : Ir} (k : Ok x) {t : List Int} (ht : t.length = x.st.length) : ∀ n, n ≤ x.cl.length → valT (0, 0) (moreK x (fullC x) n) 0 t = (pop (wrongN x t n), wrongN x t n) := by
  intro n
  induction n with
  | zero =>
    intro _
    have : ∀ (t : List Int) s, valT (0, 0) (moreK x (fullC x) 0) s t = (0, 0) := by
      intro t
      induction t with
      | nil => intro s; rfl
      | cons o t ih => intro s; simp only [valT, ih]; rfl
    have p0 : pop 0 = 0 := popN_zero 64
    rw [this]
    simp only [wrongN, p0]
  | succ n ih =>
    intro hn
    have hc := k.cs n (by omega)
    have nC := k.nC
    have hw := wrongN_lt x t n
    have hp : 2 ^ n ≤ 2 ^ 7 := Nat.pow_le_pow_right (by decide) (by omega)
    rw [valK_succ x (fullC x) n hc.1, ih (by omega)]
    have hf : flB x (fullC x) n 0 t = !rightT x t n := by
      simp only [flB, rightT, Nat.sub_zero]
      rw [decide_eq_true (by omega), full_bit _ _ (by omega)]
      rfl
    rw [hf]
    simp only [wrongN]
    cases rightT x t n with
    | true => simp
    | false =>
      simp only [Bool.not_false, if_true, Bool.false_eq_true, if_false]
      rw [pop_add n (by omega) _ (by omega) hw]
theorem val_wrong {x : Ir} (k : Ok x) {t : List Int} (ht : t.length = x.st.length) : valT (0, 0) (moreL x (fullC x)) 0 t = (popW x t, wrongT x t) := valK_wrong k ht _ (Nat.le_refl _)

theorem foldJ_min (l : List (Nat × Nat)) : ∀ m, foldJ joinL l = some m → m ∈ l ∧ ∀ y ∈ l, lessB y m = false := by
  induction l with
  | nil => intro m h; cases h
  | cons a l ih =>
    intro m h
    simp only [foldJ] at h
    have irr : lessB a a = false := by rw [← Bool.not_eq_true, lessB_iff]; omega
    cases hl : foldJ joinL l with
    | none =>
      rw [hl] at h
      simp only [comb, Option.some.injEq] at h
      subst h
      have := (foldJ_none l).1 hl
      subst this
      exact ⟨by simp, fun y hy => by simp at hy; subst hy; exact irr⟩
    | some b =>
      rw [hl] at h
      simp only [comb, Option.some.injEq] at h
      obtain ⟨h1, h2⟩ := ih b hl
      unfold joinL at h
      by_cases q : lessB b a = true
      · rw [if_pos q] at h
        subst h
        refine ⟨by simp [h1], fun y hy => ?_⟩
        rcases List.mem_cons.1 hy with rfl | hy
        · rw [← Bool.not_eq_true, lessB_iff]
          have := (lessB_iff _ _).1 q
          omega
        · exact h2 y hy
      · rw [if_neg q] at h
        subst h
        refine ⟨by simp, fun y hy => ?_⟩
        rcases List.mem_cons.1 hy with rfl | hy
        · exact irr
        · have h3 := h2 y hy
          rw [← Bool.not_eq_true, lessB_iff] at h3 ⊢
          have q2 : ¬ (b.1 < a.1 ∨ b.1 = a.1 ∧ b.2 < a.2) := fun p => q ((lessB_iff _ _).2 p)
          omega
end Go.Proofs.Ytkonoggmdcdeeaa
end
section
set_option linter.unusedVariables false
set_option linter.unusedSimpArgs false
namespace Go.Proofs.Ytkonoggmdcdeeaa
open Go.V
theorem bst1_mem {x : Ir} {o : List (List Int)} {t y : List Int} : y ∈ bst1 x o t ↔ y ∈ o ∨ (addB x o t = true ∧ y = t) := by
  unfold bst1
  split
  · rename_i h; simp [h]
  · rename_i h; simp [h]
theorem bstN_spec (x : Ir) : ∀ i, i ≤ (truA x).length → (0 < i → 0 < (bstN x i).length) ∧ (∀ t ∈ bstN x i, ∀ t' ∈ (truA x).take i, popW x t ≤ popW x t') ∧ ∀ t ∈ (truA x).take i, (∀ t' ∈ (truA x).take i, popW x t ≤ popW x t') → t ∈ bstN x i := by
  intro i
  induction i with
  | zero => intro _; exact ⟨fun h => absurd h (by omega), fun t h => by simp [bstN] at h, fun t h => by simp at h⟩
  | succ i ih =>
    intro hi
    obtain ⟨h0, h1, h2⟩ := ih (by omega)
    have hm := (bstN_mem (x := x) (i := i) (by omega)).2
    have ht : (truA x).take (i + 1) = (truA x).take i ++ [(truA x).getD i []] := take_snoc _ i [] (by omega)
    have eb : bstN x (i + 1) = bst1 x (if clrB x (bstN x i) ((truA x).getD i []) = true then [] else bstN x i) ((truA x).getD i []) := rfl
    rw [ht]
    generalize (truA x).getD i [] = w at *
    generalize (truA x).take i = L at *
    refine ⟨fun _ => by rw [eb]; exact bst1_pos _ _ _, ?_⟩
    by_cases hz : i = 0
    · subst hz
      have hL : ∀ y, y ∈ bstN x 0 ↔ False := fun y => by simp [bstN]
      have hl0 : L = [] := by
        cases L with
        | nil => rfl
        | cons a L =>
          exfalso
          have := congrArg List.length ht
          simp at this
          omega
      subst hl0
      have e2 : bstN x 1 = [w] := by
        rw [eb]
        have : (if clrB x (bstN x 0) w = true then ([] : List (List Int)) else bstN x 0) = [] := by split <;> rfl
        rw [this]; rfl
      rw [e2]
      refine ⟨fun t h t' h' => ?_, fun t h _ => h⟩
      simp at h h'
      subst h h'
      exact Nat.le_refl _
    · have hpos := h0 (by omega)
      have hd : (bstN x i).getD 0 [] ∈ bstN x i := mem_getD _ 0 [] hpos
      have hmin := h1 _ hd
      have hall : ∀ y ∈ bstN x i, popW x y = popW x ((bstN x i).getD 0 []) ∨ True := fun _ _ => .inr trivial
      by_cases hc : clrB x (bstN x i) w = true
      · rw [if_pos hc] at eb
        simp only [clrB, Bool.and_eq_true, decide_eq_true_eq] at hc
        have e2 : bstN x (i + 1) = [w] := by rw [eb]; rfl
        rw [e2]
        refine ⟨fun t h t' h' => ?_, fun t h hle => ?_⟩
        · rw [List.mem_singleton] at h; subst h
          rcases List.mem_append.1 h' with h' | h'
          · have := hmin t' h'; omega
          · rw [List.mem_singleton] at h'; subst h'; exact Nat.le_refl _
        · rcases List.mem_append.1 h with h | h
          · have q1 := hmin t h
            have q2 := hle w (by simp)
            omega
          · exact h
      · rw [if_neg hc] at eb
        simp only [clrB, Bool.and_eq_true, decide_eq_true_eq] at hc
        have hge : popW x ((bstN x i).getD 0 []) ≤ popW x w := by
          apply Nat.le_of_not_lt
          intro q
          exact hc ⟨hpos, q⟩
        have hadd : addB x (bstN x i) w = true ↔ popW x w = popW x ((bstN x i).getD 0 []) := by
          simp only [addB, Bool.or_eq_true, decide_eq_true_eq]
          constructor
          · rintro (q | q)
            · omega
            · exact q
          · exact .inr
        rw [eb]
        refine ⟨fun t h t' h' => ?_, fun t h hle => ?_⟩
        · have hb : popW x t ≤ popW x ((bstN x i).getD 0 []) ∧ ∀ q ∈ L, popW x t ≤ popW x q := by
            rcases bst1_mem.1 h with h | ⟨q, rfl⟩
            · refine ⟨?_, h1 t h⟩
              by_cases e : (bstN x i).getD 0 [] ∈ L
              · exact h1 t h _ e
              · exfalso
                -- every likely one is among the first
                have : ∀ j, j ≤ (truA x).length → ∀ y ∈ bstN x j, y ∈ (truA x).take j := by
                  intro j
                  induction j with
                  | zero => intro _ y hy; simp [bstN] at hy
                  | succ j ihj =>
                    intro hj y hy
                    rw [take_snoc _ j [] (by omega)]
                    simp only [bstN] at hy
                    rcases bst1_mem.1 hy with hy | ⟨_, rfl⟩
                    · split at hy
                      · simp at hy
                      · exact List.mem_append_left _ (ihj (by omega) y hy)
                    · simp
                have hL : L = (truA x).take i := by
                  have h3 := congrArg (fun l => l.take i) ht
                  simp only [List.take_take, Nat.min_eq_left (Nat.le_succ i)] at h3
                  have hlen : L.length = i := by
                    have := congrArg List.length ht
                    simp at this
                    omega
                  rw [h3, List.take_append_of_le_length (by omega), List.take_of_length_le (by omega)]
                exact e (hL ▸ this i (by omega) _ hd)
            · exact ⟨Nat.le_of_eq (hadd.1 q), fun y hy => by rw [hadd.1 q]; exact hmin y hy⟩
          rcases List.mem_append.1 h' with h' | h'
          · exact hb.2 t' h'
          · rw [List.mem_singleton] at h'; subst h'; omega
        · rcases List.mem_append.1 h with h | h
          · exact bst1_mem.2 (.inl (h2 t h fun t' h' => hle t' (List.mem_append_left _ h')))
          · rw [List.mem_singleton] at h
            subst h
            have hmem : (bstN x i).getD 0 [] ∈ L ++ [t] := by
              have := hm _ hd
              by_cases e : (bstN x i).getD 0 [] ∈ L
              · exact List.mem_append_left _ e
              · exfalso
                have key : ∀ j, j ≤ (truA x).length → ∀ y ∈ bstN x j, y ∈ (truA x).take j := by
                  intro j
                  induction j with
                  | zero => intro _ y hy; simp [bstN] at hy
                  | succ j ihj =>
                    intro hj y hy
                    rw [take_snoc _ j [] (by omega)]
                    simp only [bstN] at hy
                    rcases bst1_mem.1 hy with hy | ⟨_, rfl⟩
                    · split at hy
                      · simp at hy
                      · exact List.mem_append_left _ (ihj (by omega) y hy)
                    · simp
                have hL : L = (truA x).take i := by
                  have h3 := congrArg (fun l => l.take i) ht
                  simp only [List.take_take, Nat.min_eq_left (Nat.le_succ i)] at h3
                  have hlen : L.length = i := by
                    have := congrArg List.length ht
                    simp at this
                    omega
                  rw [h3, List.take_append_of_le_length (by omega), List.take_of_length_le (by omega)]
                exact e (hL ▸ key i (by omega) _ hd)
            exact bst1_mem.2 (.inr ⟨hadd.2 (Nat.le_antisymm (hle _ hmem) hge), rfl⟩)
theorem bestL_iff {x : Ir} {t : List Int} : t ∈ bestL x ↔ t ∈ truA x ∧ ∀ t' ∈ truA x, popW x t ≤ popW x t' := by
  have h := bstN_spec x (truA x).length (Nat.le_refl _)
  rw [List.take_length] at h
  exact ⟨fun h' => ⟨(bstN_mem (x := x) (Nat.le_refl _)).2 t h', h.2.1 t h'⟩, fun h' => h.2.2 t h'.1 h'.2⟩
end Go.Proofs.Ytkonoggmdcdeeaa
end
section
set_option linter.unusedVariables false
set_option linter.unusedSimpArgs false
namespace Go.Proofs.Ytkonoggmdcdeeaa
open Go.V
theorem tlW_truth {x : Ir} (k : Ok x) : tlW x (fullS x) (fullC x) false = foldJ joinL ((truA x).map fun t => (popW x t, wrongT x t)) := by
  have h : truA x = cont x (fullS x) (fullC x) false x.st.length 0 u0 := truS_cont x (fullS x) (fullC x) k.gd
  have e : (truA x).map (valT (0, 0) (moreL x (fullC x)) 0) = (truA x).map fun t => (popW x t, wrongT x t) := List.map_congr_left fun t ht => val_wrong k (truA_mem ht).1
  rw [tlW_eq, ← h, e]
theorem mnN_spec (x : Ir) (L : List (List Int)) (h : 0 < L.length) : ∀ i, i ≤ L.length → (∃ t ∈ L, wrongT x t = mnN x L i) ∧ ∀ t ∈ L.take i, mnN x L i ≤ wrongT x t := by
  intro i
  induction i with
  | zero => intro _; exact ⟨⟨_, mem_getD L 0 [] h, rfl⟩, fun t ht => by simp at ht⟩
  | succ i ih =>
    intro hi
    obtain ⟨⟨t, h1, h2⟩, h3⟩ := ih (by omega)
    simp only [mnN]
    rw [take_snoc L i [] (by omega)]
    have hw : (min (mnN x L i) (wrongT x (L.getD i []))) ≤ mnN x L i ∧ (min (mnN x L i) (wrongT x (L.getD i []))) ≤ wrongT x (L.getD i []) := by omega
    refine ⟨?_, fun y hy => ?_⟩
    · by_cases q : mnN x L i ≤ wrongT x (L.getD i [])
      · exact ⟨t, h1, by rw [h2]; omega⟩
      · exact ⟨_, mem_getD L i [] (by omega), by omega⟩
    · rcases List.mem_append.1 hy with hy | hy
      · exact Nat.le_trans hw.1 (h3 y hy)
      · rw [List.mem_singleton] at hy; subst hy; exact hw.2
theorem false_eq (x : Ir) : falseP x = rfalP x := by
  unfold falseP rfalP
  by_cases hc : falseE x = 0
  · rw [if_pos hc, if_pos hc]
    obtain ⟨k, _, ht⟩ := errE_zero hc
    have hp := ht rfl
    rw [tlW_truth k]
    cases hf : foldJ joinL ((truA x).map fun t => (popW x t, wrongT x t)) with
    | none =>
      have := (foldJ_none _).1 hf
      rw [List.map_eq_nil_iff] at this
      rw [this] at hp
      simp at hp
    | some m =>
      obtain ⟨h1, h2⟩ := foldJ_min _ m hf
      obtain ⟨t0, ht0, rfl⟩ := List.mem_map.1 h1
      have hmin : ∀ t ∈ truA x, popW x t0 < popW x t ∨ popW x t0 = popW x t ∧ wrongT x t0 ≤ wrongT x t := fun t ht => by
        have := h2 _ (List.mem_map.2 ⟨t, ht, rfl⟩)
        rw [← Bool.not_eq_true, lessB_iff] at this
        simp only [] at this
        omega
      have hb0 : t0 ∈ bestL x := bestL_iff.2 ⟨ht0, fun t' h' => by have := hmin t' h'; omega⟩
      obtain ⟨⟨t1, ht1, e1⟩, hle⟩ := mnN_spec x (bestL x) (bestL_pos hp) _ (Nat.le_refl _)
      rw [List.take_length] at hle
      have hb1 := bestL_iff.1 ht1
      have q1 := hle t0 hb0
      have q2 := hmin t1 hb1.1
      have q3 := hb1.2 t0 ht0
      have e : wrongT x t0 = mnN x (bestL x) (bestL x).length := by omega
      rw [Option.getD_some, popW, e]
  · rw [if_neg hc, if_neg hc]

theorem fitB_with {x : Ir} (k : Ok x) {s o o' s' : Nat} (ho : o' < x.ow.length) (hs : s' < x.st.length) : fitB (withI x s o) o' s' = (fitB x o' s' && (decide (s' ≠ s) || decide (o' = o))) := by
  have hfl := k.ow o' ho
  unfold fitB
  rw [withI_ow ho, withI_st hs]
  have hold : (x.st.getD s' []).all (fitM (owW x o o')) = (x.st.getD s' []).all (fitM (x.ow.getD o' [])) := by
    rw [Bool.eq_iff_iff, List.all_eq_true, List.all_eq_true]
    have hm : ∀ m ∈ x.st.getD s' [], fitM (owW x o o') m = fitM (x.ow.getD o' []) m := fun m hm => by
      obtain ⟨i, hi, rfl⟩ := List.getElem_of_mem hm
      have hsf := k.sf s' hs i hi
      have e1 : (x.st.getD s' []).getD i mk0 = (x.st.getD s' [])[i] := by rw [List.getD_eq_getElem?_getD, List.getElem?_eq_getElem hi]; rfl
      rw [e1] at hsf
      unfold fitM
      rw [owW, getD_snoc, if_neg (by omega)]
    exact ⟨fun h m hm' => by rw [← hm m hm']; exact h m hm', fun h m hm' => by rw [hm m hm']; exact h m hm'⟩
  unfold stW
  by_cases e : s' = s
  · rw [if_pos e, List.all_append, hold]
    congr 1
    rw [show decide (s' ≠ s) = false from decide_eq_false (by simp [e]), Bool.false_or]
    simp only [List.all_cons, List.all_nil, Bool.and_true, fitM]
    have eg : (owW x o o').getD x.F.toNat 0 = if o' = o then 1 else 0 := by
      rw [owW, getD_snoc, if_pos (by omega)]
    rw [eg]
    by_cases e2 : o' = o
    · rw [if_pos e2, decide_eq_true e2]; rfl
    · rw [if_neg e2, decide_eq_false e2]; rfl
  · rw [if_neg e, hold, show decide (s' ≠ s) = true from decide_eq_true e, Bool.true_or, Bool.and_true]
theorem filter_flat {α β : Type} (p : β → Bool) (f : α → List β) (l : List α) : (l.flatMap f).filter p = l.flatMap fun a => (f a).filter p := by
  induction l with
  | nil => rfl
  | cons a l ih => simp only [List.flatMap_cons, List.filter_append, ih]
theorem flat_congr {α β : Type} {f g : α → List β} : ∀ {l : List α}, (∀ a ∈ l, f a = g a) → l.flatMap f = l.flatMap g
  | [], _ => rfl
  | a :: l, h => by
    simp only [List.flatMap_cons, h a (by simp), flat_congr (l := l) fun b hb => h b (by simp [hb])]
theorem tru_with {x : Ir} (k : Ok x) {s o : Nat} (hs : s < x.st.length) (ho : o < x.ow.length) (S : Nat) (hS : ∀ j, j < x.st.length → S.testBit j = true) :
    ∀ n b, b.length + n = x.st.length → tru (withI x s o) S n b = (tru x S n b).filter fun t => decide (s < b.length) || decide (t.getD s 0 = (o : Int)) := by
  have lo : (withI x s o).ow.length = x.ow.length := by simp [withI]
  intro n
  induction n with
  | zero =>
    intro b hb
    simp only [tru]
    rw [List.filter_cons_of_pos (by rw [decide_eq_true (by omega)]; rfl)]
    rfl
  | succ n ih =>
    intro b hb
    have hbit := hS b.length (by omega)
    simp only [tru, hbit, if_true, lo]
    rw [filter_flat]
    refine flat_congr fun o' ho' => ?_
    rw [List.mem_range] at ho'
    have hcan : canO (withI x s o) b o' = (canO x b o' && (decide (b.length ≠ s) || decide (o' = o))) := by
      simp only [canO, fitB_with k ho' (show b.length < x.st.length by omega)]
      rw [show (withI x s o).mo = x.mo from rfl, Bool.and_assoc, Bool.and_assoc, Bool.and_comm (decide _ || decide _)]
    rw [hcan]
    have hlen : (b ++ [(o' : Int)]).length = b.length + 1 := by simp
    by_cases hc : canO x b o' = true
    · rw [hc, Bool.true_and, if_pos rfl]
      have hm : ∀ t ∈ tru x S n (b ++ [(o' : Int)]), t.getD b.length 0 = (o' : Int) := fun t ht => by
        rw [(tru_mem ht).2.1 b.length (by omega), getD_snoc, if_pos rfl]
      by_cases e : b.length = s
      · have e1 : decide (b.length ≠ s) = false := decide_eq_false (by simp [e])
        rw [e1, Bool.false_or]
        by_cases e2 : o' = o
        · rw [if_pos (by rw [decide_eq_true e2]), ih _ (by omega)]
          subst e2
          rw [List.filter_eq_self.2 fun t ht => by rw [decide_eq_true (by omega)]; rfl]
          rw [List.filter_eq_self.2 fun t ht => by rw [← e, decide_eq_true (hm t ht)]; simp]
        · rw [if_neg (by rw [decide_eq_false e2]; decide)]
          rw [List.filter_eq_nil_iff.2]
          intro t ht
          have := hm t ht
          rw [e] at this
          rw [decide_eq_false (by omega), decide_eq_false (by omega)]
          decide
      · rw [if_pos (by rw [decide_eq_true e]; rfl), ih _ (by omega)]
        congr 1
        funext t
        rw [hlen]
        by_cases q : s < b.length
        · rw [decide_eq_true q, decide_eq_true (by omega : s < b.length + 1)]
        · rw [decide_eq_false q, decide_eq_false (by omega : ¬ s < b.length + 1)]
    · rw [Bool.not_eq_true] at hc
      rw [hc, Bool.false_and]
      rfl
theorem truA_with {x : Ir} (k : Ok x) {s o : Nat} (hs : s < x.st.length) (ho : o < x.ow.length) : truS (withI x s o) (fullS x) = (truA x).filter fun t => decide (t.getD s 0 = (o : Int)) := by
  have ls : (withI x s o).st.length = x.st.length := by simp [withI]
  have h := tru_with k hs ho (fullS x) (fun j hj => full_bit _ _ hj) x.st.length [] (by simp)
  rw [truS, ls, h]
  congr 1
end Go.Proofs.Ytkonoggmdcdeeaa
end
section
set_option linter.unusedVariables false
set_option linter.unusedSimpArgs false
namespace Go.Proofs.Ytkonoggmdcdeeaa
open Go.V
theorem tru_fit {x : Ir} {S : Nat} : ∀ {n : Nat} {b t : List Int}, t ∈ tru x S n b → ∀ j, b.length ≤ j → j < b.length + n → S.testBit j = true → fitB x (t.getD j 0).toNat j = true := by
  intro n
  induction n with
  | zero => intro b t _ j h1 h2; omega
  | succ n ih =>
    intro b t h j h1 h2 hj
    cases hb : S.testBit b.length with
    | true =>
      rw [tru_yes hb, truP_mem] at h
      obtain ⟨o, ho, hc, h⟩ := h
      by_cases e : j = b.length
      · subst e
        have := (tru_mem h).2.1 b.length (by simp)
        rw [this, getD_snoc, if_pos rfl, Int.toNat_natCast]
        simp only [canO, Bool.and_eq_true] at hc
        exact hc.1
      · exact ih h j (by simp; omega) (by simp; omega) hj
    | false =>
      rw [tru_no hb] at h
      by_cases e : j = b.length
      · subst e; rw [hb] at hj; cases hj
      · exact ih h j (by simp; omega) (by simp; omega) hj
theorem likN_bit (x : Ir) (s n o : Nat) : (likN x s n).testBit o = (decide (o < n) && likB x s o) := by
  induction n with
  | zero => simp [likN]
  | succ n ih =>
    have hlt := likN_lt x s n
    simp only [likN]
    by_cases h : likB x s n = true
    · rw [if_pos h, ← or_bit _ _ hlt, Nat.testBit_or, ih, Nat.testBit_two_pow]
      by_cases e : n = o
      · subst e; simp [h]
      · rw [decide_eq_false e, Bool.or_false]
        congr 1
        exact decide_eq_decide.2 (by omega)
    · rw [if_neg h, Nat.add_zero, ih]
      by_cases e : n = o
      · subst e
        rw [Bool.not_eq_true] at h
        simp [h]
      · congr 1
        exact decide_eq_decide.2 (by omega)
theorem wrO_with (x : Ir) (s o C s' : Nat) (o' : Int) (n : Nat) : wrO (withI x s o) C s' o' n = wrO x C s' o' n := by
  induction n with
  | zero => rfl
  | succ n ih =>
    simp only [wrO, ih]
    rfl
theorem tlW_with {x : Ir} (k : Ok x) {s o : Nat} (hs : s < x.st.length) (ho : o < x.ow.length) : tlW (withI x s o) (fullS x) (fullC x) false = foldJ joinL (((truA x).filter fun t => decide (t.getD s 0 = (o : Int))).map fun t => (popW x t, wrongT x t)) := by
  have h : truS (withI x s o) (fullS x) = cont (withI x s o) (fullS x) (fullC x) false (withI x s o).st.length 0 u0 := truS_cont (withI x s o) (fullS x) (fullC x) (withI_gd k s o)
  have em : moreL (withI x s o) (fullC x) = moreL x (fullC x) := by
    funext s' o' r
    simp only [moreL]
    rw [show (withI x s o).cl = x.cl from rfl, wrO_with]
  rw [tlW_eq, ← h, em, truA_with k hs ho]
  have e : ((truA x).filter fun t => decide (t.getD s 0 = (o : Int))).map (valT (0, 0) (moreL x (fullC x)) 0) = ((truA x).filter fun t => decide (t.getD s 0 = (o : Int))).map fun t => (popW x t, wrongT x t) :=
    List.map_congr_left fun t ht => val_wrong k (truA_mem (List.mem_filter.1 ht).1).1
  rw [e]
theorem foldJ_some {l : List (Nat × Nat)} (h : l ≠ []) : ∃ m, foldJ joinL l = some m := by
  cases hf : foldJ joinL l with
  | none => exact absurd ((foldJ_none l).1 hf) h
  | some m => exact ⟨m, rfl⟩
theorem likB_iff {x : Ir} (k : Ok x) {s o : Nat} (hs : s < x.st.length) (ho : o < x.ow.length) : likB x s o = true ↔ ∃ t ∈ bestL x, t.getD s 0 = (o : Int) := by
  have hp : ∀ t ∈ truA x, ∃ m, foldJ joinL ((truA x).map fun t => (popW x t, wrongT x t)) = some m ∧ (∃ t0 ∈ truA x, popW x t0 = m.1) ∧ ∀ t ∈ truA x, m.1 ≤ popW x t := fun t ht => by
    obtain ⟨m, hm⟩ := foldJ_some (l := (truA x).map fun t => (popW x t, wrongT x t)) (by intro q; rw [List.map_eq_nil_iff] at q; rw [q] at ht; simp at ht)
    obtain ⟨h1, h2⟩ := foldJ_min _ m hm
    obtain ⟨t0, ht0, rfl⟩ := List.mem_map.1 h1
    refine ⟨_, hm, ⟨t0, ht0, rfl⟩, fun t ht => ?_⟩
    have := h2 _ (List.mem_map.2 ⟨t, ht, rfl⟩)
    rw [← Bool.not_eq_true, lessB_iff] at this
    simp only [] at this ⊢
    omega
  unfold likB
  rw [tlW_with k hs ho, tlW_truth k]
  simp only [Bool.and_eq_true, decide_eq_true_eq]
  constructor
  · rintro ⟨hf, hso, he⟩
    cases hw : foldJ joinL (((truA x).filter fun t => decide (t.getD s 0 = (o : Int))).map fun t => (popW x t, wrongT x t)) with
    | none => rw [hw] at hso; cases hso
    | some m =>
      obtain ⟨h1, h2⟩ := foldJ_min _ m hw
      obtain ⟨t1, ht1, rfl⟩ := List.mem_map.1 h1
      obtain ⟨ht1, hq⟩ := List.mem_filter.1 ht1
      obtain ⟨m0, e0, _, hle⟩ := hp t1 ht1
      rw [hw, e0] at he
      simp only [Option.getD_some] at he
      exact ⟨t1, bestL_iff.2 ⟨ht1, fun t' h' => by rw [he]; exact hle t' h'⟩, of_decide_eq_true hq⟩
  · rintro ⟨t, ht, hq⟩
    obtain ⟨ht1, hle⟩ := bestL_iff.1 ht
    have hfit : fitB x o s = true := by
      have := tru_fit ht1 s (Nat.zero_le _) (by simp; exact hs) (full_bit _ _ hs)
      rwa [hq, Int.toNat_natCast] at this
    have hmem : t ∈ (truA x).filter fun t => decide (t.getD s 0 = (o : Int)) := List.mem_filter.2 ⟨ht1, decide_eq_true hq⟩
    obtain ⟨m, hm⟩ := foldJ_some (l := ((truA x).filter fun t => decide (t.getD s 0 = (o : Int))).map fun t => (popW x t, wrongT x t)) (by intro q; rw [List.map_eq_nil_iff] at q; rw [q] at hmem; simp at hmem)
    obtain ⟨m0, e0, ⟨t0, ht0, e1⟩, hle0⟩ := hp t ht1
    obtain ⟨h1, h2⟩ := foldJ_min _ m hm
    obtain ⟨t2, ht2, rfl⟩ := List.mem_map.1 h1
    have h3 := h2 _ (List.mem_map.2 ⟨t, hmem, rfl⟩)
    rw [← Bool.not_eq_true, lessB_iff] at h3
    simp only [] at h3
    have q1 := hle t0 ht0
    have q2 := hle0 t2 (List.mem_filter.1 ht2).1
    rw [hm, e0]
    refine ⟨hfit, rfl, ?_⟩
    simp only [Option.getD_some]
    omega
theorem likely_eq (x : Ir) (s : Int) : likV x s = rlikV x s := by
  unfold likV rlikV
  by_cases hc : likE x s = 0
  · rw [if_pos hc, if_pos hc]
    obtain ⟨k, hv, _⟩ := errE_zero hc
    rw [strB_iff] at hv
    obtain ⟨q, rfl⟩ : ∃ q : Nat, s = (q : Int) := ⟨s.toNat, by omega⟩
    rw [Int.toNat_natCast]
    have hs : q < x.st.length := by omega
    apply Nat.eq_of_testBit_eq
    intro o
    have hown : ∀ t, t ∈ bestL x → ∃ o : Nat, o < 5 ∧ t.getD q 0 = (o : Int) := fun t ht => truA_own k hs t (bestL_iff.1 ht).1
    rw [Bool.eq_iff_iff, likN_bit, who_bit hown, Bool.and_eq_true, decide_eq_true_eq]
    constructor
    · rintro ⟨ho, hl⟩
      exact (likB_iff k hs ho).1 hl
    · rintro ⟨t, ht, ho⟩
      obtain ⟨o', h1, h2⟩ := (truA_mem (bestL_iff.1 ht).1).2 q hs
      have : o = o' := by omega
      subst this
      exact ⟨h1, (likB_iff k hs h1).2 ⟨t, ht, ho⟩⟩
  · rw [if_neg hc, if_neg hc]
end Go.Proofs.Ytkonoggmdcdeeaa
end
section
set_option linter.unusedVariables false
set_option linter.unusedSimpArgs false
set_option maxHeartbeats 4000000
set_option maxRecDepth 100000
namespace Go.Proofs.Ytkonoggmdcdeeaa
open Go.V
theorem looks_law (x : Ir) (s : Int) (H : Hp) (hO : x.ow.length < 2 ^ 63) (hS : x.st.length < 2 ^ 63) : PTri Try.prog (fnA 4) [x.av, i64 s] H (boo true) := by
  refine tri_v0 (fun _ => false) Try.func4 (by kernel_rfl) rfl (by simp only [List.length_append, List.length_cons, List.length_nil, Try.ntmps4]; decide) ?_
  simp only [vsAll, loadA, loadRow, partA, partOk, boxA, okAll, stAll, opsA, opA, dstOk, nilSliceOp, argFr, Nat.reduceAdd, Nat.reduceLT, Nat.reduceEqDiff, ↓reduceIte, eq_self, wtAll, Try.ntmps4]
  refine callK_pure (heavy_tri x 4000 _ hO hS) ?_
  simp only [vsAll, opA, ↓reduceIte, eq_self]
  refine condV (fun hf => ?_) (fun hf => ?_)
  · simp only [vsAll, okAll, stAll, opsA, opA, dstOk, Nat.reduceLT]
    refine callK_pure (awake_tri _) ?_
    simp only [vsAll, opA, dstOk, nilSliceOp, resA, retA.eq_1, Nat.reduceLT, ↓reduceIte, eq_self, Try.results4]
  · have k := hv_near hf
    simp only [vsAll, loadA, loadRow, partA, partOk, okAll, stAll, opsA, opA, dstOk, Nat.reduceLT, Nat.reduceEqDiff, ↓reduceIte, eq_self, wtAll]
    refine callK_pure (wfalse_tri x _ k) ?_
    rw [false_eq]
    simp only [vsAll, loadA, loadRow, partA, partOk, extractA, okAll, stAll, opsA, opA, dstOk, nilSliceOp, Nat.reduceAdd, Nat.reduceLT, Nat.reduceEqDiff, ↓reduceIte, eq_self, wtAll]
    refine callK_pure (rfalse_tri x _ k) ?_
    simp only [vsAll, loadA, loadRow, partA, partOk, extractA, okAll, stAll, opsA, opA, dstOk, nilSliceOp, argFr, Nat.reduceAdd, Nat.reduceLT, Nat.reduceEqDiff, ↓reduceIte, eq_self, wtAll]
    refine callK_pure (wlikely_tri x s _ k) ?_
    rw [likely_eq]
    simp only [vsAll, loadA, loadRow, partA, partOk, extractA, okAll, stAll, opsA, opA, dstOk, nilSliceOp, argFr, Nat.reduceAdd, Nat.reduceLT, Nat.reduceEqDiff, ↓reduceIte, eq_self, wtAll]
    refine callK_pure (rlikely_tri x s _ k) ?_
    simp only [vsAll, binA, binLitA, intA, extractA, pickA, opA, guardV, dstOk, nilSliceOp, Nat.reduceAdd, Nat.reduceLT, Nat.reduceEqDiff, ↓reduceIte, implies_true, eq_self]
    refine gcall (boo true) (fun hg => ⟨trivial, by simp only [okAll, opsA], awake_tri _⟩) ?_
    simp only [vsAll, pickA, opA, dstOk, nilSliceOp, resA, retA.eq_1, Nat.reduceLT, Nat.reduceEqDiff, ↓reduceIte, implies_true, eq_self, Try.results4]
end Go.Proofs.Ytkonoggmdcdeeaa
end
section
set_option linter.unusedVariables false
set_option linter.unusedSimpArgs false
set_option maxRecDepth 100000
namespace Go.Proofs.Ytkonoggmdcdeeaa
open Go.V Go.ChangeShapes Go.WideShapes Go.ChangeAt Go.RowKit
theorem irons_cells : cellsT Try.prog 9 27 = some [.int .i64, .sl [.sl [.int .i64]], .sl [.int .i64], .sl [.sl [.int .i64, .int .i64, .int .i64]], .sl [.int .i64, .int .i64, .bool]] := by kernel_rfl
theorem ints_of {av : AV} (h : CKA (.sl [.int .i64]) av) : ∃ l : List Int, l.length ≤ maxLen ∧ AV.Le av (intsAV l) := by
  obtain ⟨l, h1, h2⟩ := told_slice (α := Int) (fun z => [i64 z]) 0 (fun cs hcs => by
    obtain ⟨z, hz, _⟩ := told_int 0 hcs rfl
    exact ⟨z, rfl, fun j hj => by
      match j, hj with
      | 0, _ => rw [hz]; exact AV.Le.refl _⟩) h
  exact ⟨l, h1, h2⟩
theorem marks_of {av : AV} (h : CKA (.sl [.int .i64, .int .i64, .int .i64]) av) : ∃ l : List Mk, l.length ≤ maxLen ∧ AV.Le av (mksAV l) := by
  obtain ⟨l, h1, h2⟩ := told_slice (α := Mk) Mk.cs mk0 (fun cs hcs => by
    obtain ⟨a, ha, _⟩ := told_int 0 hcs rfl
    obtain ⟨b, hb, _⟩ := told_int 1 hcs rfl
    obtain ⟨c, hc, _⟩ := told_int 2 hcs rfl
    exact ⟨⟨a, b, c⟩, rfl, fun j hj => by
      match j, hj with
      | 0, _ => rw [ha]; exact AV.Le.refl _
      | 1, _ => rw [hb]; exact AV.Le.refl _
      | 2, _ => rw [hc]; exact AV.Le.refl _⟩) h
  exact ⟨l, h1, h2⟩
theorem claims_of {av : AV} (h : CKA (.sl [.int .i64, .int .i64, .bool]) av) : ∃ l : List Cl, l.length ≤ maxLen ∧ AV.Le av (clAV l) := by
  obtain ⟨l, h1, h2⟩ := told_slice (α := Cl) Cl.cs cl0 (fun cs hcs => by
    obtain ⟨a, ha, _⟩ := told_int 0 hcs rfl
    obtain ⟨b, hb, _⟩ := told_int 1 hcs rfl
    obtain ⟨c, hc⟩ := told_bool 2 hcs rfl
    exact ⟨⟨a, b, c⟩, rfl, fun j hj => by
      match j, hj with
      | 0, _ => rw [ha]; exact AV.Le.refl _
      | 1, _ => rw [hb]; exact AV.Le.refl _
      | 2, _ => rw [hc]; exact AV.Le.refl _⟩) h
  exact ⟨l, h1, h2⟩
theorem lists_of {av : AV} (h : CKA (.sl [.sl [.int .i64]]) av) : ∃ l : List (List Int), l.length ≤ maxLen ∧ AV.Le av (llAV l) := by
  obtain ⟨l, h1, h2⟩ := told_slice (α := List Int) (fun l => [intsAV l]) [] (fun cs hcs => by
    obtain ⟨l, _, hl⟩ := ints_of (hcs.2 0 _ rfl)
    exact ⟨l, rfl, fun j hj => by
      match j, hj with
      | 0, _ => exact hl⟩) h
  exact ⟨l, h1, h2⟩
theorem strakes_of {av : AV} (h : CKA (.sl [.sl [.int .i64, .int .i64, .int .i64]]) av) : ∃ l : List (List Mk), l.length ≤ maxLen ∧ AV.Le av (stAV l) := by
  obtain ⟨l, h1, h2⟩ := told_slice (α := List Mk) (fun l => [mksAV l]) [] (fun cs hcs => by
    obtain ⟨l, _, hl⟩ := marks_of (hcs.2 0 _ rfl)
    exact ⟨l, rfl, fun j hj => by
      match j, hj with
      | 0, _ => exact hl⟩) h
  exact ⟨l, h1, h2⟩
theorem iron_rel {H : Type} {enc : TypeId × Value → H} {W : World} {sp : Nat → Bool} {held : Bool} {v : Value} {d : DataW H} {ps : List MemPlace}
    (h : DataW.Trod enc Try.prog W 0 sp held 27 v d ps) : ∃ x : Ir, (x.ow.length < 2 ^ 63 ∧ x.st.length < 2 ^ 63) ∧ VRel (st0 W) x.av v := by
  obtain ⟨cs, hcs, hv⟩ := trod_agg irons_cells (by decide) h
  obtain ⟨F, h0, _⟩ := told_int 0 hcs rfl
  obtain ⟨ow, l1, h1⟩ := lists_of (hcs.2 1 _ rfl)
  obtain ⟨mo, l2, h2⟩ := ints_of (hcs.2 2 _ rfl)
  obtain ⟨st, l3, h3⟩ := strakes_of (hcs.2 3 _ rfl)
  obtain ⟨cl, l4, h4⟩ := claims_of (hcs.2 4 _ rfl)
  have hm : maxLen < 2 ^ 63 := by decide
  refine ⟨⟨F, ow, mo, st, cl⟩, ⟨by show ow.length < _; omega, by show st.length < _; omega⟩, AV.Le.aggD (cs := cs) hcs.1.symm (fun j hj => ?_) _ _ hv⟩
  have hj5 : j < 5 := by have := hcs.1; simp at this; omega
  match j, hj5 with
  | 0, _ => rw [h0]; exact AV.Le.refl _
  | 1, _ => exact h1
  | 2, _ => exact h2
  | 3, _ => exact h3
  | 4, _ => exact h4

theorem Try.own : ownKnob Try.prog.godebug = none := by kernel_rfl
theorem u3 : Try.prog.underlying 3 = some (.int .i64) := by kernel_rfl
theorem u4 : Try.prog.underlying 4 = some .bool := by kernel_rfl
end Go.Proofs.Ytkonoggmdcdeeaa
end
section
set_option linter.unusedVariables false
set_option linter.unusedSimpArgs false
set_option maxRecDepth 100000
namespace Go.Proofs.Ytkonoggmdcdeeaa
open Go.V Go.ChangeShapes Go.WideShapes Go.ChangeAt Go.RowKit
theorem ironLooks_lifted (os : Os) (started : os.Started) (H : Type) (enc : TypeId × Value → H) :
    ReturnsInHanded {} Try.checked os 4 .any (Rows.ironLooksSpec.pre6 enc Try.prog Try.f4 Rows.ironLooksRow.domain false) (Rows.ironLooksSpec.post enc Try.prog Try.f4 false true false false) := by
  refine returnsInHanded_of_change (C := Try.checked) Try.own started (by kernel_rfl) Try.func4
    (ChangeSpec.witness6 (enc := enc) (C := Try.checked) false ⟨#[], #[.agg #[.int .i64 0, .slice none 0 0, .slice none 0 0, .slice none 0 0, .slice none 0 0], .int .i64 0], []⟩ 8 (by kernel_rfl) (by kernel_rfl) (by kernel_rfl) (by kernel_rfl)) ?_
  intro W base args ds gs before hval hW hcnd _
  have hW' := hW
  obtain ⟨p, q, hA, hV, rfl, hfz, hnd⟩ := hW
  obtain ⟨rfl, rfl⟩ := trodVars_none hV
  rw [show Try.f4.params.toList = [27, 3] from by kernel_rfl] at hA
  obtain ⟨v0, v1, d0, d1, p0, p1, rfl, rfl, rfl, h0, h1⟩ := trodAll_two hA
  have hval : ∀ (j : Nat) t v, Try.f4.params[j]? = some t → (#[v0, v1] : Array Value)[j]? = some v → Value.okWide Try.prog W .any base t v := hval
  rw [show Try.f4.params = #[27, 3] from by kernel_rfl] at hval
  obtain ⟨x1, rfl, rfl, rfl, w1⟩ := open_int u3 (hval 1 3 v1 rfl rfl) h1
  obtain ⟨h, hbd, hr⟩ := iron_rel h0
  refine (law_calls Try.func4 (by kernel_rfl) rfl (Tri.mono (looks_law h x1 H0 hbd.1 hbd.2) ?_) ⟨rfl, fun k hk => match k, hk with | 0, _ => hr | 1, _ => .lit _⟩).mono fun e W' he => ?_
  · rintro r H' ⟨rfl, _⟩; rfl
  · obtain ⟨rfl, hh, ho, hp⟩ := he
    exact ⟨_, rfl, law_post (d := 6) rfl (tb := 4) (by kernel_rfl) u4 (by decide +kernel) hW' rfl hh ho hp⟩

theorem ironLooks_holds : Rows.IronLooksSaid :=
  OpenClaim.holds_of_wide (p := Try.pinned) (s := Rows.ironLooksSpec) (c := Rows.ironLooksRow) 4 Try.f4 rfl rfl rfl rfl rfl rfl rfl ⟨rfl, rfl, rfl, rfl, rfl⟩ rfl rfl rfl rfl rfl (by kernel_rfl) Try.func4 (by kernel_rfl)
    (of_decide_eq_true (by kernel_rfl)) (by unfold Func.isWrapper; first | (rw [if_pos (by decide +kernel)]; kernel_rfl) | (rw [if_neg (by decide +kernel)]; exact ⟨rfl, rfl⟩))
    (fun os started H enc _ => ironLooks_lifted os started H enc)

end Go.Proofs.Ytkonoggmdcdeeaa
end
