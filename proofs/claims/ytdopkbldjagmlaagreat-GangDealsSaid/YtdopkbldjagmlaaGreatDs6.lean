/- WHAT IS PROVED: the given statement of this claim. Conditions: none beyond the given row. -/
import Derived.Test.YtdopkbldjagmlaaGreatRows
import Derived.ChangeVars
import Derived.Test.YtdopkbldjagmlaaGreatDs5
section
set_option linter.unusedVariables false
namespace Go.Proofs.YtdopkbldjagmlaaGreat
open Go.V
def keyU (U : Nat) : Int := (pop U : Int) * 32 + U
theorem deal_used {g : Gg} {C : Nat} {l : List Int} (hN : g.N ≤ 5) (hM : g.cw.length ≤ 5) (h : DealOf g g.F C l) : DealOf g g.F (setL l) l ∧ setL l < 2 ^ g.cw.length ∧ (∀ n, (setL l).testBit n = true → C.testBit n = true) ∧ DealOf g g.F g.A l := by
 obtain ⟨h1, h2, h3⟩ := h
 have key : ∀ i, i < g.N → ∃ c : Nat, l.getD i 0 = c ∧ c < g.cw.length ∧ C.testBit c = true := fun i hi => by
  have := h2 i hi
  unfold crOk at this
  rw [if_pos (F_bit g hi)] at this
  exact this
 have hin : ∀ x ∈ l, ∃ c : Nat, x = c ∧ c < g.cw.length ∧ C.testBit c = true := fun x hx => by
  obtain ⟨i, hi, e⟩ := getD_mem 0 hx
  rw [← e]
  exact key i (by omega)
 have hbit : ∀ n, (setL l).testBit n = true → n < g.cw.length ∧ C.testBit n = true := fun n hn => by
  obtain ⟨x, hx, e⟩ := (setL_bit l n).1 hn
  obtain ⟨c, rfl, hc, hb⟩ := hin x hx
  rw [Int.toNat_natCast] at e
  subst e
  exact ⟨hc, hb⟩
 refine ⟨⟨h1, fun i hi => ?_, h3⟩, Nat.lt_pow_two_of_testBit _ fun n hn => ?_, fun n hn => (hbit n hn).2, ⟨h1, fun i hi => ?_, h3⟩⟩
 ·unfold crOk
  rw [if_pos (F_bit g hi)]
  obtain ⟨c, e, hc, hb⟩ := key i hi
  refine ⟨c, e, hc, (setL_bit l c).2 ⟨l.getD i 0, mem_getD l i 0 (by omega), by rw [e, Int.toNat_natCast]⟩⟩
 ·rw [← Bool.not_eq_true]
  intro hb
  have := (hbit n hb).1
  omega
 ·unfold crOk
  rw [if_pos (F_bit g hi)]
  obtain ⟨c, e, hc, hb⟩ := key i hi
  exact ⟨c, e, hc, A_bit g hc⟩
def bstU (g : Gg) : List Int := mnG (fun l => keyU (setL l)) (dlsL g g.F g.A) [] (dlsL g g.F g.A).length
theorem eno_doc {g : Gg} (hN : g.N ≤ 5) (hM : g.cw.length ≤ 3) : fewV (genB g) g.cw.length = if 0 < (dlsL g g.F g.A).length then some (setL (bstU g)) else none := by
 split
 ·rename_i h0
  obtain ⟨p, hp, e, h1, _⟩ := mnG_spec (fun l => keyU (setL l)) (dlsL g g.F g.A) [] h0 _ (Nat.le_refl _)
  have hm : bstU g ∈ dlsL g g.F g.A := by unfold bstU; rw [e]; exact mem_getD _ p _ hp
  have hle : ∀ l ∈ dlsL g g.F g.A, keyU (setL (bstU g)) ≤ keyU (setL l) := fun l hl => by
   obtain ⟨q, hq, eq⟩ := getD_mem [] hl
   have := h1 q hq
   unfold bstU
   rw [e, ← eq]
   exact this
  obtain ⟨d1, d2, _, _⟩ := deal_used hN (by omega) (mem_deals.1 hm)
  have hp3 : 2 ^ g.cw.length ≤ 2 ^ 3 := Nat.pow_le_pow_right (by omega) hM
  have hL : LeastSet (genB g) g.cw.length (setL (bstU g)) := by
   refine ⟨d2, genB_iff.2 ⟨_, d1⟩, fun C hC hg => ?_⟩
   obtain ⟨l, hl⟩ := genB_iff.1 hg
   obtain ⟨_, u2, u3, u4⟩ := deal_used hN (by omega) hl
   have hk := hle l (mem_deals.2 u4)
   have hs := pop_eq5 (setL l) (by omega) C (by omega) fun n _ hn => u3 n hn
   unfold keyU at hk
   generalize setL (bstU g) = s at *
   generalize setL l = U at *
   by_cases q : pop U = pop C
   ·have := hs.2 q
    subst this
    omega
   ·omega
  cases hw : fewV (genB g) g.cw.length with
  | some w => rw [(fewV_some hw).uniq hL]
  | none =>
    have := fewV_none (by omega) hw _ hL.lt
    rw [hL.is] at this
    cases this
 ·rename_i h0
  cases hw : fewV (genB g) g.cw.length with
  | none => rfl
  | some w =>
    obtain ⟨l, hl⟩ := genB_iff.1 (fewV_some hw).is
    have hm := mem_deals.2 (deal_used hN (by omega) hl).2.2.2
    have : 0 < (dlsL g g.F g.A).length := List.length_pos_iff.2 (List.ne_nil_of_mem hm)
    exact absurd this h0
theorem lea_doc {g : Gg} (hN : g.N ≤ 5) : fewV (leaB g) g.N = some (bsN (leaB g) g.F (2 ^ g.N)) := by
 rw [few_rset (by omega) fun _ _ _ => lea_all g]
 exact if_pos (lea_all g)
theorem lea_len (g : Gg) (s : Nat) : leaB g s = decide (0 < (dlsL g (dif g.F s) g.A).length) := by
 have h : leaB g s = true ↔ 0 < (dlsL g (dif g.F s) g.A).length := by
  rw [leaB_iff]
  constructor
  ·rintro ⟨l, hl⟩
   exact List.length_pos_iff.2 (List.ne_nil_of_mem (mem_deals.2 hl))
  ·intro h0
   obtain ⟨l, hl⟩ := List.exists_mem_of_length_pos h0
   exact ⟨l, mem_deals.1 hl⟩
 rw [Bool.eq_iff_iff, h, decide_eq_true_eq]
theorem dif_full : ∀ n, n < 6 → ∀ s, s < 32 → s < 2 ^ n → dif (2 ^ n - 1) s = 2 ^ n - 1 - s := by decide +kernel
/-- What is told of a deal. -/
theorem deal_doc {g : Gg} : (dO g g.F g.A g.N [] = none ↔ (dlsL g g.F g.A).length = 0) := by
 have h : (dO g g.F g.A g.N []).isSome = true ↔ 0 < (dlsL g g.F g.A).length := by
  rw [dO_some]
  constructor
  ·rintro ⟨l, hl⟩
   exact List.length_pos_iff.2 (List.ne_nil_of_mem (mem_deals.2 hl))
  ·intro h0
   obtain ⟨l, hl⟩ := List.exists_mem_of_length_pos h0
   exact ⟨l, mem_deals.1 hl⟩
 cases hd : dO g g.F g.A g.N [] with
 | none =>
   rw [hd] at h
   refine ⟨fun _ => ?_, fun _ => rfl⟩
   have : ¬ 0 < (dlsL g g.F g.A).length := fun q => by have := h.2 q; cases this
   omega
 | some m =>
   rw [hd] at h
   have := h.1 rfl
   exact ⟨fun q => (by cases q), fun q => (by omega)⟩
end Go.Proofs.YtdopkbldjagmlaaGreat
end
section
set_option linter.unusedVariables false
set_option linter.unusedSimpArgs false
set_option maxHeartbeats 4000000
set_option maxRecDepth 100000
namespace Go.Proofs.YtdopkbldjagmlaaGreat
open Go.V
theorem end_neg {g : Gg} (k : OkG g) {c S : Nat} (hc : c < g.cw.length) (hS : S < 2 ^ g.N) : (endD g c S < 0 → endO g c S = none) ∧ (¬ endD g c S < 0 → endO g c S = some (endD g c S)) := by
 unfold endD
 cases h : endO g c S with
 | none => exact ⟨fun _ => rfl, fun q => absurd (show (-1 : Int) < 0 by omega) q⟩
 | some t =>
   have := (end_le k hc hS h).1
   exact ⟨fun q => absurd q (by show ¬ t < 0; omega), fun _ => rfl⟩
theorem ddl_tri (g : Gg) (l : List Int) (H : Hp) (k : OkG g) (hl : l.length = g.N) : PTri Tryz.prog (fnA 67) [llAV (tabD g), intsAV l] H (i64 ((domO g l).getD (-1))) := by
 have hN5 : g.N ≤ 5 := k.nS
 have nC := k.nC
 have hTl : (tabD g).length = g.cw.length := tabL_len _ _
 have hp5 : 2 ^ g.N ≤ 2 ^ 5 := Nat.pow_le_pow_right (by decide) hN5
 refine tri_v0 (fun _ => false) Tryz.func67 (by kernel_rfl) rfl (by simp only [List.length_append, List.length_cons, List.length_nil, Tryz.ntmps67]; decide) ?_
 simp only [vsAll, opA, dstOk, nilSliceOp, Nat.reduceLT, Int.reduceNeg, eq_self, Tryz.ntmps67]
 refine vs_loop (σ := Nat) (fun c => c ≤ g.cw.length ∧ (domN g (crS l) c).isSome = true) (fun c => [(0, llAV (tabD g)), (1, intsAV l), (5, i64 ((domN g (crS l) c).getD 0)), (6, i64 c)]) (fun _ => H) (fun c => g.cw.length - c) 0 ⟨Nat.zero_le _, rfl⟩ ?_ HSub_rfl fun c hc => ?_
 ·have e0 : (domN g (crS l) 0).getD 0 = 0 := rfl
  simp only [vsAll, argFr, Nat.reduceEqDiff, ↓reduceIte, reduceCtorEq, eq_self, Int.natCast_zero, e0]
 ·obtain ⟨hc, hsome⟩ := hc
  simp only [vsAll, binA, binLitA, intA, lenA, opA, dstOk, Nat.reduceLT, Nat.reduceEqDiff, Int.reduceNeg, ↓reduceIte, reduceCtorEq, eq_self, wtAll, hTl]
  refine condD (fun hd => ?_) (fun hd => ?_)
  ·have hcs : c < g.cw.length := by omega
   have hT := tabD_at g hcs
   simp only [vsAll, opA, dstOk, nilSliceOp, Nat.reduceLT, Int.reduceNeg, eq_self]
   refine vs_loop (σ := Nat) (fun n => n ≤ l.length) (fun n => [(0, llAV (tabD g)), (1, intsAV l), (5, i64 ((domN g (crS l) c).getD 0)), (6, i64 c), (7, i64 (crN l c n : Nat)), (8, i64 n)]) (fun _ => H) (fun n => l.length - n) 0 (Nat.zero_le _) ?_ HSub_rfl fun n hn => ?_
   ·have e0 : crN l c 0 = 0 := rfl
    simp only [vsAll, Nat.reduceEqDiff, ↓reduceIte, reduceCtorEq, eq_self, Int.natCast_zero, e0]
   ·simp only [vsAll, binA, binLitA, intA, lenA, opA, dstOk, Nat.reduceLT, Nat.reduceEqDiff, Int.reduceNeg, ↓reduceIte, reduceCtorEq, eq_self, wtAll]
    refine condD (fun hd2 => ?_) (fun hd2 => ?_)
    ·have hns : n < l.length := by omega
     have hadd := crN_add l c n
     have hcl := crN_lt l c n
     have hpn : 2 ^ n ≤ 2 ^ 5 := Nat.pow_le_pow_right (by decide) (by omega)
     simp only [vsAll, binA, binLitA, intA, loadA, loadRow, partA, partOk, indexAddrA, opA, dstOk, Nat.reduceLT, Nat.reduceEqDiff, Int.reduceNeg, ↓reduceIte, reduceCtorEq, eq_self, wtAll, intF_at]
     refine ⟨⟨by omega, by omega⟩, hns, ?_⟩
     refine condD (fun he => ?_) (fun he => ?_)
     ·rw [if_pos he] at hadd
      simp only [vsAll, okAll, stAll, opsA, opA, dstOk, Nat.reduceLT, Nat.reduceEqDiff, Int.reduceNeg, ↓reduceIte, reduceCtorEq, eq_self]
      refine callK_pure (gpower_tri n _ (by omega)) ?_
      simp only [vsAll, binA, binLitA, intA, opA, dstOk, nilSliceOp, Nat.reduceLT, Nat.reduceEqDiff, Int.reduceNeg, ↓reduceIte, reduceCtorEq, eq_self]
      refine ⟨by simp only [InR_i64]; omega, by simp only [InR_i64]; omega, loop_next (n + 1) hns (by omega) ?_ HSub_rfl⟩
      simp only [vsAll, Nat.reduceEqDiff, ↓reduceIte, reduceCtorEq, eq_self, hadd, Int.natCast_add, Int.natCast_one]
     ·rw [if_neg he] at hadd
      simp only [vsAll, binA, binLitA, intA, opA, dstOk, nilSliceOp, Nat.reduceLT, Nat.reduceEqDiff, Int.reduceNeg, ↓reduceIte, reduceCtorEq, eq_self]
      refine ⟨by simp only [InR_i64]; omega, loop_next (n + 1) hns (by omega) ?_ HSub_rfl⟩
      simp only [vsAll, Nat.reduceEqDiff, ↓reduceIte, reduceCtorEq, eq_self, hadd, Int.natCast_add, Int.natCast_one]
    ·have en : n = l.length := by omega
     subst en
     have hS : crS l c < 2 ^ g.N := by
      have := crN_lt l c l.length
      rw [hl] at this
      unfold crS
      rw [hl]
      exact this
     have ecs : crN l c l.length = crS l c := rfl
     have hat := tabN_at g c hS
     have htl := tabN_len g c (2 ^ g.N)
     have hb := endD_bd k hcs hS
     obtain ⟨hn1, hn2⟩ := end_neg k hcs hS
     have hdn : domN g (crS l) (c + 1) = mx2 (domN g (crS l) c) (endO g c (crS l c)) := rfl
     generalize crS l c = S at hS ecs hat hb hn1 hn2 hdn
     simp only [vsAll, binA, binLitA, intA, loadA, loadRow, partA, partOk, indexAddrA, opA, dstOk, Nat.reduceLT, Nat.reduceEqDiff, Int.reduceNeg, ↓reduceIte, reduceCtorEq, eq_self, wtAll, ecs, llF_at, hT, intF_at, hat, htl, hTl]
     refine ⟨⟨by omega, by omega⟩, by omega, ⟨by omega, by omega⟩, hS, ?_⟩
     refine condD (fun hng => ?_) (fun hng => ?_)
     ·have e : domO g l = none := by
       cases hd0 : domO g l with
       | none => rfl
       | some m =>
         exfalso
         have h1 := (domN_some (g := g) (f := crS l) g.cw.length).1 (by show (domO g l).isSome = true; rw [hd0]; rfl) c hcs
         have h2 := hdn.trans (by rw [hn1 hng])
         have h3 := (domN_some (g := g) (f := crS l) (c + 1)).2 fun q hq => (domN_some (g := g) (f := crS l) g.cw.length).1 (by show (domO g l).isSome = true; rw [hd0]; rfl) q (by omega)
         rw [h2] at h3
         revert h3; generalize domN g (crS l) c = z; cases z <;> (intro h; cases h)
      rw [e]
      simp only [vsAll, opA, dstOk, nilSliceOp, resA, retA.eq_1, Nat.reduceLT, Int.reduceNeg, ↓reduceIte, eq_self, Tryz.results67]
      rfl
     ·obtain ⟨m, hm⟩ := Option.isSome_iff_exists.1 hsome
      have hdn2 : domN g (crS l) (c + 1) = some (max m (endD g c S)) := by rw [hdn, hm, hn2 hng]; rfl
      have hml := domN_le c hm
      have hm24 : m ≤ 24 := by
       rcases hml.2.2 with q | ⟨c', hc', q⟩
       ·omega
       ·have hS' : crS l c' < 2 ^ g.N := by
         have := crN_lt l c' l.length
         rw [hl] at this
         unfold crS
         rw [hl]
         exact this
        exact (end_le k (by omega) hS' q).2
      rw [hm]
      simp only [vsAll, binA, binLitA, intA, loadA, loadRow, partA, partOk, indexAddrA, mmA, okAll, stAll, opsA, opA, dstOk, nilSliceOp, Nat.reduceLT, Nat.reduceEqDiff, Int.reduceNeg, ↓reduceIte, reduceCtorEq, eq_self, wtAll, llF_at, hT, intF_at, hat, htl, hTl]
      refine ⟨⟨by omega, by omega⟩, by omega, ⟨by omega, by omega⟩, hS, by simp only [InR_i64]; omega, loop_next (c + 1) ⟨hcs, by rw [hdn2]; rfl⟩ (by omega) ?_ HSub_rfl⟩
      simp only [vsAll, Nat.reduceEqDiff, ↓reduceIte, reduceCtorEq, eq_self, hdn2, Int.natCast_add, Int.natCast_one]
      exact AV.Le.refl _
  ·have ec : c = g.cw.length := by omega
   subst ec
   obtain ⟨m, hm⟩ := Option.isSome_iff_exists.1 hsome
   have e : domO g l = some m := hm
   rw [e, hm]
   simp only [vsAll, opA, dstOk, nilSliceOp, resA, retA.eq_1, Nat.reduceLT, Nat.reduceEqDiff, Int.reduceNeg, ↓reduceIte, reduceCtorEq, eq_self, Tryz.results67]
   rfl
theorem flat_congr {α β : Type} {f g : α → List β} : ∀ {l : List α}, (∀ a ∈ l, f a = g a) → l.flatMap f = l.flatMap g
 | [], _ => rfl
 | a :: l, h => by rw [List.flatMap_cons, List.flatMap_cons, h a (by simp), flat_congr fun b hb => h b (by simp [hb])]
def dlsG (g : Gg) (S n : Nat) (b : List Int) (i : Nat) : List (List Int) := (List.range i).flatMap fun c : Nat => dls g S g.A n (b ++ [(c : Int)])
theorem dls_in {g : Gg} {S n : Nat} {b : List Int} (h : S.testBit b.length = true) : dls g S g.A (n + 1) b = dlsG g S n b g.cw.length := by
 simp only [dls, dlsG]
 rw [if_pos h]
 exact flat_congr fun c hc => if_pos (A_bit g (List.mem_range.1 hc))
theorem dls_out {g : Gg} {S n : Nat} {b : List Int} (h : S.testBit b.length = false) : dls g S g.A (n + 1) b = dls g S g.A n (b ++ [-1]) := by
 simp only [dls]
 rw [if_neg (by rw [h]; decide)]
theorem dlsG_succ (g : Gg) (S n : Nat) (b : List Int) (i : Nat) : dlsG g S n b (i + 1) = dlsG g S n b i ++ dls g S g.A n (b ++ [(i : Int)]) := by
 simp only [dlsG, List.range_succ, List.flatMap_append, List.flatMap_cons, List.flatMap_nil, List.append_nil]
theorem dlsG_mono (g : Gg) (S n : Nat) (b : List Int) (i : Nat) : ∀ j, i ≤ j → (dlsG g S n b i).length ≤ (dlsG g S n b j).length
 | 0, h => by rw [show i = 0 by omega]; exact Nat.le_refl _
 | j + 1, h => by
   by_cases e : i = j + 1
   ·subst e; exact Nat.le_refl _
   ·have := dlsG_mono g S n b i j (by omega)
    rw [dlsG_succ, List.length_append]
    omega
theorem dls_bd (g : Gg) (S : Nat) (hM : g.cw.length ≤ 3) : ∀ n b, (dls g S g.A n b).length ≤ 3 ^ n
 | 0, b => by
   simp only [dls]
   split
   ·exact Nat.le_refl _
   ·exact Nat.zero_le _
 | n + 1, b => by
   have h3 : 3 ^ n ≤ 3 ^ (n + 1) := Nat.pow_le_pow_right (by decide) (by omega)
   cases hb : S.testBit b.length with
   | true =>
     rw [dls_in hb]
     have h : ∀ i, (dlsG g S n b i).length ≤ i * 3 ^ n := fun i => by
      induction i with
      | zero => exact Nat.zero_le _
      | succ i ih =>
        rw [dlsG_succ, List.length_append, Nat.succ_mul]
        have := dls_bd g S hM n (b ++ [(i : Int)])
        omega
     refine Nat.le_trans (h _) ?_
     rw [Nat.pow_succ, Nat.mul_comm]
     exact Nat.mul_le_mul_left _ hM
   | false =>
     rw [dls_out hb]
     exact Nat.le_trans (dls_bd g S hM n _) h3
def dlR (g : Gg) (S n : Nat) (b : List Int) (id : Nat) (O : List (List Int)) (H : Hp) : Res → Hp → Prop := fun r H' =>
 r = .ret (.sl id 1 (O ++ dls g S g.A n b).length) ∧ H' = H.set id (.row 1 (O ++ dls g S g.A n b).length (llF (O ++ dls g S g.A n b)))
theorem sub_deals {g : Gg} {S n : Nat} {b : List Int} {x : Int} {id id1 : Nat} {O : List (List Int)} {X : Hp} (h1 : X id1 = some (.row 1 (b.length + 1) (intF (b ++ [x]))))
  (h : Tri Tryz.prog (fnA 74) [g.av, llAV (tabD g), i64 S, intsAV (b ++ [x]), .sl id 1 O.length] (X.del id1) (dlR g S n (b ++ [x]) id O (X.del id1))) :
  Tri Tryz.prog (fnA 74) [g.av, llAV (tabD g), i64 S, .sl id1 1 (b.length + 1), .sl id 1 O.length] X (dlR g S n (b ++ [x]) id O (X.del id1)) := by
 refine tri_freezeD (args' := [g.av, llAV (tabD g), i64 S, intsAV (b ++ [x]), .sl id 1 O.length]) h1 rfl (fun k hk => ?_) h
 match k, hk with
 | 0, _ => exact .same _
 | 1, _ => exact .same _
 | 2, _ => exact .same _
 | 3, _ =>
   have hl : (b ++ [x]).length = b.length + 1 := by simp
   show FrzD _ _ _ _ (AV.sl id1 1 (b.length + 1)) (AV.rsl (b ++ [x]).length 1 (intF (b ++ [x])))
   rw [hl]; exact .hit fun i hi => rfl
 | 4, _ => exact .same _
theorem ddeals_tri (g : Gg) (S : Nat) (k : OkG g) (hS : S < 2 ^ g.N) : ∀ (n : Nat) (b : List Int) (id : Nat) (O : List (List Int)) (H : Hp), b.length + n = g.N → H id = some (.row 1 O.length (llF O)) → O.length + (dls g S g.A n b).length ≤ 2000000 →
  Tri Tryz.prog (fnA 74) [g.av, llAV (tabD g), i64 S, intsAV b, .sl id 1 O.length] H (dlR g S n b id O H) := by
 have nS := k.nS
 have nC := k.nC
 have hN5 : g.N ≤ 5 := nS
 have hNe : g.N = g.sm.length := rfl
 have hS5 := lt32 hN5 hS
 intro n
 induction n with
 | zero =>
   intro b id O H hb ho hl
   refine Tri.drop ?_
   refine tri_v0 (mset []) Tryz.func74 (by kernel_rfl) rfl (by simp only [List.length_append, List.length_cons, List.length_nil, Tryz.ntmps74]; decide) ?_
   skip
   simp only [vsAll, binA, binLitA, intA, loadA, loadRow, partA, partOk, fieldAddrA, lenA, boxA, boxZ, opA, dstOk, nilSliceOp, argFr, Nat.reduceAdd, Nat.reduceLT, Nat.reduceEqDiff, Int.reduceNeg, ↓reduceIte, eq_self, wtAll, Tryz.ntmps74]
   refine condD (fun hd => ?_) (fun hd => absurd (by ((try clear ho); omega)) hd)
   simp only [vsAll, okAll, stAll, opsA, opA, dstOk, argFr, Nat.reduceLT, Nat.reduceEqDiff, Int.reduceNeg, ↓reduceIte, eq_self]
   refine callK_pure (ddl_tri g b _ k (by ((try clear ho); omega))) ?_
   simp only [vsAll, binA, binLitA, intA, opA, dstOk, Nat.reduceLT, Int.reduceNeg, ↓reduceIte, eq_self]
   refine condD (fun hc => ?_) (fun hc => ?_)
   ·have e : dls g S g.A 0 b = [b] := by
     simp only [dls]
     cases hd0 : domO g b with
     | none => rw [hd0] at hc; exact absurd hc (by show ¬ (0 : Int) ≤ -1; ((try clear ho); omega))
     | some m => rfl
    rw [e] at hl
    simp only [List.length_cons, List.length_nil] at hl
    simp only [vsAll, cellA, cellsA, okParts, buildSliceA, partIdx, elemsA, lensA, partsA, partsOk, opA, appendA, dstOk, nilSliceOp, resA, argFr, retA.eq_1, Nat.reduceMul, Nat.reduceLT, Nat.reduceLeDiff, Nat.reduceEqDiff, Int.reduceNeg, ↓reduceIte, eq_self, wtAll, Tryz.results74, ho]
    rw [app_ll _ b _ rfl]
    refine ⟨fun i hi => by (have : i = 0 := by ((try clear ho); omega)); subst this; simp only [vsAll, cellA, okCells, eq_self], by ((try clear ho); omega), by ((try clear ho); omega), _, HSub_rfl, ?_, ?_⟩
    ·rw [e]; simp
    ·rw [e]; simp
   ·have e : dls g S g.A 0 b = [] := by
     simp only [dls]
     cases hd0 : domO g b with
     | none => rfl
     | some m =>
       rw [hd0] at hc
       have := (domN_le g.cw.length hd0).1
       exact absurd (show (0 : Int) ≤ m from this) hc
    simp only [vsAll, opA, dstOk, nilSliceOp, resA, argFr, retA.eq_1, Nat.reduceLT, Nat.reduceEqDiff, Int.reduceNeg, ↓reduceIte, eq_self, Tryz.results74]
    exact ⟨_, HSub_put_eq ho HSub_rfl, by rw [e, List.append_nil], by rw [e, List.append_nil]⟩
 | succ n ih =>
   intro b id O H hb ho hl
   refine Tri.drop ?_
   refine tri_v0 (mset [36, 53]) Tryz.func74 (by kernel_rfl) rfl (by simp only [List.length_append, List.length_cons, List.length_nil, Tryz.ntmps74]; decide) ?_
   skip
   simp only [vsAll, binA, binLitA, intA, loadA, loadRow, partA, partOk, fieldAddrA, lenA, boxA, boxZ, opA, dstOk, nilSliceOp, argFr, Nat.reduceAdd, Nat.reduceLT, Nat.reduceEqDiff, Nat.reduceBEq, Int.reduceNeg, ↓reduceIte, eq_self, wtAll, Tryz.ntmps74]
   refine condD (fun hd => absurd hd (by ((try clear ho); omega))) (fun hd => ?_)
   simp only [vsAll, okAll, stAll, opsA, opA, dstOk, argFr, Nat.reduceLT, Nat.reduceEqDiff, Int.reduceNeg, ↓reduceIte, eq_self]
   refine callK_pure (dhas_tri S b.length _ (by ((try clear ho); omega)) (by ((try clear ho); omega))) ?_
   simp only [vsAll, unA, opA, dstOk, Nat.reduceLT, Int.reduceNeg, ↓reduceIte, eq_self]
   refine condV (fun hc => ?_) (fun hc => ?_)
   ·have hbf : S.testBit b.length = false := by simpa using hc
    have e := dls_out (g := g) (n := n) hbf
    rw [e] at hl
    simp only [vsAll, Int.reduceNeg]
    refine vs_draw2 [0, 0, 0, 1, 0, 3, 0, 5, 0, 7, 9] [([0, 1, 2, 4, 6, 8], [0], 3), ([], [0], 5), ([], [0], 7), ([], [], 9), ([], [], 10)] [] (by decide +kernel) ?_
    simp only [vsAll, loadA, loadRow, partA, partOk, cellA, cellsA, okParts, buildSliceA, buildMutA, partIdx, elemsA, lensA, okAll, stAll, opsA, partsA, partsOk, opA, appendA, dstOk, argFr, Nat.reduceMul, Nat.reduceLT, Nat.reduceLeDiff, Nat.reduceEqDiff, Nat.reduceBEq, Int.reduceNeg, ↓reduceIte, eq_self, wtAll]
    intro i36 hh_i36; (try simp only [Hp.set_none, ite_none] at hh_i36)
    have hY : H i36 = none := by simp_all
    refine ⟨fun i hi => ⟨rfl, trivial⟩, by ((try clear ho hh_i36); omega), by ((try clear ho hh_i36); omega), fun i hi => by (have : i = 0 := by ((try clear ho hh_i36); omega)); subst this; exact ⟨rfl, trivial⟩, by ((try clear ho hh_i36); omega), by ((try clear ho hh_i36); omega), ?_⟩
    refine callK (Tri.less (HSub.set (HSub_drop2 (by simp only [eq_self, hh_i36]) (HSub_drop2 (by simp only [eq_self, hh_i36]) HSub_rfl)) (row_ext fun q hq => cp_int b (-1) q hq)) (sub_deals (n := n) (b := b) (x := -1) (id := id) (O := O) (Hp.set_same _ _ _) (ih (b ++ [-1]) id O _ (by simp; ((try clear ho hh_i36); omega)) (by rw [set_del hY]; exact ho) (by ((try clear ho hh_i36); omega))))) ?_
    rintro r H' ⟨rfl, rfl⟩
    rw [set_del hY]
    simp only [vsAll, opA, dstOk, nilSliceOp, resA, retA.eq_1, Nat.reduceLT, Nat.reduceBEq, Int.reduceNeg, ↓reduceIte, eq_self, Tryz.results74]
    exact ⟨_, HSub_rfl, by rw [e], by rw [e]⟩
   ·have hbt : S.testBit b.length = true := by simpa using hc
    have e := dls_in (g := g) (n := n) hbt
    rw [e] at hl
    simp only [vsAll, opA, dstOk, nilSliceOp, Nat.reduceLT, Nat.reduceBEq, eq_self]
    refine vs_loop (σ := Nat) (fun i => i ≤ g.cw.length) (fun i => [(1, llAV (tabD g)), (2, i64 S), (3, intsAV b), (4, .sl id 1 (O ++ dlsG g S n b i).length), (5, gptr g), (12, i64 i)])
     (fun i => H.set id (.row 1 (O ++ dlsG g S n b i).length (llF (O ++ dlsG g S n b i)))) (fun i => g.cw.length - i) 0 (Nat.zero_le _) ?_ ?_ fun i hi => ?_
    ·have e0 : O ++ dlsG g S n b 0 = O := by simp [dlsG]
     simp only [vsAll, argFr, Nat.reduceEqDiff, ↓reduceIte, eq_self, Int.natCast_zero, e0]
    ·have e0 : O ++ dlsG g S n b 0 = O := by simp [dlsG]
     rw [e0]
     exact HSub_put_eq ho HSub_rfl
    ·simp only [vsAll, binA, binLitA, intA, loadA, loadRow, partA, partOk, fieldAddrA, lenA, opA, dstOk, Nat.reduceLT, Nat.reduceEqDiff, ↓reduceIte, eq_self, wtAll]
     refine condD (fun hd3 => ?_) (fun hd3 => ?_)
     ·have his : i < g.cw.length := by ((try clear ho); omega)
      have hgs := dlsG_succ g S n b i
      have hmo := dlsG_mono g S n b (i + 1) g.cw.length (by ((try clear ho); omega))
      rw [hgs, List.length_append] at hmo
      simp only [vsAll]
      refine vs_draw2 [0, 0, 0, 1, 0, 3, 0, 0, 5, 0, 7, 9] [([0, 1, 2, 4, 6, 7, 9], [0], 3), ([], [0], 5), ([], [0], 8), ([], [], 10), ([], [], 11)] [] (by decide +kernel) ?_
      simp only [vsAll, loadA, loadRow, partA, partOk, cellA, cellsA, okParts, buildSliceA, buildMutA, partIdx, elemsA, lensA, okAll, stAll, opsA, partsA, partsOk, opA, appendA, dstOk, Nat.reduceMul, Nat.reduceLT, Nat.reduceLeDiff, Nat.reduceEqDiff, Nat.reduceBEq, ↓reduceIte, eq_self, wtAll]
      intro i53 hh_i53; (try simp only [ite_none] at hh_i53)
      have hY : (H.set id (.row 1 (O ++ dlsG g S n b i).length (llF (O ++ dlsG g S n b i)))) i53 = none := by rw [Hp.set_ne _ _ hh_i53.1.1]; exact hh_i53.2
      have eO : O ++ dlsG g S n b i ++ dls g S g.A n (b ++ [(i : Int)]) = O ++ dlsG g S n b (i + 1) := by rw [hgs, List.append_assoc]
      refine ⟨fun i hi => ⟨rfl, trivial⟩, by ((try clear ho hh_i53); omega), by ((try clear ho hh_i53); omega), fun i hi => by (have : i = 0 := by ((try clear ho hh_i53); omega)); subst this; exact ⟨rfl, trivial⟩, by ((try clear ho hh_i53); omega), by ((try clear ho hh_i53); omega), ?_⟩
      refine callK (Tri.less (HSub.set (HSub_drop2 (by simp only [vsAll, ↓reduceIte, eq_self, hh_i53]) (HSub_drop2 (by simp only [vsAll, ↓reduceIte, eq_self, hh_i53]) HSub_rfl)) (row_ext fun q hq => cp_int b (i : Int) q hq)) (sub_deals (n := n) (b := b) (x := (i : Int)) (id := id) (O := O ++ dlsG g S n b i) (Hp.set_same _ _ _) (ih (b ++ [(i : Int)]) id (O ++ dlsG g S n b i) _ (by simp; ((try clear ho hh_i53); omega)) (by rw [set_del hY, Hp.set_same]) (by rw [List.length_append]; ((try clear ho hh_i53); omega))))) ?_
      rintro r H' ⟨rfl, rfl⟩
      rw [set_del hY, Hp.set_set, eO]
      simp only [vsAll, binA, binLitA, intA, opA, dstOk, nilSliceOp, Nat.reduceLT, Nat.reduceEqDiff, Nat.reduceBEq, ↓reduceIte, eq_self]
      refine ⟨by simp only [InR_i64]; ((try clear ho hh_i53); omega), loop_next (i + 1) (by ((try clear ho hh_i53); omega)) (by ((try clear ho hh_i53); omega)) ?_ HSub_rfl⟩
      simp only [vsAll, Nat.reduceEqDiff, ↓reduceIte, eq_self, Int.natCast_add, Int.natCast_one]
     ·have ei : i = g.cw.length := by ((try clear ho); omega)
      subst ei
      simp only [vsAll, opA, dstOk, nilSliceOp, resA, retA.eq_1, Nat.reduceLT, Nat.reduceEqDiff, Nat.reduceBEq, ↓reduceIte, eq_self, Tryz.results74]
      exact ⟨_, HSub_rfl, by rw [e], by rw [e]⟩
end Go.Proofs.YtdopkbldjagmlaaGreat
end
section
set_option linter.unusedVariables false
set_option linter.unusedSimpArgs false
set_option maxHeartbeats 4000000
set_option maxRecDepth 100000
namespace Go.Proofs.YtdopkbldjagmlaaGreat
open Go.V
theorem dls_len (g : Gg) (S : Nat) (k : OkG g) : (dlsL g S g.A).length ≤ 243 := by
 have h1 := dls_bd g S k.nC g.N []
 have h2 : 3 ^ g.N ≤ 3 ^ 5 := Nat.pow_le_pow_right (by decide) k.nS
 exact Nat.le_trans h1 h2
theorem ddeals0_tri (g : Gg) (S : Nat) (H : Hp) (k : OkG g) (hS : S < 2 ^ g.N) : PTri Tryz.prog (fnA 74) [g.av, llAV (tabD g), i64 S, .lit (.slice none 0 0), .lit (.slice none 0 0)] H (llAV (dlsL g S g.A)) := by
 have hl := dls_len g S k
 have e0 : dls g S g.A g.N [] = dlsL g S g.A := rfl
 refine Tri.thawD (R1 := fun r H' => ∃ id, H id = none ∧ r = .ret (.sl id 1 (dlsL g S g.A).length) ∧ H' = H.set id (.row 1 (dlsL g S g.A).length (llF (dlsL g S g.A)))) ?_ ?_
 ·refine tri_nil (args' := fun id => [g.av, llAV (tabD g), i64 S, intsAV [], .sl id 1 0]) 1 (llF []) (fun _ => rfl) (fun id j hj => ?_) fun id hid => ?_
  ·match j, hj with
   | 0, _ => exact .inl (AV.Le.refl _)
   | 1, _ => exact .inl (AV.Le.refl _)
   | 2, _ => exact .inl (AV.Le.refl _)
   | 3, _ => exact .inl (AV.Le.nil 1 _)
   | 4, _ => exact .inr ⟨rfl, rfl⟩
  ·have hb : ([] : List (List Int)).length + (dls g S g.A g.N []).length ≤ 2000000 := by rw [e0, List.length_nil, Nat.zero_add]; omega
   have h := ddeals_tri g S k hS g.N [] id [] (H.set id (.row 1 0 (llF []))) (Nat.zero_add _) (Hp.set_same _ _ _) hb
   unfold dlR at h
   rw [e0, List.nil_append] at h
   generalize dlsL g S g.A = L at h ⊢
   refine Tri.mono h ?_
   rintro r H' ⟨rfl, rfl⟩
   exact ⟨id, hid, rfl, by rw [Hp.set_set]⟩
 ·rintro r H' ⟨id, hid, rfl, rfl⟩
  right
  exact ⟨_, _, id, 1, _, llF (dlsL g S g.A), rfl, Hp.set_same _ _ _, .hit fun _ _ => rfl, rfl, set_del hid⟩
theorem dall_tri (g : Gg) (H : Hp) (k : OkG g) : PTri Tryz.prog (fnA 66) [g.av] H (.tuple [llAV (dlsL g g.F g.A), llAV (tabD g)]) := by
 have hN5 : g.N ≤ 5 := k.nS
 have hNe : g.N = g.sm.length := rfl
 have hp5 : 2 ^ g.N ≤ 2 ^ 5 := Nat.pow_le_pow_right (by decide) hN5
 have hp0 := Nat.two_pow_pos g.N
 have eF : ((2 ^ g.N : Nat) : Int) - 1 = (g.F : Int) := by unfold Gg.F; omega
 have hF : g.F < 2 ^ g.N := by unfold Gg.F; omega
 refine tri_v0 (fun _ => false) Tryz.func66 (by kernel_rfl) rfl (by simp only [List.length_append, List.length_cons, List.length_nil, Tryz.ntmps66]; decide) ?_
 simp only [vsAll, boxA, boxZ, opA, dstOk, nilSliceOp, argFr, Nat.reduceAdd, Nat.reduceLT, eq_self, wtAll, Tryz.ntmps66]
 refine vs_draw2 [0, 0, 0, 0, 0] [] [0, 1, 2, 3, 4] (by decide +kernel) ?_
 simp only [vsAll, loadA, loadRow, partA, partOk, opA, dstOk, Nat.reduceLT, Nat.reduceEqDiff, ↓reduceIte, eq_self, wtAll]
 refine qcall _ ⟨trivial, by simp only [vsAll, okAll, opsA, opA, ↓reduceIte, eq_self], dhot_tri g _ k⟩ ?_
 simp only [vsAll, dstOk, Nat.reduceLT, eq_self]
 refine qcall _ ⟨trivial, by simp only [vsAll, okAll, opsA, opA, Nat.reduceEqDiff, ↓reduceIte, eq_self], dends_tri g _ k⟩ ?_
 simp only [vsAll, opA, dstOk, Nat.reduceLT, ↓reduceIte, eq_self]
 refine vs_draw2 [0, 0, 0, 0, 0, 0, 0, 0, 0, 0, 0] [] [0, 1, 2, 3, 4, 5, 6, 7, 8, 9, 10] (by decide +kernel) ?_
 simp only [vsAll, loadA, loadRow, partA, partOk, fieldAddrA, lenA, opA, dstOk, Nat.reduceLT, Nat.reduceEqDiff, ↓reduceIte, eq_self, wtAll]
 refine qcall _ ⟨trivial, by simp only [vsAll, okAll, opsA, opA, ↓reduceIte, eq_self], gpower_tri g.N _ (by omega)⟩ ?_
 simp only [vsAll, binA, binLitA, intA, opA, dstOk, Nat.reduceLT, ↓reduceIte, eq_self, eF]
 refine ⟨by simp only [InR_i64]; omega, qcall _ ⟨trivial, by simp only [vsAll, okAll, opsA, opA, Nat.reduceEqDiff, ↓reduceIte, eq_self], ddeals0_tri g g.F _ k hF⟩ ?_⟩
 simp only [vsAll, opA, dstOk, resA, retA.eq_2, Nat.reduceLT, Nat.reduceEqDiff, ↓reduceIte, eq_self, Tryz.results66]
end Go.Proofs.YtdopkbldjagmlaaGreat
end
section
set_option linter.unusedVariables false
set_option linter.unusedSimpArgs false
set_option maxHeartbeats 4000000
set_option maxRecDepth 100000
namespace Go.Proofs.YtdopkbldjagmlaaGreat
open Go.V
theorem dd_in {g : Gg} {l : List Int} (h : l ∈ dlsL g g.F g.A) : l.length = g.N ∧ (domO g l).getD (-1) = domI g l ∧ (∀ i, i < l.length → 0 ≤ l.getD i 0 ∧ l.getD i 0 < g.cw.length) := by
 have hd := mem_deals.1 h
 refine ⟨hd.len, ?_, fun i hi => ?_⟩
 ·have := hd.dom
  unfold domI
  cases e : domO g l with
  | none => rw [e] at this; cases this
  | some m => rfl
 ·have := hd.at_ i (by rw [← hd.len]; exact hi)
  unfold crOk at this
  rw [if_pos (F_bit g (by rw [← hd.len]; exact hi))] at this
  obtain ⟨c, e, hc, _⟩ := this
  omega
theorem domI_bd {g : Gg} (k : OkG g) {l : List Int} (h : l ∈ dlsL g g.F g.A) : 0 ≤ domI g l ∧ domI g l ≤ 24 := by
 have hd := mem_deals.1 h
 have hx := hd.dom
 unfold domI
 cases e : domO g l with
 | none => rw [e] at hx; cases hx
 | some m => exact dom_le k (Nat.le_refl _) (fun c _ => crS_lt' (by rw [hd.len]; exact Nat.le_refl _) c) e
def dealA (g : Gg) : AV := if dealE g = 0 then intsAV (dealL g) else .lit (.slice none 0 0)
theorem ddealA_tri (g : Gg) (H : Hp) (kn : NearG g) : PTri Tryz.prog (fnA 22) [g.av] H (.tuple [i64 (dealH g), dealA g, i64 (dealE g)]) := by
 refine tri_v0 (fun _ => false) Tryz.func22 (by kernel_rfl) rfl (by simp only [List.length_append, List.length_cons, List.length_nil, Tryz.ntmps22]; decide) ?_
 simp only [vsAll, loadA, loadRow, partA, partOk, boxA, boxZ, okAll, stAll, opsA, opA, dstOk, nilSliceOp, argFr, Nat.reduceAdd, Nat.reduceLT, Nat.reduceEqDiff, ↓reduceIte, eq_self, wtAll, Tryz.ntmps22]
 refine callK_pure (dchk_tri g true _ kn) ?_
 simp only [vsAll, binA, binLitA, intA, opA, dstOk, nilSliceOp, Nat.reduceLT, ↓reduceIte, eq_self]
 by_cases he : errG g true = 0
 ·obtain ⟨k, _⟩ := errG_zero he
  have eE : dealE g = if (dO g g.F g.A g.N []).isSome = true then 0 else 4 := by unfold dealE; rw [if_pos he]
  have hlen := dls_len g g.F k
  rw [he]
  simp only [vsAll, loadA, loadRow, partA, partOk, okAll, stAll, opsA, opA, dstOk, Nat.reduceLT, Nat.reduceEqDiff, ↓reduceIte, eq_self, wtAll]
  refine callK_pure (dall_tri g _ k) ?_
  simp only [vsAll, binA, binLitA, intA, extractA, lenA, opA, dstOk, nilSliceOp, Nat.reduceAdd, Nat.reduceLT, Nat.reduceEqDiff, ↓reduceIte, eq_self, wtAll]
  refine condD (fun hd => ?_) (fun hd => ?_)
  ·have h0 : dO g g.F g.A g.N [] = none := deal_doc.2 (by omega)
   rw [h0] at eE
   have e1 : dealE g = 4 := eE
   have e2 : dealH g = 0 := by unfold dealH; rw [if_neg (by rw [e1]; decide)]
   have e3 : dealA g = .lit (.slice none 0 0) := by unfold dealA; rw [if_neg (by rw [e1]; decide)]
   rw [e1, e2, e3]
   simp only [vsAll, opA, dstOk, nilSliceOp, resA, retA.eq_2, Nat.reduceLT, Nat.reduceEqDiff, ↓reduceIte, eq_self, Tryz.results22]
  ·have hp : 0 < (dlsL g g.F g.A).length := by omega
   obtain ⟨b1, b2, b3⟩ := bstD_eq hp
   rw [b1] at eE
   have e1 : dealE g = 0 := eE
   have e2 : dealH g = domI g (bstD g) := by unfold dealH; rw [if_pos e1, b1]; rfl
   have e3 : dealL g = bstD g := by unfold dealL; rw [if_pos e1, e2, b2]
   have e4 : dealA g = intsAV (bstD g) := by unfold dealA; rw [if_pos e1, e3]
   have hall := fun l (h : l ∈ dlsL g g.F g.A) => dd_in h
   have hbd := fun l (h : l ∈ dlsL g g.F g.A) => domI_bd k h
   have hmn : ∀ i, i ≤ (dlsL g g.F g.A).length → mnG (domI g) (dlsL g g.F g.A) [] i ∈ dlsL g g.F g.A := fun i hi => by
    obtain ⟨p, hp', e, _⟩ := mnG_spec (domI g) (dlsL g g.F g.A) [] hp i hi
    rw [e]; exact mem_getD _ _ _ hp'
   rw [e1, e2, e4]
   have eb : bstD g = mnG (domI g) (dlsL g g.F g.A) [] (dlsL g g.F g.A).length := rfl
   rw [eb]
   generalize dlsL g g.F g.A = L at hp hall hbd hmn hlen ⊢
   simp only [vsAll, loadA, loadRow, partA, partOk, indexAddrA, opA, dstOk, nilSliceOp, Nat.reduceLT, Nat.reduceEqDiff, Int.reduceLE, Int.reduceToNat, ↓reduceIte, eq_self, wtAll, llF_at]
   refine ⟨by omega, hp, ?_⟩
   refine vs_loop (σ := Nat) (fun i => i ≤ L.length) (fun i => [(6, llAV L), (7, llAV (tabD g)), (8, intsAV (mnG (domI g) L [] i)), (9, i64 i)]) (fun _ => H) (fun i => L.length - i) 0 (Nat.zero_le _) ?_ HSub_rfl fun i hi => ?_
   ·have e0 : mnG (domI g) L [] 0 = L.getD 0 [] := rfl
    simp only [vsAll, Nat.reduceEqDiff, ↓reduceIte, eq_self, Int.natCast_zero, e0]
   ·simp only [vsAll, binA, binLitA, intA, lenA, opA, dstOk, Nat.reduceLT, Nat.reduceEqDiff, ↓reduceIte, eq_self, wtAll]
    refine condD (fun hd2 => ?_) (fun hd2 => ?_)
    ·have his : i < L.length := by omega
     have hm1 := mem_getD L i [] his
     have hm2 := hmn i hi
     obtain ⟨l1, l2, _⟩ := hall _ hm1
     obtain ⟨m1, m2, _⟩ := hall _ hm2
     have es : mnG (domI g) L [] (i + 1) = if domI g (L.getD i []) < domI g (mnG (domI g) L [] i) then L.getD i [] else mnG (domI g) L [] i := rfl
     simp only [vsAll, loadA, loadRow, partA, partOk, indexAddrA, okAll, stAll, opsA, opA, dstOk, Nat.reduceLT, Nat.reduceEqDiff, ↓reduceIte, eq_self, wtAll]
     simp only [vsAll, llF_at]
     refine ⟨⟨by omega, by omega⟩, his, callK_pure (ddl_tri g (L.getD i []) _ k l1) ?_⟩
     simp only [vsAll, okAll, stAll, opsA, opA, dstOk, Nat.reduceLT, Nat.reduceEqDiff, Int.reduceNeg, ↓reduceIte, eq_self]
     refine callK_pure (ddl_tri g (mnG (domI g) L [] i) _ k m1) ?_
     simp only [vsAll, binA, binLitA, intA, opA, dstOk, Nat.reduceLT, Nat.reduceEqDiff, Int.reduceNeg, ↓reduceIte, eq_self, l2, m2]
     refine condD (fun hc => ?_) (fun hc => ?_)
     ·rw [if_pos hc] at es
      simp only [vsAll, binA, binLitA, intA, loadA, loadRow, partA, partOk, indexAddrA, opA, dstOk, nilSliceOp, Nat.reduceLT, Nat.reduceEqDiff, ↓reduceIte, eq_self, wtAll, llF_at]
      refine ⟨⟨by omega, by omega⟩, his, by simp only [InR_i64]; omega, loop_next (i + 1) his (by omega) ?_ HSub_rfl⟩
      simp only [vsAll, Nat.reduceEqDiff, ↓reduceIte, eq_self, es, Int.natCast_add, Int.natCast_one]
     ·rw [if_neg hc] at es
      simp only [vsAll, binA, binLitA, intA, opA, dstOk, nilSliceOp, Nat.reduceLT, Nat.reduceEqDiff, ↓reduceIte, eq_self]
      refine ⟨by simp only [InR_i64]; omega, loop_next (i + 1) his (by omega) ?_ HSub_rfl⟩
      simp only [vsAll, Nat.reduceEqDiff, ↓reduceIte, eq_self, es, Int.natCast_add, Int.natCast_one]
    ·have ei : i = L.length := by omega
     subst ei
     obtain ⟨m1, m2, _⟩ := hall _ (hmn L.length (Nat.le_refl _))
     simp only [vsAll, okAll, stAll, opsA, opA, dstOk, Nat.reduceLT, Nat.reduceEqDiff, ↓reduceIte, eq_self]
     refine callK_pure (ddl_tri g (mnG (domI g) L [] L.length) _ k m1) ?_
     simp only [vsAll, opA, dstOk, nilSliceOp, resA, retA.eq_2, Nat.reduceLT, Nat.reduceEqDiff, Int.reduceNeg, ↓reduceIte, eq_self, Tryz.results22, m2]
 ·have e1 : dealE g = errG g true := if_neg he
  have e2 : dealH g = 0 := by unfold dealH; rw [if_neg (by rw [e1]; exact he)]
  have e3 : dealA g = .lit (.slice none 0 0) := by unfold dealA; rw [if_neg (by rw [e1]; exact he)]
  have hc : decide (errG g true = 0) = false := decide_eq_false he
  rw [e1, e2, e3]
  simp only [vsAll, opA, dstOk, nilSliceOp, resA, retA.eq_2, Nat.reduceLT, Nat.reduceEqDiff, ↓reduceIte, eq_self, Tryz.results22, hc]
theorem ddeal_tri (g : Gg) (H : Hp) (kn : NearG g) : PTri Tryz.prog (fnA 22) [g.av] H (.tuple [i64 (dealH g), intsAV (dealL g), i64 (dealE g)]) := by
 refine Tri.resLe (ddealA_tri g H kn) fun r H' h => .inr ⟨_, .tuple [i64 (dealH g), intsAV (dealL g), i64 (dealE g)], h.1, AV.Le.tupleD rfl fun j hj => ?_, rfl, h.2⟩
 match j, hj with
 | 0, _ => exact AV.Le.refl _
 | 1, _ =>
   show AV.Le (dealA g) (intsAV (dealL g))
   unfold dealA
   split
   ·exact AV.Le.refl _
   ·rename_i hn
    have : dealL g = [] := if_neg hn
    rw [this]
    exact AV.Le.nil _ _
 | 2, _ => exact AV.Le.refl _
theorem or_add5 : ∀ a, a < 32 → ∀ n, n < 5 → (a.testBit n = false → a + 2 ^ n = a ||| 2 ^ n) ∧ (a.testBit n = true → a ||| 2 ^ n = a) := by decide +kernel
theorem dused_tri (l : List Int) (H : Hp) (hl : l.length ≤ 1000) (h : ∀ i, i < l.length → 0 ≤ l.getD i 0 ∧ l.getD i 0 < 5) : PTri Tryz.prog (fnA 70) [intsAV l] H (i64 (setL l : Nat)) := by
 refine tri_v0 (fun _ => false) Tryz.func70 (by kernel_rfl) rfl (by simp only [List.length_append, List.length_cons, List.length_nil, Tryz.ntmps70]; decide) ?_
 simp only [vsAll, opA, dstOk, nilSliceOp, Nat.reduceLT, eq_self, Tryz.ntmps70]
 refine vs_loop (σ := Nat) (fun i => i ≤ l.length) (fun i => [(0, intsAV l), (3, i64 (setL (l.take i) : Nat)), (4, i64 i)]) (fun _ => H) (fun i => l.length - i) 0 (Nat.zero_le _) ?_ HSub_rfl fun i hi => ?_
 ·simp only [vsAll, argFr, Nat.reduceEqDiff, ↓reduceIte, reduceCtorEq, eq_self, Int.natCast_zero]
  exact AV.Le.refl _
 ·simp only [vsAll, binA, binLitA, intA, lenA, opA, dstOk, Nat.reduceLT, Nat.reduceEqDiff, ↓reduceIte, reduceCtorEq, eq_self, wtAll]
  refine condD (fun hd => ?_) (fun hd => ?_)
  ·have his : i < l.length := by omega
   have hx := h i his
   have h1 := setL_bd l h i hi
   have et := setL_take l his
   obtain ⟨n, e⟩ : ∃ n : Nat, l.getD i 0 = (n : Int) := ⟨(l.getD i 0).toNat, by omega⟩
   have hn : n < 5 := by omega
   rw [e, Int.toNat_natCast] at et
   obtain ⟨o1, o2⟩ := or_add5 (setL (l.take i)) (by omega) n hn
   have hp : 2 ^ n ≤ 2 ^ 4 := Nat.pow_le_pow_right (by decide) (by omega)
   have h2 : setL (l.take i) ||| 2 ^ n < 2 ^ 5 := Nat.or_lt_two_pow h1 (Nat.pow_lt_pow_right (by decide) hn)
   generalize setL (l.take i) = s at *
   simp only [vsAll, loadA, loadRow, partA, partOk, indexAddrA, okAll, stAll, opsA, opA, dstOk, Nat.reduceLT, Nat.reduceEqDiff, ↓reduceIte, reduceCtorEq, eq_self, wtAll, intF_at, e]
   refine ⟨⟨by omega, by omega⟩, his, callK_pure (dhas_tri s n _ (by omega) (by omega)) ?_⟩
   simp only [vsAll, unA, opA, dstOk, Nat.reduceLT, ↓reduceIte, eq_self]
   refine condV (fun hb => ?_) (fun hb => ?_)
   ·have hb2 : s.testBit n = false := by simpa using hb
    have ho := o1 hb2
    simp only [vsAll, loadA, loadRow, partA, partOk, indexAddrA, okAll, stAll, opsA, opA, dstOk, Nat.reduceLT, Nat.reduceEqDiff, ↓reduceIte, reduceCtorEq, eq_self, wtAll, intF_at, e]
    refine ⟨⟨by omega, by omega⟩, his, callK_pure (gpower_tri n _ (by omega)) ?_⟩
    have ea : (s : Int) + ((2 ^ n : Nat) : Int) = ((s ||| 2 ^ n : Nat) : Int) := by rw [← ho, Int.natCast_add]
    simp only [vsAll, binA, binLitA, intA, opA, dstOk, nilSliceOp, Nat.reduceLT, Nat.reduceEqDiff, ↓reduceIte, reduceCtorEq, eq_self, ea]
    refine ⟨by simp only [InR_i64]; omega, by simp only [InR_i64]; omega, loop_next (i + 1) his (by omega) ?_ HSub_rfl⟩
    simp only [vsAll, Nat.reduceEqDiff, ↓reduceIte, reduceCtorEq, eq_self, et, Int.natCast_add, Int.natCast_one]
   ·have hb2 : s.testBit n = true := by simpa using hb
    have ho := o2 hb2
    rw [ho] at et
    simp only [vsAll, binA, binLitA, intA, opA, dstOk, nilSliceOp, Nat.reduceLT, Nat.reduceEqDiff, ↓reduceIte, reduceCtorEq, eq_self]
    refine ⟨by simp only [InR_i64]; omega, loop_next (i + 1) his (by omega) ?_ HSub_rfl⟩
    simp only [vsAll, Nat.reduceEqDiff, ↓reduceIte, reduceCtorEq, eq_self, et, Int.natCast_add, Int.natCast_one]
  ·have ei : i = l.length := by omega
   subst ei
   simp only [vsAll, opA, dstOk, nilSliceOp, resA, retA.eq_1, Nat.reduceLT, Nat.reduceEqDiff, ↓reduceIte, reduceCtorEq, eq_self, Tryz.results70, List.take_length]
theorem key_lt {a b : Nat} (ha : a < 32) (hb : b < 32) : (decide (((pop a : Nat) : Int) < ((pop b : Nat) : Int)) || (decide (((pop a : Nat) : Int) = ((pop b : Nat) : Int)) && decide ((a : Int) < (b : Int)))) = decide (keyU a < keyU b) := by
 unfold keyU
 rw [Bool.eq_iff_iff]
 simp only [Bool.or_eq_true, Bool.and_eq_true, decide_eq_true_eq]
 generalize pop a = x at *
 generalize pop b = y at *
 omega
theorem denough_tri (g : Gg) (H : Hp) (kn : NearG g) : PTri Tryz.prog (fnA 24) [g.av] H (.tuple [i64 (enoV g : Nat), i64 (enoE g)]) := by
 refine tri_v0 (fun _ => false) Tryz.func24 (by kernel_rfl) rfl (by simp only [List.length_append, List.length_cons, List.length_nil, Tryz.ntmps24]; decide) ?_
 simp only [vsAll, loadA, loadRow, partA, partOk, boxA, boxZ, okAll, stAll, opsA, opA, dstOk, nilSliceOp, argFr, Nat.reduceAdd, Nat.reduceLT, Nat.reduceEqDiff, ↓reduceIte, eq_self, wtAll, Tryz.ntmps24]
 refine callK_pure (dchk_tri g true _ kn) ?_
 simp only [vsAll, binA, binLitA, intA, opA, dstOk, nilSliceOp, Nat.reduceLT, ↓reduceIte, eq_self]
 by_cases he : errG g true = 0
 ·obtain ⟨k, _⟩ := errG_zero he
  have nC := k.nC
  have hN5 : g.N ≤ 5 := k.nS
  have hlen := dls_len g g.F k
  have hdoc := eno_doc (g := g) k.nS nC
  have eE : enoE g = setE 0 (fewV (genB g) g.cw.length) := by unfold enoE; rw [he]
  have eV : enoV g = setV 0 (fewV (genB g) g.cw.length) := by unfold enoV; rw [he]
  rw [he]
  simp only [vsAll, loadA, loadRow, partA, partOk, okAll, stAll, opsA, opA, dstOk, Nat.reduceLT, Nat.reduceEqDiff, ↓reduceIte, eq_self, wtAll]
  refine callK_pure (dall_tri g _ k) ?_
  simp only [vsAll, binA, binLitA, intA, extractA, lenA, opA, dstOk, nilSliceOp, Nat.reduceAdd, Nat.reduceLT, Nat.reduceEqDiff, ↓reduceIte, eq_self, wtAll]
  refine condD (fun hd => ?_) (fun hd => ?_)
  ·rw [if_neg (by omega)] at hdoc
   obtain ⟨s1, s2⟩ := setV_none (r := fewV (genB g) g.cw.length) (by rw [hdoc]; rfl)
   rw [eE, eV, s1, s2]
   simp only [vsAll, opA, dstOk, nilSliceOp, resA, retA.eq_2, Nat.reduceLT, Nat.reduceEqDiff, ↓reduceIte, eq_self, Tryz.results24, Int.natCast_zero]
  ·have hp : 0 < (dlsL g g.F g.A).length := by omega
   rw [if_pos hp] at hdoc
   obtain ⟨s1, s2⟩ := setV_some (r := fewV (genB g) g.cw.length) (by rw [hdoc]; rfl)
   rw [eE, eV, s1, s2, hdoc]
   have hall := fun l (h : l ∈ dlsL g g.F g.A) => dd_in h
   have hmn : ∀ i, i ≤ (dlsL g g.F g.A).length → mnG (fun l => keyU (setL l)) (dlsL g g.F g.A) [] i ∈ dlsL g g.F g.A := fun i hi => by
    obtain ⟨p, hp', e, _⟩ := mnG_spec (fun l => keyU (setL l)) (dlsL g g.F g.A) [] hp i hi
    rw [e]; exact mem_getD _ _ _ hp'
   have eb : bstU g = mnG (fun l => keyU (setL l)) (dlsL g g.F g.A) [] (dlsL g g.F g.A).length := rfl
   rw [eb]
   generalize dlsL g g.F g.A = L at hp hall hmn hlen ⊢
   have hs : ∀ l, l ∈ L → setL l < 32 ∧ l.length ≤ 1000 ∧ ∀ i, i < l.length → 0 ≤ l.getD i 0 ∧ l.getD i 0 < 5 := fun l h => by
    obtain ⟨a1, _, a3⟩ := hall l h
    have h5 : ∀ i, i < l.length → 0 ≤ l.getD i 0 ∧ l.getD i 0 < 5 := fun i hi => by have := a3 i hi; omega
    refine ⟨?_, by omega, h5⟩
    have := setL_bd l h5 l.length (Nat.le_refl _)
    rw [List.take_length] at this
    exact this
   obtain ⟨t1, t2, t3⟩ := hs _ (mem_getD L 0 [] hp)
   simp only [vsAll, loadA, loadRow, partA, partOk, indexAddrA, okAll, stAll, opsA, opA, dstOk, Nat.reduceLT, Nat.reduceEqDiff, Int.reduceLE, Int.reduceToNat, ↓reduceIte, eq_self, wtAll, llF_at]
   refine ⟨by omega, hp, callK_pure (dused_tri (L.getD 0 []) _ t2 t3) ?_⟩
   simp only [vsAll, opA, dstOk, nilSliceOp, Nat.reduceLT, ↓reduceIte, eq_self]
   refine vs_loop (σ := Nat) (fun i => i ≤ L.length) (fun i => [(5, llAV L), (7, i64 (setL (mnG (fun l => keyU (setL l)) L [] i) : Nat)), (8, i64 i)]) (fun _ => H) (fun i => L.length - i) 0 (Nat.zero_le _) ?_ HSub_rfl fun i hi => ?_
   ·have e0 : mnG (fun l => keyU (setL l)) L [] 0 = L.getD 0 [] := rfl
    simp only [vsAll, Nat.reduceEqDiff, ↓reduceIte, eq_self, Int.natCast_zero, e0]
   ·simp only [vsAll, binA, binLitA, intA, lenA, opA, dstOk, Nat.reduceLT, Nat.reduceEqDiff, ↓reduceIte, eq_self, wtAll]
    refine condD (fun hd2 => ?_) (fun hd2 => ?_)
    ·have his : i < L.length := by omega
     obtain ⟨q1, q2, q3⟩ := hs _ (mem_getD L i [] his)
     obtain ⟨b1, b2, b3⟩ := hs _ (hmn i hi)
     have es : mnG (fun l => keyU (setL l)) L [] (i + 1) = if keyU (setL (L.getD i [])) < keyU (setL (mnG (fun l => keyU (setL l)) L [] i)) then L.getD i [] else mnG (fun l => keyU (setL l)) L [] i := rfl
     have hk := key_lt q1 b1
     simp only [vsAll, loadA, loadRow, partA, partOk, indexAddrA, okAll, stAll, opsA, opA, dstOk, Nat.reduceLT, Nat.reduceEqDiff, ↓reduceIte, eq_self, wtAll, llF_at]
     refine ⟨⟨by omega, by omega⟩, his, callK_pure (dused_tri (L.getD i []) _ q2 q3) ?_⟩
     simp only [vsAll, okAll, stAll, opsA, opA, dstOk, nilSliceOp, Nat.reduceLT, ↓reduceIte, eq_self]
     refine callK_pure (gsize_tri (setL (L.getD i [])) _ (by omega)) ?_
     simp only [vsAll, okAll, stAll, opsA, opA, dstOk, Nat.reduceLT, Nat.reduceEqDiff, ↓reduceIte, eq_self]
     refine callK_pure (gsize_tri (setL (mnG (fun l => keyU (setL l)) L [] i)) _ (by omega)) ?_
     simp only [vsAll, binA, binLitA, intA, opA, guardV, dstOk, Nat.reduceLT, Nat.reduceEqDiff, ↓reduceIte, implies_true, eq_self]
     refine gcall (i64 (pop (setL (L.getD i [])))) (fun hg => ⟨by simp only [vsAll, opA], by simp only [vsAll, okAll, opsA, opA, ↓reduceIte, eq_self, hg], gsize_tri (setL (L.getD i [])) _ (by omega)⟩) ?_
     simp only [vsAll, opA, guardV, dstOk, Nat.reduceLT, Nat.reduceEqDiff, ↓reduceIte, implies_true, eq_self]
     refine gcall (i64 (pop (setL (mnG (fun l => keyU (setL l)) L [] i)))) (fun hg => ⟨by simp only [vsAll, opA], by simp only [vsAll, okAll, opsA, opA, ↓reduceIte, eq_self, hg], gsize_tri (setL (mnG (fun l => keyU (setL l)) L [] i)) _ (by omega)⟩) ?_
     simp only [vsAll, binA, binLitA, intA, pickA, opA, guardV, dstOk, Nat.reduceLT, Nat.reduceEqDiff, ↓reduceIte, implies_true, eq_self]
     refine ⟨fun q => ⟨q, fun q2 => by rw [q, q2]; rfl⟩, ?_⟩
     simp only [hk]
     refine condD (fun hc => ?_) (fun hc => ?_)
     ·rw [if_pos hc] at es
      simp only [vsAll, binA, binLitA, intA, opA, dstOk, nilSliceOp, Nat.reduceLT, Nat.reduceEqDiff, ↓reduceIte, eq_self]
      refine ⟨by simp only [InR_i64]; omega, loop_next (i + 1) his (by omega) ?_ HSub_rfl⟩
      simp only [vsAll, Nat.reduceEqDiff, ↓reduceIte, eq_self, es, Int.natCast_add, Int.natCast_one]
     ·rw [if_neg hc] at es
      simp only [vsAll, binA, binLitA, intA, opA, dstOk, nilSliceOp, Nat.reduceLT, Nat.reduceEqDiff, ↓reduceIte, eq_self]
      refine ⟨by simp only [InR_i64]; omega, loop_next (i + 1) his (by omega) ?_ HSub_rfl⟩
      simp only [vsAll, Nat.reduceEqDiff, ↓reduceIte, eq_self, es, Int.natCast_add, Int.natCast_one]
    ·have ei : i = L.length := by omega
     subst ei
     simp only [vsAll, opA, dstOk, nilSliceOp, resA, retA.eq_2, Nat.reduceLT, Nat.reduceEqDiff, ↓reduceIte, eq_self, Tryz.results24]
     try rfl
 ·obtain ⟨s1, s2⟩ := setV_no (e := errG g true) (r := fewV (genB g) g.cw.length) he
  have e1 : enoE g = errG g true := s1
  have e2 : enoV g = 0 := s2
  have hc : decide (errG g true = 0) = false := decide_eq_false he
  rw [e1, e2]
  simp only [vsAll, opA, dstOk, nilSliceOp, resA, retA.eq_2, Nat.reduceLT, Nat.reduceEqDiff, ↓reduceIte, eq_self, Tryz.results24, hc, Int.natCast_zero]
theorem dleave_tri (g : Gg) (H : Hp) (kn : NearG g) : PTri Tryz.prog (fnA 26) [g.av] H (.tuple [i64 (leaV g : Nat), i64 (leaE g)]) := by
 refine tri_v0 (fun _ => false) Tryz.func26 (by kernel_rfl) rfl (by simp only [List.length_append, List.length_cons, List.length_nil, Tryz.ntmps26]; decide) ?_
 simp only [vsAll, loadA, loadRow, partA, partOk, boxA, boxZ, okAll, stAll, opsA, opA, dstOk, nilSliceOp, argFr, Nat.reduceAdd, Nat.reduceLT, Nat.reduceEqDiff, ↓reduceIte, eq_self, wtAll, Tryz.ntmps26]
 refine callK_pure (dchk_tri g true _ kn) ?_
 simp only [vsAll, binA, binLitA, intA, opA, dstOk, nilSliceOp, Nat.reduceLT, ↓reduceIte, eq_self]
 have eE : leaE g = errG g true := rfl
 by_cases he : errG g true = 0
 ·obtain ⟨k, _⟩ := errG_zero he
  have hN5 : g.N ≤ 5 := k.nS
  have hNe : g.N = g.sm.length := rfl
  have hp5 : 2 ^ g.N ≤ 2 ^ 5 := Nat.pow_le_pow_right (by decide) hN5
  have hp0 := Nat.two_pow_pos g.N
  have eF : ((2 ^ g.N : Nat) : Int) - 1 = (g.F : Int) := by unfold Gg.F; omega
  have hF : g.F + 1 = 2 ^ g.N := by unfold Gg.F; omega
  have eV : leaV g = bsN (leaB g) g.F (2 ^ g.N) := by unfold leaV; rw [if_pos (eE.trans he), lea_doc hN5]; rfl
  have hlt := fun j (hj : j ≤ 2 ^ g.N) => bsN_lt (leaB g) g.F (2 ^ g.N) (by omega) j hj
  rw [eE, he, eV]
  simp only [vsAll, loadA, loadRow, partA, partOk, fieldAddrA, lenA, okAll, stAll, opsA, opA, dstOk, Nat.reduceLT, Nat.reduceEqDiff, ↓reduceIte, eq_self, wtAll]
  refine callK_pure (gpower_tri g.N _ (by omega)) ?_
  simp only [vsAll, binA, binLitA, intA, opA, dstOk, nilSliceOp, Nat.reduceLT, ↓reduceIte, eq_self, eF]
  refine ⟨by simp only [InR_i64]; omega, ?_⟩
  refine vs_draw2 [0, 0, 0, 0, 0] [] [0, 1, 2, 3, 4] (by decide +kernel) ?_
  simp only [vsAll, loadA, loadRow, partA, partOk, opA, dstOk, Nat.reduceLT, Nat.reduceEqDiff, ↓reduceIte, eq_self, wtAll]
  refine qcall _ ⟨trivial, by simp only [vsAll, okAll, opsA, opA, ↓reduceIte, eq_self], dhot_tri g _ k⟩ ?_
  simp only [vsAll, dstOk, Nat.reduceLT, eq_self]
  refine qcall _ ⟨trivial, by simp only [vsAll, okAll, opsA, opA, Nat.reduceEqDiff, ↓reduceIte, eq_self], dends_tri g _ k⟩ ?_
  simp only [vsAll, opA, dstOk, nilSliceOp, Nat.reduceLT, Nat.reduceEqDiff, ↓reduceIte, eq_self]
  refine vs_loop (σ := Nat) (fun i => i ≤ 2 ^ g.N) (fun i => [(1, gptr g), (5, i64 (g.F : Nat)), (6, llAV (tabD g)), (7, i64 (bsN (leaB g) g.F i : Nat)), (8, i64 i)]) (fun _ => H) (fun i => 2 ^ g.N - i) 0 (Nat.zero_le _) ?_ HSub_rfl fun i hi => ?_
  ·have e0 : bsN (leaB g) g.F 0 = g.F := rfl
   simp only [vsAll, Nat.reduceEqDiff, ↓reduceIte, eq_self, Int.natCast_zero, e0]
  ·simp only [vsAll, binA, binLitA, intA, opA, dstOk, Nat.reduceLT, Nat.reduceEqDiff, ↓reduceIte, eq_self]
   refine condD (fun hd => ?_) (fun hd => ?_)
   ·have his : i < 2 ^ g.N := by omega
    have hb := hlt i hi
    have hdi : dif g.F i = g.F - i := dif_full g.N (by omega) i (by omega) his
    have hla := lea_len g i
    rw [hdi] at hla
    have es : bsN (leaB g) g.F (i + 1) = if (decide (pop i < pop (bsN (leaB g) g.F i)) && leaB g i) = true then i else bsN (leaB g) g.F i := rfl
    generalize bsN (leaB g) g.F i = B at hb es ⊢
    have ei : (g.F : Int) - (i : Int) = ((g.F - i : Nat) : Int) := by omega
    have hln := dls_len g (g.F - i) k
    have ep : decide (((pop i : Nat) : Int) < ((pop B : Nat) : Int)) = decide (pop i < pop B) := decide_eq_decide.2 (by omega)
    have el : decide ((0 : Int) < ((dlsL g (g.F - i) g.A).length : Int)) = decide (0 < (dlsL g (g.F - i) g.A).length) := decide_eq_decide.2 (by omega)
    simp only [vsAll, okAll, stAll, opsA, opA, dstOk, Nat.reduceLT, Nat.reduceEqDiff, ↓reduceIte, eq_self]
    refine callK_pure (gsize_tri i _ (by omega)) ?_
    simp only [vsAll, okAll, stAll, opsA, opA, dstOk, Nat.reduceLT, Nat.reduceEqDiff, ↓reduceIte, eq_self]
    refine callK_pure (gsize_tri B _ (by omega)) ?_
    simp only [vsAll, binA, binLitA, intA, loadA, loadRow, partA, partOk, opA, guardV, dstOk, Nat.reduceLT, Nat.reduceEqDiff, ↓reduceIte, implies_true, eq_self, wtAll, ei]
    refine ⟨fun q => ⟨q, q, by simp only [InR_i64]; omega⟩, ?_⟩
    refine gcall (llAV (dlsL g (g.F - i) g.A)) (fun hg => ⟨by simp only [vsAll, opA], by simp only [vsAll, okAll, opsA, opA, Nat.reduceEqDiff, ↓reduceIte, eq_self, hg], ddeals0_tri g (g.F - i) _ k (by omega)⟩) ?_
    simp only [vsAll, binA, binLitA, intA, lenA, pickA, opA, guardV, dstOk, Nat.reduceLT, Nat.reduceEqDiff, ↓reduceIte, implies_true, eq_self, wtAll, ep, el, ← hla]
    refine condV (fun hc => ?_) (fun hc => ?_)
    ·rw [if_pos hc] at es
     simp only [vsAll, binA, binLitA, intA, opA, dstOk, nilSliceOp, Nat.reduceLT, Nat.reduceEqDiff, ↓reduceIte, eq_self]
     refine ⟨by simp only [InR_i64]; omega, loop_next (i + 1) his (by omega) ?_ HSub_rfl⟩
     simp only [vsAll, Nat.reduceEqDiff, ↓reduceIte, eq_self, es, Int.natCast_add, Int.natCast_one]
    ·rw [if_neg (by rw [hc]; decide)] at es
     simp only [vsAll, binA, binLitA, intA, opA, dstOk, nilSliceOp, Nat.reduceLT, Nat.reduceEqDiff, ↓reduceIte, eq_self]
     refine ⟨by simp only [InR_i64]; omega, loop_next (i + 1) his (by omega) ?_ HSub_rfl⟩
     simp only [vsAll, Nat.reduceEqDiff, ↓reduceIte, eq_self, es, Int.natCast_add, Int.natCast_one]
   ·have ei : i = 2 ^ g.N := by omega
    subst ei
    simp only [vsAll, opA, dstOk, nilSliceOp, resA, retA.eq_2, Nat.reduceLT, Nat.reduceEqDiff, ↓reduceIte, eq_self, Tryz.results26]
 ·have e2 : leaV g = 0 := by unfold leaV; rw [if_neg (by rw [eE]; exact he)]
  have hc : decide (errG g true = 0) = false := decide_eq_false he
  rw [eE, e2]
  simp only [vsAll, opA, dstOk, nilSliceOp, resA, retA.eq_2, Nat.reduceLT, Nat.reduceEqDiff, ↓reduceIte, eq_self, Tryz.results26, hc, Int.natCast_zero]
end Go.Proofs.YtdopkbldjagmlaaGreat
end
section
set_option linter.unusedVariables false
set_option linter.unusedSimpArgs false
namespace Go.V
set_option linter.unusedSectionVars false
variable [Inhabited GivT]
/-- What one cell holds. -/
inductive CK where
 | int (k : IntKind)
 | bool
 | sl (ks : List CK)

/-- The cells of a type. -/
def cellsT (P : Program) : Nat → TypeId → Option (List CK)
 | 0, _ => none
 | d + 1, t => match P.underlying t with
   | some .bool => some [.bool]
   | some (.int k) => some [.int k]
   | some (.slice e) => match cellsT P d e with
     | some ks => if P.cellsOf e = ks.length ∧ 0 < ks.length then some [.sl ks] else none
     | none => none
   | some (.array n e) => match cellsT P d e with
     | some ks => if P.cellsOf e = ks.length ∧ P.cellsOf t = n * ks.length then some ((List.replicate n ks).flatten) else none
     | none => none
   | some (.struct fs) => match fs.toList.foldl (fun acc f => match acc with
     | some ks => match cellsT P d f.type with
       | some l => if f.offset = ks.length ∧ P.cellsOf f.type = l.length then some (ks ++ l) else none
       | none => none
     | none => none) (some []) with
     | some ks => if P.cellsOf t = ks.length then some ks else none
     | none => none
   | _ => none

/-- Such an abstract value. -/
inductive CKA : CK → AV → Prop
 | int {k : IntKind} {z : Int} (h : (Lit.int k z).wf = true) : CKA (.int k) (.lit (.int k z))
 | bool {b : Bool} : CKA .bool (.lit (.bool b))
 | sl {ks : List CK} {n : Nat} {f : Nat → List AV} (hn : n ≤ maxLen) (hl : ∀ i, i < n → (f i).length = ks.length) (h : ∀ i j k, i < n → ks[j]? = some k → CKA k ((f i).getD j .any)) : CKA (.sl ks) (.rsl n ks.length f)

def CellIs (W : World) (k : CK) (v : Value) : Prop := ∃ av, CKA k av ∧ VRel (st0 W) av v
def CellsOk (W : World) (ks : List CK) (cs : List Value) : Prop := cs.length = ks.length ∧ ∀ (i : Nat) (k : CK) (v : Value), ks[i]? = some k → cs[i]? = some v → CellIs W k v

theorem CellsOk.append {W : World} {ks ls : List CK} {cs ds : List Value} (h : CellsOk W ks cs) (h' : CellsOk W ls ds) : CellsOk W (ks ++ ls) (cs ++ ds) := by
 refine ⟨by simp [h.1, h'.1], fun i k v hk hv => ?_⟩
 by_cases hi : i < ks.length
 ·rw [List.getElem?_append_left hi] at hk
  rw [List.getElem?_append_left (by rw [h.1]; exact hi)] at hv
  exact h.2 i k v hk hv
 ·rw [List.getElem?_append_right (by omega)] at hk
  rw [List.getElem?_append_right (by rw [h.1]; omega), h.1] at hv
  exact h'.2 _ k v hk hv

theorem trod_cells {H : Type} {enc : TypeId × Value → H} {P : Program} {W : World} {held : Bool} {sp : Nat → Bool} :
  ∀ (d fuel : Nat) (t : TypeId) (cs : List Value) (x : DataW H × List MemPlace) (ks : List CK), cellsT P d t = some ks → DataW.trod enc P W 0 sp held fuel t cs = some x → CellsOk W ks cs := by
 intro d
 induction d with
 | zero => intro fuel t cs x ks hg; cases hg
 | succ d ih =>
   intro fuel t cs x ks hg h
   cases fuel with
   | zero => cases h
   | succ fuel =>
     unfold cellsT at hg
     unfold DataW.trod at h
     cases hu : P.underlying t with
     | none => rw [hu] at hg; cases hg
     | some td =>
       rw [hu] at hg h
       cases td <;> simp only at hg <;> try (cases hg; done)
       case bool =>
        cases hg
        split at h <;> simp_all
        rename_i b
        exact ⟨rfl, fun i k v hk hv => by cases i <;> simp at hk hv; subst hk hv; exact ⟨_, .bool, .lit _⟩⟩
       case int k =>
        cases hg
        split at h <;> simp_all
        rename_i n hh
        exact ⟨rfl, fun i k v hk hv => by cases i <;> simp at hk hv; subst hk hv; exact ⟨_, .int h.1.2, .lit _⟩⟩
       case array n e =>
        cases hke : cellsT P d e with
        | none => rw [hke] at hg; cases hg
        | some lk =>
          rw [hke] at hg
          simp only at hg
          by_cases hc : P.cellsOf e = lk.length ∧ P.cellsOf t = n * lk.length
          case neg => rw [if_neg hc] at hg; cases hg
          rw [if_pos hc] at hg
          cases hg
          split at h <;> try (simp_all; done)
          case _ n' e' heq =>
           simp only [Option.some.injEq, TypeDesc.array.injEq] at heq
           obtain ⟨rfl, rfl⟩ := heq
           split at h
           case isFalse hl => cases h
           case isTrue hl =>
            rw [Option.map_eq_some_iff] at h
            obtain ⟨ys, hy, rfl⟩ := h
            have key : ∀ (c : List Value), (∀ i, i < n → ∃ y, DataW.trod enc P W 0 sp held fuel e ((c.drop (i * P.cellsOf e)).take (P.cellsOf e)) = some y) → ∀ m, m ≤ n → CellsOk W (List.replicate m lk).flatten (c.take (m * lk.length)) := by
             intro c hcy m
             induction m with
             | zero => intro _; exact ⟨by simp, fun i k v hk => by simp at hk⟩
             | succ m ihm =>
               intro hm
               have h0 := ihm (by omega)
               obtain ⟨y, h2⟩ := hcy m (by omega)
               have h3 := ih fuel e _ y lk hke h2
               rw [hc.1] at h3
               have := h0.append h3
               rw [List.replicate_succ', List.flatten_append, Nat.succ_mul, List.take_add]
               simpa using this
            have := key _ (fun i hi => by
             obtain ⟨y, _, h2⟩ := (mapM_get _ _ hy).2 i i (by simp [hi])
             exact ⟨y, h2⟩) n (Nat.le_refl _)
            rw [List.take_of_length_le (by rw [hl, hc.2]; exact Nat.le_refl _)] at this
            exact this
       case slice e =>
        cases hke : cellsT P d e with
        | none => rw [hke] at hg; cases hg
        | some lk =>
          rw [hke] at hg
          simp only at hg
          by_cases hc : P.cellsOf e = lk.length ∧ 0 < lk.length
          case neg => rw [if_neg hc] at hg; cases hg
          rw [if_pos hc] at hg
          cases hg
          obtain ⟨hsz, hpos⟩ := hc
          split at h <;> try (simp_all; done)
          ·rename_i heq
           refine ⟨rfl, fun i k v hk hv => ?_⟩
           cases i <;> simp at hk hv
           subst hk hv
           exact ⟨.rsl 0 lk.length fun _ => [], .sl (Nat.zero_le _) (fun i hi => by omega) (fun i j k hi => by omega), .rsl0⟩
          ·rename_i e' a len cap heq
           simp only [Option.some.injEq, TypeDesc.slice.injEq] at heq
           subst heq
           simp only at h
           split at h
           case isFalse hl => cases h
           case isTrue hl =>
            rw [Option.bind_eq_some_iff] at h
            obtain ⟨es, he, -⟩ := h
            let g : Nat → List Value := fun i => match W.cells? 0 (a.add (i * P.cellsOf e)) (P.cellsOf e) with
             | some c => c
             | none => []
            have hel : ∀ i, i < len → W.cells? 0 (a.add (i * P.cellsOf e)) (P.cellsOf e) = some (g i) ∧ CellsOk W lk (g i) := by
             intro i hi
             obtain ⟨y, _, hy⟩ := (mapM_get _ _ he).2 i i (by simp [hi])
             rw [Option.bind_eq_some_iff] at hy
             obtain ⟨c, h1, h2⟩ := hy
             have : g i = c := by simp only [g, h1]
             rw [this]
             exact ⟨h1, ih fuel e c y lk hke h2⟩
            -- the abstract cells
            have hch : ∀ i j, ∃ av, i < len → j < lk.length → ∃ k v, lk[j]? = some k ∧ (g i)[j]? = some v ∧ CKA k av ∧ VRel (st0 W) av v := by
             intro i j
             by_cases hi : i < len
             ·by_cases hj : j < lk.length
              ·obtain ⟨l1, l2⟩ := (hel i hi).2
               obtain ⟨av, c1, c2⟩ := l2 j lk[j] (g i)[j] (List.getElem?_eq_getElem hj) (List.getElem?_eq_getElem (by omega))
               exact ⟨av, fun _ _ => ⟨_, _, List.getElem?_eq_getElem hj, List.getElem?_eq_getElem (by omega), c1, c2⟩⟩
              ·exact ⟨.any, fun _ x => absurd x hj⟩
             ·exact ⟨.any, fun x => absurd x hi⟩
            have hf := fun i => Classical.axiomOfChoice (hch i)
            obtain ⟨F, hF⟩ := Classical.axiomOfChoice hf
            have hget : ∀ i j, j < lk.length → ((List.range lk.length).map (F i)).getD j .any = F i j := fun i j hj => by
             rw [List.getD_eq_getElem?_getD, List.getElem?_map, List.getElem?_range hj]; rfl
            refine ⟨rfl, fun i k v hk hv => ?_⟩
            cases i <;> simp at hk hv
            subst hk hv
            refine ⟨.rsl len lk.length fun i => (List.range lk.length).map (F i), .sl (Nat.le_trans hl.2.1 hl.2.2) (fun i hi => by simp) (fun i j k hi hk => ?_), ?_⟩
            ·have hj := (List.getElem?_eq_some_iff.1 hk).1
             rw [hget i j hj]
             obtain ⟨k', v, h1, h2, h3, h4⟩ := hF i j hi hj
             rw [hk] at h1; cases h1
             exact h3
            by_cases h0 : len = 0
            ·subst h0; exact .rsl0
            have hcell : ∀ i j, i < len → j < lk.length → ∃ u, (g i)[j]? = some u ∧ W.cell? ((a.add (i * P.cellsOf e)).add j) = some u := by
             intro i j hi hj
             have h1 := (hel i hi).1
             unfold World.cells? at h1
             rw [if_pos (Nat.zero_le _)] at h1
             exact (mapM_get _ _ h1).2 j j (by simp [hsz, hj])
            obtain ⟨b, off, spot⟩ := a
            obtain ⟨u0, _, hc0⟩ := hcell 0 0 (by omega) hpos
            rw [show ((⟨b, off, spot⟩ : Addr).add (0 * P.cellsOf e)).add 0 = ⟨b, off, spot⟩ from by simp [Addr.add]] at hc0
            unfold World.cell? at hc0
            split at hc0
            case h_2 => cases hc0
            case h_1 c ct fz hb =>
             have hspot : spot = none := by
              cases spot with
              | none => rfl
              | some s => simp at hc0
             subst hspot
             have hadd : ∀ i j, (((⟨b, off, none⟩ : Addr).add (i * P.cellsOf e)).add j) = ⟨b, off + i * P.cellsOf e + j, none⟩ := fun i j => by rw [addr_add, addr_add]
             have hall : ∀ i j, i < len → j < lk.length → ∃ u, (g i)[j]? = some u ∧ c[off + i * lk.length + j]? = some u := by
              intro i j hi hj
              obtain ⟨u, h1, h2⟩ := hcell i j hi hj
              rw [hadd] at h2
              unfold World.cell? at h2
              simp only at hb
              rw [show W.heap[(⟨b, off + i * P.cellsOf e + j, none⟩ : Addr).block]? = some (.cells c ct fz) from hb] at h2
              simp only [Option.isSome_none, Bool.false_eq_true, if_false, hsz] at h2
              exact ⟨u, h1, h2⟩
             refine .rsl (c := c) (e := ct) (fz := fz) ?_ hb ?_ (fun i hi => by simp) (fun i j hi hj => ?_) hl.2.1
             ·exact (Array.getElem?_eq_some_iff.1 hb).1
             ·obtain ⟨u, _, h2⟩ := hall (len - 1) (lk.length - 1) (by omega) (by omega)
              have := (Array.getElem?_eq_some_iff.1 h2).1
              have e1 : len * lk.length = (len - 1) * lk.length + lk.length := by
               obtain ⟨q, rfl⟩ : ∃ q, len = q + 1 := ⟨len - 1, by omega⟩
               rw [Nat.add_sub_cancel, Nat.succ_mul]
              omega
             ·obtain ⟨u, h1, h2⟩ := hall i j hi hj
              obtain ⟨k', v, q1, q2, q3, q4⟩ := hF i j hi hj
              rw [h1] at q2; cases q2
              rw [hget i j hj, Array.getD_eq_getD_getElem?, h2]
              exact q4
       case struct fs =>
        split at h <;> try (simp_all; done)
        case _ fs' heq =>
         simp only [Option.some.injEq, TypeDesc.struct.injEq] at heq
         subst heq
         split at h
         case isFalse hl => cases h
         case isTrue hl =>
          rw [Option.map_eq_some_iff] at h
          obtain ⟨ys, hy, rfl⟩ := h
          have key : ∀ (c : List Value) (l : List Field) (acc ks : List CK), (∀ f ∈ l, ∃ y, DataW.trod enc P W 0 sp held fuel f.type ((c.drop f.offset).take (P.cellsOf f.type)) = some y) → CellsOk W acc (c.take acc.length) →
            l.foldl (fun acc f => match acc with
             | some ks => match cellsT P d f.type with
               | some l => if f.offset = ks.length ∧ P.cellsOf f.type = l.length then some (ks ++ l) else none
               | none => none
             | none => none) (some acc) = some ks → CellsOk W ks (c.take ks.length) := by
           intro c l
           induction l with
           | nil => intro acc ks _ ha he; simp at he; subst he; exact ha
           | cons f l ih2 =>
             intro acc ks hf ha he
             simp only [List.foldl_cons] at he
             have hnone : ∀ l : List Field, l.foldl (fun acc f => match acc with
              | some ks => match cellsT P d f.type with
                | some l => if f.offset = ks.length ∧ P.cellsOf f.type = l.length then some (ks ++ l) else none
                | none => none
              | none => none) none = (none : Option (List CK)) := by
              intro l; induction l with
              | nil => rfl
              | cons a l ih => simpa using ih
             cases hl2 : cellsT P d f.type with
             | none => rw [hl2] at he; simp only at he; rw [hnone] at he; cases he
             | some lk =>
               rw [hl2] at he
               simp only at he
               by_cases hc : f.offset = acc.length ∧ P.cellsOf f.type = lk.length
               ·rw [if_pos hc] at he
                obtain ⟨y, hy⟩ := hf f (by simp)
                have := ih fuel f.type _ y lk hl2 hy
                rw [hc.1, hc.2] at this
                have hap := ha.append this
                refine ih2 (acc ++ lk) ks (fun g hg => hf g (by simp [hg])) ?_ he
                rw [List.length_append, List.take_add]
                exact hap
               ·rw [if_neg hc, hnone] at he; cases he
          split at hg
          case h_2 => cases hg
          case h_1 ks' he =>
           split at hg
           case isFalse => cases hg
           case isTrue hc =>
            cases hg
            have := key _ fs.toList [] ks (fun f hf => by
             obtain ⟨i, hi⟩ := List.getElem?_of_mem hf
             obtain ⟨y, _, h2⟩ := (mapM_get _ _ hy).2 i f hi
             exact ⟨y, h2⟩) ⟨by simp, fun i k v hk => by simp at hk⟩ he
            rw [List.take_of_length_le (by rw [hl, hc]; exact Nat.le_refl _)] at this
            exact this

end Go.V
end
section
set_option linter.unusedVariables false
set_option linter.unusedSimpArgs false
namespace Go.V
set_option linter.unusedSectionVars false
variable [Inhabited GivT]
open Go.ChangeShapes
theorem AV.Le.rslD {n st : Nat} {f g : Nat → List AV} (h : ∀ i, i < n → (g i).length = st ∧ ∀ j, j < st → AV.Le ((f i).getD j .any) ((g i).getD j .any)) : AV.Le (.rsl n st f) (.rsl n st g) := by
 intro S v hv
 cases hv with
 | rsl0 => exact .rsl0
 | rsl hi hb hsz hf hh hcap => exact .rsl hi hb hsz (fun i hi => (h i hi).1) (fun i j hi hj => (h i hi).2 j hj _ _ (hh i j hi hj)) hcap
theorem AV.Le.aggD {cs ds : List AV} (hl : ds.length = cs.length) (h : ∀ j, j < cs.length → AV.Le (cs.getD j .any) (ds.getD j .any)) : AV.Le (.agg cs) (.agg ds) := by
 intro S v hv
 cases hv with
 | agg hn hh => exact .agg (hn.trans hl.symm) fun k hk => h k (by omega) _ _ (hh k (by omega))

/-- Cells that are told. -/
def Told (ks : List CK) (cs : List AV) : Prop := cs.length = ks.length ∧ ∀ j k, ks[j]? = some k → CKA k (cs.getD j .any)

/-- A struct that is handed in. -/
theorem trod_agg {H : Type} {enc : TypeId × Value → H} {P : Program} {W : World} {held : Bool} {sp : Nat → Bool} {t dd : Nat} {v : Value} {d : DataW H} {ps : List MemPlace} {ks : List CK}
  (hk : cellsT P dd t = some ks) (hn : 2 ≤ ks.length) (h : DataW.Trod enc P W 0 sp held t v d ps) : ∃ cs : List AV, Told ks cs ∧ VRel (st0 W) (.agg cs) v := by
 obtain ⟨fuel, h⟩ := h
 obtain ⟨hl, hz⟩ := trod_cells dd fuel t _ _ ks hk h
 cases v with
 | agg vs =>
   simp only [Value.cells] at hl hz
   have hl2 : vs.size = ks.length := by simpa using hl
   have hch : ∀ j : Nat, ∃ av : AV, ∀ (k : CK) (u : Value), ks[j]? = some k → vs[j]? = some u → CKA k av ∧ VRel (st0 W) av u := fun j => by
    cases hkj : ks[j]? with
    | none => exact ⟨.any, fun k u h => by cases h⟩
    | some k =>
      cases hvj : vs[j]? with
      | none => exact ⟨.any, fun k u _ h => by cases h⟩
      | some u =>
        obtain ⟨av, h1, h2⟩ := hz j k u hkj (by simpa using hvj)
        exact ⟨av, fun k' u' e1 e2 => by cases e1; cases e2; exact ⟨h1, h2⟩⟩
   obtain ⟨F, hF⟩ := Classical.axiomOfChoice hch
   have hget : ∀ j, j < ks.length → ((List.range ks.length).map F).getD j .any = F j := fun j hj => by
    rw [List.getD_eq_getElem?_getD, List.getElem?_map, List.getElem?_range hj]; rfl
   refine ⟨(List.range ks.length).map F, ⟨by simp, fun j k hk => ?_⟩, .agg (by simpa using hl2) fun j hj => ?_⟩
   ·have hj := (List.getElem?_eq_some_iff.1 hk).1
    rw [hget j hj]
    exact (hF j k vs[j] hk (by simp [show j < vs.size by omega])).1
   ·have hj : j < ks.length := by simpa using hj
    rw [hget j hj, Array.getD_eq_getD_getElem?, Array.getElem?_eq_getElem (by omega)]
    exact (hF j ks[j] vs[j] (List.getElem?_eq_getElem hj) (by simp [show j < vs.size by omega])).2
 | _ => simp [Value.cells] at hl; omega
/-- A slice of what can be told. -/
theorem told_slice {α : Type} {ks : List CK} (en : α → List AV) (d0 : α) (hd : ∀ cs, Told ks cs → ∃ x : α, (en x).length = ks.length ∧ ∀ j, j < ks.length → AV.Le (cs.getD j .any) ((en x).getD j .any)) {av : AV} (h : CKA (.sl ks) av) :
  ∃ l : List α, l.length ≤ maxLen ∧ AV.Le av (.rsl l.length ks.length fun i => en (l.getD i d0)) := by
 cases h with
 | @sl _ n f hn hl hh =>
   have hch : ∀ i, ∃ x : α, i < n → (en x).length = ks.length ∧ ∀ j, j < ks.length → AV.Le ((f i).getD j .any) ((en x).getD j .any) := fun i => by
    by_cases hi : i < n
    ·obtain ⟨x, h1⟩ := hd (f i) ⟨hl i hi, fun j k hk => hh i j k hi hk⟩
     exact ⟨x, fun _ => h1⟩
    ·exact ⟨d0, fun x => absurd x hi⟩
   obtain ⟨F, hF⟩ := Classical.axiomOfChoice hch
   refine ⟨(List.range n).map F, by simpa using hn, ?_⟩
   rw [List.length_map, List.length_range]
   refine AV.Le.rslD fun i hi => ?_
   have e : ((List.range n).map F).getD i d0 = F i := by
    rw [List.getD_eq_getElem?_getD, List.getElem?_map, List.getElem?_range hi]; rfl
   rw [e]
   exact hF i hi
theorem told_int {cs : List AV} {k : IntKind} (j : Nat) {ks : List CK} (h : Told ks cs) (hk : ks[j]? = some (.int k)) : ∃ z : Int, cs.getD j .any = .lit (.int k z) ∧ (Lit.int k z).wf = true := by
 have := h.2 j _ hk
 generalize cs.getD j .any = x at *
 cases this with
 | int hw => exact ⟨_, rfl, hw⟩
end Go.V
end
section
set_option linter.unusedVariables false
set_option linter.unusedSimpArgs false
set_option maxHeartbeats 4000000
set_option maxRecDepth 100000
namespace Go.Proofs.YtdopkbldjagmlaaGreat
open Go.V
theorem gsample_tri (n : Int) (H : Hp) : PTri Tryz.prog (fnA 34) [i64 n] H (smG n).av := by
 refine Tri.resLe (R1 := fun r H' => r = .ret (.agg [.rsl 3 4 (fun i => [[i64 20, i64 2, i64 12, i64 (-1)], [i64 12, i64 0, i64 n, i64 0], [i64 9, i64 3, i64 12, i64 1]].getD i []), .rsl 2 3 (fun i => [[i64 5, i64 6, i64 7], [i64 4, i64 4, i64 6]].getD i []), i64 8, i64 1, i64 16, .rsl 2 1 (fun i => [[i64 4], [i64 0]].getD i []), .rsl 2 3 (fun i => [[i64 4, i64 0, i64 8], [i64 6, i64 0, i64 8]].getD i [])]) ∧ H' = H) ?_ fun r H' h => .inr ⟨_, (smG n).av, h.1, ?_, rfl, h.2⟩
 ·refine Tri.drop ?_
  refine tri_v0 (fun _ => false) Tryz.func34 (by kernel_rfl) rfl (by simp only [List.length_append, List.length_cons, List.length_nil, Tryz.ntmps34]; decide) ?_
  simp only [vsAll, cellA, cellsA, fillA, okParts, buildSliceA, partIdx, elemsA, lensA, okAll, stAll, opsA, partsA, partsOk, opA, allocA, dstOk, argFr, Nat.reduceAdd, Nat.reduceMul, Nat.reduceLT, Nat.reduceLeDiff, Nat.reduceEqDiff, Int.reduceNeg, ↓reduceIte, reduceCtorEq, eq_self, wtAll, Tryz.ntmps34]
  intro i2 hh_i2; (try simp only [Hp.set_none, ite_none] at hh_i2)
  refine callK_pure (gspan_tri 5 6 _) ?_
  simp only [vsAll, cellA, cellsA, fillA, okParts, okAll, stAll, opsA, partsA, partsOk, opA, dstOk, Nat.reduceAdd, Nat.reduceLT, Nat.reduceLeDiff, Int.reduceNeg, ↓reduceIte, eq_self, wtAll]
  refine callK_pure (gspan_tri 4 4 _) ?_
  simp only [vsAll, loadA, loadRow, partA, partOk, cellA, cellsA, fillA, okParts, buildSliceA, partIdx, elemsA, lensA, partsA, partsOk, opA, newCells, okCells, storeObj, dstOk, resA, retA.eq_1, Nat.reduceAdd, Nat.reduceMul, Nat.reduceLT, Nat.reduceLeDiff, Nat.reduceEqDiff, Int.reduceNeg, ↓reduceIte, eq_self, wtAll, Tryz.results34]
  exact dropR_pure rfl (by (repeat (first | exact HSub_rfl | refine HSub_put_eq (by simp only [vsAll, ↓reduceIte, eq_self, reduceCtorEq, Nat.reduceEqDiff, hh_i2]) ?_ | refine HSub_drop2 (by simp only [eq_self, hh_i2]) ?_ | refine HSub_keep_eq (by simp only [vsAll, ↓reduceIte, eq_self, reduceCtorEq, Nat.reduceEqDiff, hh_i2]) ?_)))
 ·refine AV.Le.aggD rfl fun j hj => ?_
  match j, hj with
  | 0, _ =>
    refine AV.Le.rsl fun i hi => ?_
    match i, hi with
    | 0, _ => rfl
    | 1, _ => rfl
    | 2, _ => rfl
  | 1, _ =>
    refine AV.Le.rsl fun i hi => ?_
    match i, hi with
    | 0, _ => rfl
    | 1, _ => rfl
  | 2, _ => exact AV.Le.refl _
  | 3, _ => exact AV.Le.refl _
  | 4, _ => exact AV.Le.refl _
  | 5, _ =>
    refine AV.Le.rsl fun i hi => ?_
    match i, hi with
    | 0, _ => rfl
    | 1, _ => rfl
  | 6, _ =>
    refine AV.Le.rsl fun i hi => ?_
    match i, hi with
    | 0, _ => rfl
    | 1, _ => rfl
theorem gint2 (a b : Int) : AV.Le (.rsl 2 1 (fun i => [[i64 a], [i64 b]].getD i [])) (intsAV [a, b]) := AV.Le.rsl fun i hi => by
 match i, hi with
 | 0, _ => rfl
 | 1, _ => rfl
theorem gint3 (a b c : Int) : AV.Le (.rsl 3 1 (fun i => [[i64 a], [i64 b], [i64 c]].getD i [])) (intsAV [a, b, c]) := AV.Le.rsl fun i hi => by
 match i, hi with
 | 0, _ => rfl
 | 1, _ => rfl
 | 2, _ => rfl
theorem gint4 (a b c d : Int) : AV.Le (.rsl 4 1 (fun i => [[i64 a], [i64 b], [i64 c], [i64 d]].getD i [])) (intsAV [a, b, c, d]) := AV.Le.rsl fun i hi => by
 match i, hi with
 | 0, _ => rfl
 | 1, _ => rfl
 | 2, _ => rfl
 | 3, _ => rfl
theorem gsp3 (a b c d e f : Int) : AV.Le (.rsl 3 2 (fun i => [[i64 a, i64 b], [i64 c, i64 d], [i64 e, i64 f]].getD i [])) (spaAV [(a, b), (c, d), (e, f)]) := AV.Le.rsl fun i hi => by
 match i, hi with
 | 0, _ => rfl
 | 1, _ => rfl
 | 2, _ => rfl
theorem args2 {f : Nat} {x y y' : AV} {H : Hp} {v : AV} (h : PTri Tryz.prog (fnA f) [x, y'] H v) (hy : AV.Le y y') : PTri Tryz.prog (fnA f) [x, y] H v := Tri.args h rfl fun j hj => by
 match j, hj with
 | 0, _ => exact AV.Le.refl _
 | 1, _ => exact hy
theorem args3 {f : Nat} {x z y y' : AV} {H : Hp} {v : AV} (h : PTri Tryz.prog (fnA f) [x, z, y'] H v) (hy : AV.Le y y') : PTri Tryz.prog (fnA f) [x, z, y] H v := Tri.args h rfl fun j hj => by
 match j, hj with
 | 0, _ => exact AV.Le.refl _
 | 1, _ => exact AV.Le.refl _
 | 2, _ => exact hy
theorem awake_tri (H : Hp) : PTri Tryz.prog (fnA 8) [] H (boo true) := by
 have kn := sm_ok.near
 have kn8 := sm_ok8.near
 refine Tri.drop ?_
 refine tri_v0 (fun _ => false) Tryz.func8 (by kernel_rfl) rfl (by simp only [List.length_append, List.length_nil, Tryz.ntmps8]; decide) ?_
 simp only [vsAll, okAll, stAll, opsA, opA, dstOk, nilSliceOp, Nat.reduceLT, eq_self, Tryz.ntmps8]
 refine callK_pure (gsample_tri 10 _) ?_
 simp only [vsAll, loadA, loadRow, partA, partOk, cellA, okAll, stAll, opsA, opA, allocA, newCells, okCells, storeObj, dstOk, Nat.reduceAdd, Nat.reduceLT, Nat.reduceEqDiff, ↓reduceIte, eq_self, wtAll]
 intro i1 hh_i1; (try simp only [Hp.set_none, ite_none] at hh_i1)
 refine callK_pure (wready_tri (smG 10) 1 _ kn) ?_
 simp only [vsAll, loadA, loadRow, partA, partOk, extractA, cellA, cellsA, okParts, buildSliceA, partIdx, elemsA, lensA, okAll, stAll, opsA, partsA, partsOk, opA, dstOk, nilSliceOp, Nat.reduceAdd, Nat.reduceMul, Nat.reduceLT, Nat.reduceLeDiff, Nat.reduceEqDiff, ↓reduceIte, eq_self, wtAll, sm1, sm2]
 refine callK_pure (args3 (wrow_tri (smG 10) 0 [0, 1, 2] _ kn (by decide)) (gint3 0 1 2)) ?_
 simp only [vsAll, loadA, loadRow, partA, partOk, extractA, cellA, cellsA, okParts, buildSliceA, partIdx, elemsA, lensA, okAll, stAll, opsA, partsA, partsOk, opA, dstOk, nilSliceOp, Nat.reduceAdd, Nat.reduceMul, Nat.reduceLT, Nat.reduceLeDiff, Nat.reduceEqDiff, ↓reduceIte, eq_self, wtAll, sm3, sm4]
 refine callK_pure (args3 (wchk_tri (smG 10) 0 [1, 0] _ kn (by decide)) (gint2 1 0)) ?_
 simp only [vsAll, loadA, loadRow, partA, partOk, extractA, okAll, stAll, opsA, opA, dstOk, nilSliceOp, Nat.reduceAdd, Nat.reduceLT, Nat.reduceEqDiff, ↓reduceIte, eq_self, wtAll, sm5, sm6]
 refine callK_pure (wcan_tri (smG 10) 1 6 _ kn) ?_
 simp only [vsAll, loadA, loadRow, partA, partOk, extractA, okAll, stAll, opsA, opA, dstOk, nilSliceOp, Nat.reduceAdd, Nat.reduceLT, Nat.reduceEqDiff, ↓reduceIte, eq_self, wtAll, sm7, sm8]
 refine callK_pure (wsets_tri (smG 10) 1 _ kn) ?_
 simp only [vsAll, loadA, loadRow, partA, partOk, extractA, okAll, stAll, opsA, opA, dstOk, nilSliceOp, Nat.reduceAdd, Nat.reduceLT, Nat.reduceEqDiff, ↓reduceIte, eq_self, wtAll, sm9, sm10]
 refine callK_pure (wdeal_tri (smG 10) _ kn) ?_
 simp only [vsAll, loadA, loadRow, partA, partOk, extractA, okAll, stAll, opsA, opA, dstOk, nilSliceOp, Nat.reduceAdd, Nat.reduceLT, Nat.reduceEqDiff, ↓reduceIte, eq_self, wtAll, sm11, sm12, sm13]
 refine callK_pure (wenough_tri (smG 10) _ kn) ?_
 simp only [vsAll, extractA, okAll, stAll, opsA, opA, dstOk, nilSliceOp, Nat.reduceAdd, Nat.reduceLT, Nat.reduceEqDiff, ↓reduceIte, eq_self, sm14, sm15]
 refine callK_pure (gsample_tri 8 _) ?_
 simp only [vsAll, okAll, stAll, opsA, opA, dstOk, Nat.reduceLT, ↓reduceIte, eq_self]
 refine callK_pure (wleave_tri (smG 8) _ kn8) ?_
 simp only [vsAll, loadA, loadRow, partA, partOk, extractA, okAll, stAll, opsA, opA, dstOk, nilSliceOp, Nat.reduceAdd, Nat.reduceLT, Nat.reduceEqDiff, ↓reduceIte, eq_self, wtAll, sm16, sm17]
 refine callK_pure (wcan_tri (smG 10) 0 7 _ kn) ?_
 simp only [vsAll, binA, binLitA, intA, extractA, pickA, opA, guardV, dstOk, nilSliceOp, Nat.reduceAdd, Nat.reduceLT, Nat.reduceEqDiff, ↓reduceIte, implies_true, eq_self, sm18, sm19]
 refine gcall _ (fun hg => ⟨by simp only [vsAll, opA], by simp only [vsAll, okAll, opsA, opA], gspan_tri 6 6 _⟩) ?_
 simp only [vsAll, guardV, dstOk, Nat.reduceLT, Nat.reduceEqDiff, ↓reduceIte, eq_self]
 refine gcall _ (fun hg => ⟨by simp only [vsAll, opA], by simp only [vsAll, okAll, opsA, opA], gspan_tri 8 9 _⟩) ?_
 simp only [vsAll, guardV, dstOk, Nat.reduceLT, Nat.reduceEqDiff, ↓reduceIte, eq_self]
 refine gcall _ (fun hg => ⟨by simp only [vsAll, opA], by simp only [vsAll, okAll, opsA, opA], gspan_tri 10 11 _⟩) ?_
 simp only [vsAll, cellsA, okParts, buildSliceA, partIdx, elemsA, lensA, partsA, partsOk, opA, guardV, dstOk, Nat.reduceAdd, Nat.reduceMul, Nat.reduceLT, Nat.reduceLeDiff, Nat.reduceEqDiff, ↓reduceIte, eq_self, wtAll]
 refine gcall (boo true) (fun hg => ⟨by simp only [vsAll, opA], by simp only [vsAll, okAll, opsA, opA, Nat.reduceEqDiff, ↓reduceIte, eq_self], args2 (gspans_tri [(6, 6), (8, 9), (10, 11)] [(6, 6), (8, 9), (10, 11)] _ (by decide) (by decide)) (gsp3 6 6 8 9 10 11)⟩) ?_
 simp only [vsAll, binA, binLitA, intA, unA, cellA, cellsA, okParts, buildSliceA, partIdx, elemsA, lensA, pickA, partsA, partsOk, opA, guardV, dstOk, Nat.reduceAdd, Nat.reduceMul, Nat.reduceLT, Nat.reduceLeDiff, Nat.reduceEqDiff, ↓reduceIte, implies_true, eq_self, wtAll]
 refine gcall (boo true) (fun hg => ⟨by simp only [vsAll, opA], by simp only [vsAll, okAll, opsA, opA, Nat.reduceEqDiff, ↓reduceIte, eq_self], args2 (gints_tri [1, 2] [1, 2] _ (by decide) (by decide)) (gint2 1 2)⟩) ?_
 simp only [vsAll, binA, binLitA, intA, unA, cellA, cellsA, okParts, buildSliceA, partIdx, elemsA, lensA, pickA, partsA, partsOk, opA, guardV, dstOk, Nat.reduceAdd, Nat.reduceMul, Nat.reduceLT, Nat.reduceLeDiff, Nat.reduceEqDiff, ↓reduceIte, implies_true, eq_self, wtAll]
 refine gcall (boo true) (fun hg => ⟨by simp only [vsAll, opA], by simp only [vsAll, okAll, opsA, opA, Nat.reduceEqDiff, ↓reduceIte, eq_self], args2 (gints_tri [0, 1, 2] [0, 1, 2] _ (by decide) (by decide)) (gint3 0 1 2)⟩) ?_
 simp only [vsAll, binA, binLitA, intA, unA, cellA, cellsA, okParts, buildSliceA, partIdx, elemsA, lensA, pickA, okAll, stAll, opsA, partsA, partsOk, opA, guardV, dstOk, Nat.reduceAdd, Nat.reduceMul, Nat.reduceLT, Nat.reduceLeDiff, Nat.reduceEqDiff, ↓reduceIte, implies_true, eq_self, wtAll]
 refine callK_pure (v := boo true) (args2 (gints_tri [0, 2, 4, 6] [0, 2, 4, 6] _ (by decide) (by decide)) (gint4 0 2 4 6)) ?_
 simp only [vsAll, binA, binLitA, intA, cellA, cellsA, okParts, buildSliceA, partIdx, elemsA, lensA, pickA, partsA, partsOk, opA, guardV, dstOk, Nat.reduceAdd, Nat.reduceMul, Nat.reduceLT, Nat.reduceLeDiff, Nat.reduceEqDiff, ↓reduceIte, implies_true, eq_self, wtAll]
 refine gcall (boo true) (fun hg => ⟨by simp only [vsAll, opA], by simp only [vsAll, okAll, opsA, opA, Nat.reduceEqDiff, ↓reduceIte, eq_self], args2 (gints_tri [0, 0, 1] [0, 0, 1] _ (by decide) (by decide)) (gint3 0 0 1)⟩) ?_
 simp only [vsAll, binA, binLitA, intA, pickA, opA, guardV, dstOk, nilSliceOp, resA, retA.eq_1, Nat.reduceLT, Nat.reduceEqDiff, ↓reduceIte, implies_true, eq_self, Tryz.results8]
 exact dropR_pure rfl (by (repeat (first | exact HSub_rfl | refine HSub_put_eq (by simp only [vsAll, ↓reduceIte, eq_self, reduceCtorEq, Nat.reduceEqDiff, hh_i1]) ?_ | refine HSub_drop2 (by simp only [eq_self, hh_i1]) ?_ | refine HSub_keep_eq (by simp only [vsAll, ↓reduceIte, eq_self, reduceCtorEq, Nat.reduceEqDiff, hh_i1]) ?_)))
end Go.Proofs.YtdopkbldjagmlaaGreat
end
section
set_option linter.unusedVariables false
set_option linter.unusedSimpArgs false
set_option maxHeartbeats 4000000
set_option maxRecDepth 100000
namespace Go.Proofs.YtdopkbldjagmlaaGreat
open Go.V
/-- Places of one pot, at least 1. -/
def hvM (g : Gg) : Nat := (max 1 ((g.pt.fs.length : Int) * g.pt.hr)).toNat
def heavyB (g : Gg) (n : Nat) (a b : Int) : Bool := if farG g n = true then true else if OkG g then decide (a < ((hvM g ^ g.pt.ps.length : Nat) : Int)) || decide (b < (g.sm.length : Int)) else false
theorem heavy_far {g : Gg} {n : Nat} {a b : Int} (h : heavyB g n a b = false) : farG g n = false := by
 unfold heavyB at h
 split at h
 ·cases h
 ·rename_i h1
  simpa using h1
theorem hvM_eq {g : Gg} (k : OkG g) : ((hvM g : Nat) : Int) = max 1 ((g.pt.fs.length : Int) * g.pt.hr) ∧ 1 ≤ hvM g ∧ hvM g ≤ 36 := by
 have h1 := k.p.hr
 have h2 := k.p.nF
 unfold hvM
 have h3 : (g.pt.fs.length : Int) * g.pt.hr ≤ 3 * g.pt.hr := Int.mul_le_mul_of_nonneg_right (by omega) h1.1
 generalize (g.pt.fs.length : Int) * g.pt.hr = q at *
 omega
theorem heavy_tri (g : Gg) (l : List Int) (a b : Int) (H : Hp) : PTri Tryz.prog (fnA 7) [g.av, intsAV l, i64 a, i64 b] H (boo (heavyB g l.length a b)) := by
 refine tri_v0 (fun _ => false) Tryz.func7 (by kernel_rfl) rfl (by simp only [List.length_append, List.length_cons, List.length_nil, Tryz.ntmps7]; decide) ?_
 simp only [vsAll, loadA, loadRow, partA, partOk, boxA, boxZ, okAll, stAll, opsA, opA, dstOk, nilSliceOp, argFr, Nat.reduceAdd, Nat.reduceLT, Nat.reduceEqDiff, ↓reduceIte, eq_self, wtAll, Tryz.ntmps7]
 refine callK_pure (gfar_tri g l _) ?_
 simp only [vsAll, loadA, loadRow, partA, partOk, opA, guardV, dstOk, Nat.reduceLT, Nat.reduceEqDiff, ↓reduceIte, implies_true, eq_self, wtAll]
 refine gcall (boo (decide (OkG g))) (fun hg => ⟨by simp only [vsAll, opA], by simp only [vsAll, okAll, opsA, opA, ↓reduceIte, eq_self, hg], gangs_tri g _ (farG_near (n := l.length) (by simpa using hg)).1⟩) ?_
 simp only [vsAll, unA, loadA, loadRow, partA, partOk, fieldAddrA, pickA, opA, guardV, dstOk, Nat.reduceAdd, Nat.reduceLT, Nat.reduceEqDiff, ↓reduceIte, implies_true, eq_self, wtAll]
 refine gcall (boo (decide (Ok g.pt))) (fun hg => ⟨by simp only [vsAll, opA], by simp only [vsAll, okAll, opsA, opA, ↓reduceIte, eq_self, hg], rpitch_tri g.pt _ (farG_near (n := l.length) (by
  cases h : farG g l.length with
  | false => rfl
  | true => rw [h] at hg; simp at hg)).1.p⟩) ?_
 simp only [vsAll, unA, pickA, opA, guardV, dstOk, Nat.reduceLT, Nat.reduceEqDiff, ↓reduceIte, implies_true, eq_self]
 refine condV (fun hc => ?_) (fun hc => ?_)
 ·have e : heavyB g l.length a b = farG g l.length := by
   unfold heavyB
   cases hf : farG g l.length with
   | true => rfl
   | false =>
     rw [hf] at hc
     have hn : ¬ OkG g := fun k => by
      have kp := k.p
      rw [decide_eq_true k, decide_eq_true kp] at hc
      cases hc
     rw [if_neg (by decide), if_neg hn]
  rw [e]
  simp only [vsAll, loadA, loadRow, partA, partOk, okAll, stAll, opsA, opA, dstOk, argFr, Nat.reduceLT, Nat.reduceEqDiff, ↓reduceIte, eq_self, wtAll]
  refine callK_pure (gfar_tri g l _) ?_
  simp only [vsAll, opA, dstOk, nilSliceOp, resA, retA.eq_1, Nat.reduceLT, ↓reduceIte, eq_self, Tryz.results7]
 ·have hf : farG g l.length = false := by
   cases h : farG g l.length with
   | false => rfl
   | true => rw [h] at hc; simp at hc
  have k : OkG g := by
   rw [hf] at hc
   by_cases k : OkG g
   ·exact k
   ·rw [decide_eq_false k] at hc; simp at hc
  have e : heavyB g l.length a b = (decide (a < ((hvM g ^ g.pt.ps.length : Nat) : Int)) || decide (b < (g.sm.length : Int))) := by
   unfold heavyB
   rw [if_neg (by rw [hf]; decide), if_pos k]
  have nP := k.p.nP
  have nF := k.p.nF
  have hr := k.p.hr
  have nS := k.nS
  obtain ⟨m1, m2, m3⟩ := hvM_eq k
  have hq : 0 ≤ (g.pt.fs.length : Int) * g.pt.hr ∧ (g.pt.fs.length : Int) * g.pt.hr ≤ 36 := by
   have h3 : (g.pt.fs.length : Int) * g.pt.hr ≤ 3 * g.pt.hr := Int.mul_le_mul_of_nonneg_right (by omega) hr.1
   have h4 : 0 ≤ (g.pt.fs.length : Int) * g.pt.hr := Int.mul_nonneg (by omega) hr.1
   omega
  have hpw : ∀ i, i ≤ 4 → hvM g ^ i ≤ 1679616 := fun i hi => by
   have a1 : hvM g ^ i ≤ 36 ^ i := Nat.pow_le_pow_left m3 i
   have a2 : 36 ^ i ≤ 36 ^ 4 := Nat.pow_le_pow_right (by decide) hi
   omega
  rw [e]
  simp only [vsAll, loadA, loadRow, partA, partOk, fieldAddrA, lenA, opA, dstOk, nilSliceOp, Nat.reduceAdd, Nat.reduceLT, Nat.reduceEqDiff, ↓reduceIte, eq_self, wtAll]
  refine vs_loop (σ := Nat) (fun i => i ≤ g.pt.ps.length) (fun i => [(2, i64 a), (3, i64 b), (4, gptr g), (9, i64 (hvM g ^ i : Nat)), (30, i64 g.pt.ps.length), (31, i64 i)]) (fun _ => H) (fun i => g.pt.ps.length - i) 0 (Nat.zero_le _) ?_ HSub_rfl fun i hi => ?_
  ·simp only [vsAll, argFr, Nat.reduceEqDiff, ↓reduceIte, eq_self, Int.natCast_zero, Nat.pow_zero]
   try exact AV.Le.refl _
  ·simp only [vsAll, binA, binLitA, intA, opA, dstOk, Nat.reduceLT, Nat.reduceEqDiff, ↓reduceIte, eq_self]
   refine condD (fun hd => ?_) (fun hd => ?_)
   ·have his : i < g.pt.ps.length := by omega
    have b1 := hpw i (by omega)
    have b2 := hpw (i + 1) (by omega)
    have e2 : ((hvM g ^ i : Nat) : Int) * ((hvM g : Nat) : Int) = ((hvM g ^ (i + 1) : Nat) : Int) := by rw [Nat.pow_succ, Int.natCast_mul]
    simp only [vsAll, binA, binLitA, intA, loadA, loadRow, partA, partOk, fieldAddrA, lenA, mmA, okAll, stAll, opsA, opA, dstOk, nilSliceOp, Nat.reduceAdd, Nat.reduceLT, Nat.reduceEqDiff, ↓reduceIte, eq_self, wtAll, ← m1, e2]
    refine ⟨by simp only [InR_i64]; omega, by simp only [InR_i64]; omega, by simp only [InR_i64]; omega, loop_next (i + 1) his (by omega) ?_ HSub_rfl⟩
    simp only [vsAll, Nat.reduceEqDiff, ↓reduceIte, eq_self, Int.natCast_add, Int.natCast_one]
   ·have ei : i = g.pt.ps.length := by omega
    subst ei
    simp only [vsAll, binA, binLitA, intA, loadA, loadRow, partA, partOk, fieldAddrA, lenA, pickA, opA, guardV, dstOk, nilSliceOp, resA, retA.eq_1, Nat.reduceLT, Nat.reduceEqDiff, ↓reduceIte, implies_true, eq_self, wtAll, Tryz.results7]
theorem heavy0_tri (g : Gg) (a b : Int) (H : Hp) : PTri Tryz.prog (fnA 7) [g.av, .lit (.slice none 0 0), i64 a, i64 b] H (boo (heavyB g 0 a b)) := Tri.args (heavy_tri g [] a b H) rfl fun j hj => by
 match j, hj with
 | 0, _ => exact AV.Le.refl _
 | 1, _ => exact AV.Le.nil _ _
 | 2, _ => exact AV.Le.refl _
 | 3, _ => exact AV.Le.refl _
theorem deals_law (g : Gg) (H : Hp) : PTri Tryz.prog (fnA 5) [g.av] H (boo true) := by
 refine tri_v0 (fun _ => false) Tryz.func5 (by kernel_rfl) rfl (by simp only [List.length_append, List.length_cons, List.length_nil, Tryz.ntmps5]; decide) ?_
 simp only [vsAll, loadA, loadRow, partA, partOk, boxA, boxZ, okAll, stAll, opsA, opA, dstOk, nilSliceOp, argFr, Nat.reduceAdd, Nat.reduceLT, Nat.reduceEqDiff, ↓reduceIte, eq_self, wtAll, Tryz.ntmps5]
 refine callK_pure (heavy0_tri g 1000 4 _) ?_
 simp only [vsAll, opA, ↓reduceIte, eq_self]
 refine condV (fun hc => ?_) (fun hc => ?_)
 ·simp only [vsAll, okAll, stAll, opsA, opA, dstOk, Nat.reduceLT]
  refine callK_pure (awake_tri _) ?_
  simp only [vsAll, opA, dstOk, nilSliceOp, resA, retA.eq_1, Nat.reduceLT, ↓reduceIte, eq_self, Tryz.results5]
 ·obtain ⟨kn, hl⟩ := farG_near (heavy_far hc)
  have hv : (dealL g).length < 2 ^ 60 := by
   by_cases h : dealE g = 0
   ·have hz : errG g true = 0 := by
     unfold dealE at h
     split at h
     ·assumption
     ·exact h
    obtain ⟨k, _⟩ := errG_zero hz
    have hs : (dO g g.F g.A g.N []).isSome = true := by
     unfold dealE at h
     rw [if_pos hz] at h
     split at h
     ·assumption
     ·cases h
    have hp : 0 < (dlsL g g.F g.A).length := by
     rcases Nat.eq_zero_or_pos (dlsL g g.F g.A).length with h0 | h0
     ·rw [deal_doc.2 h0] at hs; cases hs
     ·exact h0
    obtain ⟨b1, b2, b3⟩ := bstD_eq hp
    have e2 : dealH g = domI g (bstD g) := by unfold dealH; rw [if_pos h, b1]; rfl
    have e3 : dealL g = bstD g := by unfold dealL; rw [if_pos h, e2, b2]
    have := b3.len
    have := k.nS
    have hNe : g.N = g.sm.length := rfl
    rw [e3]; omega
   ·have : dealL g = [] := if_neg h
    rw [this]; decide
  have hin := gints_tri (dealL g) (dealL g)
  rw [decide_eq_true (rfl : dealL g = dealL g)] at hin
  simp only [vsAll, loadA, loadRow, partA, partOk, okAll, stAll, opsA, opA, dstOk, Nat.reduceLT, Nat.reduceEqDiff, ↓reduceIte, eq_self, wtAll]
  refine callK_pure (wdeal_tri g _ kn) ?_
  simp only [vsAll, loadA, loadRow, partA, partOk, extractA, okAll, stAll, opsA, opA, dstOk, nilSliceOp, Nat.reduceAdd, Nat.reduceLT, Nat.reduceEqDiff, ↓reduceIte, eq_self, wtAll]
  refine callK_pure (ddeal_tri g _ kn) ?_
  simp only [vsAll, loadA, loadRow, partA, partOk, extractA, okAll, stAll, opsA, opA, dstOk, nilSliceOp, Nat.reduceAdd, Nat.reduceLT, Nat.reduceEqDiff, ↓reduceIte, eq_self, wtAll]
  refine callK_pure (wenough_tri g _ kn) ?_
  simp only [vsAll, loadA, loadRow, partA, partOk, extractA, okAll, stAll, opsA, opA, dstOk, nilSliceOp, Nat.reduceAdd, Nat.reduceLT, Nat.reduceEqDiff, ↓reduceIte, eq_self, wtAll]
  refine callK_pure (denough_tri g _ kn) ?_
  simp only [vsAll, loadA, loadRow, partA, partOk, extractA, okAll, stAll, opsA, opA, dstOk, nilSliceOp, Nat.reduceAdd, Nat.reduceLT, Nat.reduceEqDiff, ↓reduceIte, eq_self, wtAll]
  refine callK_pure (wleave_tri g _ kn) ?_
  simp only [vsAll, loadA, loadRow, partA, partOk, extractA, okAll, stAll, opsA, opA, dstOk, nilSliceOp, Nat.reduceAdd, Nat.reduceLT, Nat.reduceEqDiff, ↓reduceIte, eq_self, wtAll]
  refine callK_pure (dleave_tri g _ kn) ?_
  simp only [vsAll, binA, binLitA, intA, extractA, opA, guardV, dstOk, nilSliceOp, Nat.reduceAdd, Nat.reduceLT, Nat.reduceEqDiff, ↓reduceIte, eq_self]
  refine gcall (boo true) (fun g => ⟨by simp only [vsAll, opA], by simp only [vsAll, okAll, opsA, opA, Nat.reduceEqDiff, ↓reduceIte, eq_self], hin _ hv hv⟩) ?_
  simp only [vsAll, binA, binLitA, intA, pickA, opA, guardV, dstOk, Nat.reduceLT, Nat.reduceEqDiff, ↓reduceIte, implies_true, eq_self]
  refine gcall (boo true) (fun g => ⟨trivial, by simp only [okAll, opsA], awake_tri _⟩) ?_
  simp only [vsAll, pickA, opA, dstOk, nilSliceOp, resA, retA.eq_1, Nat.reduceLT, Nat.reduceEqDiff, ↓reduceIte, implies_true, eq_self, Tryz.results5]
end Go.Proofs.YtdopkbldjagmlaaGreat
end
section
set_option linter.unusedVariables false
namespace Go.Proofs.YtdopkbldjagmlaaGreat
open Go.V
def byF (b : Nat → Int) : Nat → List AV := fun i => [.lit (.int .u8 (b i))]
end Go.Proofs.YtdopkbldjagmlaaGreat
end
section
set_option linter.unusedVariables false
set_option linter.unusedSimpArgs false
set_option maxRecDepth 100000
namespace Go.Proofs.YtdopkbldjagmlaaGreat
open Go.V Go.ChangeShapes Go.WideShapes Go.ChangeAt Go.RowKit
theorem gang_cells : cellsT Tryz.prog 9 29 = some [.sl [.int .i64, .int .i64, .int .i64, .int .i64], .sl [.int .i64, .int .i64, .int .i64], .int .i64, .int .i64, .int .i64, .sl [.int .i64], .sl [.int .i64, .int .i64, .int .i64]] := by kernel_rfl
theorem ints_of {av : AV} (h : CKA (.sl [.int .i64]) av) : ∃ l : List Int, l.length ≤ maxLen ∧ AV.Le av (intsAV l) := by
 obtain ⟨l, h1, h2⟩ := told_slice (α := Int) (fun z => [i64 z]) 0 (fun cs hcs => by
  obtain ⟨z, hz, _⟩ := told_int 0 hcs rfl
  exact ⟨z, rfl, fun j hj => by
   match j, hj with
   | 0, _ => rw [hz]; exact AV.Le.refl _⟩) h
 exact ⟨l, h1, h2⟩
theorem seams_of {av : AV} (h : CKA (.sl [.int .i64, .int .i64, .int .i64, .int .i64]) av) : ∃ l : List Sm, l.length ≤ maxLen ∧ AV.Le av (smAV l) := by
 obtain ⟨l, h1, h2⟩ := told_slice (α := Sm) Sm.cs sm0 (fun cs hcs => by
  obtain ⟨a, ha, _⟩ := told_int 0 hcs rfl
  obtain ⟨b, hb, _⟩ := told_int 1 hcs rfl
  obtain ⟨c, hc, _⟩ := told_int 2 hcs rfl
  obtain ⟨d, hd, _⟩ := told_int 3 hcs rfl
  exact ⟨⟨a, b, c, d⟩, rfl, fun j hj => by
   match j, hj with
   | 0, _ => rw [ha]; exact AV.Le.refl _
   | 1, _ => rw [hb]; exact AV.Le.refl _
   | 2, _ => rw [hc]; exact AV.Le.refl _
   | 3, _ => rw [hd]; exact AV.Le.refl _⟩) h
 exact ⟨l, h1, h2⟩
theorem crews_of {av : AV} (h : CKA (.sl [.int .i64, .int .i64, .int .i64]) av) : ∃ l : List Cw, l.length ≤ maxLen ∧ AV.Le av (cwAV l) := by
 obtain ⟨l, h1, h2⟩ := told_slice (α := Cw) Cw.cs cw0 (fun cs hcs => by
  obtain ⟨a, ha, _⟩ := told_int 0 hcs rfl
  obtain ⟨b, hb, _⟩ := told_int 1 hcs rfl
  obtain ⟨c, hc, _⟩ := told_int 2 hcs rfl
  exact ⟨⟨a, b, c⟩, rfl, fun j hj => by
   match j, hj with
   | 0, _ => rw [ha]; exact AV.Le.refl _
   | 1, _ => rw [hb]; exact AV.Le.refl _
   | 2, _ => rw [hc]; exact AV.Le.refl _⟩) h
 exact ⟨l, h1, h2⟩
theorem pots_of {av : AV} (h : CKA (.sl [.int .i64, .int .i64, .int .i64]) av) : ∃ l : List Po, l.length ≤ maxLen ∧ AV.Le av (psAV l) := by
 obtain ⟨l, h1, h2⟩ := told_slice (α := Po) Po.cs po0 (fun cs hcs => by
  obtain ⟨a, ha, _⟩ := told_int 0 hcs rfl
  obtain ⟨b, hb, _⟩ := told_int 1 hcs rfl
  obtain ⟨c, hc, _⟩ := told_int 2 hcs rfl
  exact ⟨⟨a, b, c⟩, rfl, fun j hj => by
   match j, hj with
   | 0, _ => rw [ha]; exact AV.Le.refl _
   | 1, _ => rw [hb]; exact AV.Le.refl _
   | 2, _ => rw [hc]; exact AV.Le.refl _⟩) h
 exact ⟨l, h1, h2⟩
theorem gang_rel {H : Type} {enc : TypeId × Value → H} {W : World} {sp : Nat → Bool} {held : Bool} {v : Value} {d : DataW H} {ps : List MemPlace}
  {base : Nat} (hv : Value.okWide Tryz.prog W .any base 29 v) (h : DataW.Trod enc Tryz.prog W 0 sp held 29 v d ps) : ∃ g : Gg, True ∧ VRel (st0 W) g.av v := by
 obtain ⟨cs, hcs, hv⟩ := trod_agg gang_cells (by decide) h
 obtain ⟨sm, l0, h0⟩ := seams_of (hcs.2 0 _ rfl)
 obtain ⟨cw, l1, h1⟩ := crews_of (hcs.2 1 _ rfl)
 obtain ⟨hr, h2, _⟩ := told_int 2 hcs rfl
 obtain ⟨fro, h3, _⟩ := told_int 3 hcs rfl
 obtain ⟨per, h4, _⟩ := told_int 4 hcs rfl
 obtain ⟨fs, l5, h5⟩ := ints_of (hcs.2 5 _ rfl)
 obtain ⟨ps, l6, h6⟩ := pots_of (hcs.2 6 _ rfl)
 refine ⟨⟨sm, cw, ⟨hr, fro, per, fs, ps⟩⟩, trivial, AV.Le.aggD (cs := cs) hcs.1.symm (fun j hj => ?_) _ _ hv⟩
 have hj7 : j < 7 := by have := hcs.1; simp at this; omega
 match j, hj7 with
 | 0, _ => exact h0
 | 1, _ => exact h1
 | 2, _ => rw [h2]; exact AV.Le.refl _
 | 3, _ => rw [h3]; exact AV.Le.refl _
 | 4, _ => rw [h4]; exact AV.Le.refl _
 | 5, _ => exact h5
 | 6, _ => exact h6
theorem Tryz.own : ownKnob Tryz.prog.godebug = none := by kernel_rfl
theorem u3 : Tryz.prog.underlying 3 = some (.int .i64) := by kernel_rfl
theorem u4 : Tryz.prog.underlying 4 = some .bool := by kernel_rfl
def iz : Value → Int
 | .int _ n => n
 | _ => 0
end Go.Proofs.YtdopkbldjagmlaaGreat
end
section
set_option linter.unusedVariables false
set_option linter.unusedSimpArgs false
set_option maxRecDepth 100000
namespace Go.Proofs.YtdopkbldjagmlaaGreat
open Go.V Go.ChangeShapes Go.WideShapes Go.ChangeAt Go.RowKit
theorem gangDeals_lifted (os : Os) (started : os.Started) (H : Type) (enc : TypeId × Value → H) :
  ReturnsInHanded {} Tryz.checked os 5 .any (Rows.gangDealsSpec.pre6 enc Tryz.prog Tryz.f5 Rows.gangDealsRow.domain false) (Rows.gangDealsSpec.post enc Tryz.prog Tryz.f5 false true false false) := by
 refine returnsInHanded_of_change (C := Tryz.checked) Tryz.own started (by kernel_rfl) Tryz.func5
  (ChangeSpec.witness6 (enc := enc) (C := Tryz.checked) false ⟨#[], #[.agg #[.slice none 0 0, .slice none 0 0, .int .i64 0, .int .i64 0, .int .i64 0, .slice none 0 0, .slice none 0 0]], []⟩ 8 (by kernel_rfl) (by kernel_rfl) (by kernel_rfl) (by kernel_rfl)) ?_
 intro W base args ds gs before hval hW hcnd _
 have hW' := hW
 obtain ⟨p, q, hA, hV, rfl, hfz, hnd⟩ := hW
 obtain ⟨rfl, rfl⟩ := trodVars_none hV
 rw [show Tryz.f5.params.toList = [29] from by kernel_rfl] at hA
 obtain ⟨v0, d0, rfl, rfl, h0⟩ := trodAll_one hA
 have hval : ∀ (j : Nat) t v, Tryz.f5.params[j]? = some t → (#[v0] : Array Value)[j]? = some v → Value.okWide Tryz.prog W .any base t v := hval
 rw [show Tryz.f5.params = #[29] from by kernel_rfl] at hval
 obtain ⟨x0, b0, r0⟩ := gang_rel (hval 0 29 v0 rfl rfl) h0
 refine (law_calls (W := W) (args := #[v0]) Tryz.func5 (by kernel_rfl) rfl (Tri.mono (deals_law x0 H0 ) ?_) (fun p hp => by cases hp) ⟨rfl, fun k hk => match k, hk with | 0, _ => r0⟩).mono fun e W' he => ?_
 ·rintro r H' ⟨rfl, _⟩; rfl
 ·obtain ⟨rfl, hh, ho, hp⟩ := he
  exact ⟨_, rfl, law_post (d := 6) rfl (tb := 4) (by kernel_rfl) u4 (by decide +kernel) hW' rfl hh ho hp⟩

theorem gangDeals_holds : Rows.GangDealsSaid :=
 OpenClaim.holds_of_wide (p := Tryz.pinned) (s := Rows.gangDealsSpec) (c := Rows.gangDealsRow) 5 Tryz.f5 rfl rfl rfl rfl rfl rfl rfl ⟨rfl, rfl, rfl, rfl, rfl⟩ rfl rfl rfl rfl rfl (by kernel_rfl) Tryz.func5 (by kernel_rfl)
  (of_decide_eq_true (by kernel_rfl)) (by unfold Func.isWrapper; first | (rw [if_pos (by decide +kernel)]; kernel_rfl) | (rw [if_neg (by decide +kernel)]; exact ⟨rfl, rfl⟩))
  (fun os started H enc _ => gangDeals_lifted os started H enc)

end Go.Proofs.YtdopkbldjagmlaaGreat
end
