/- WHAT IS PROVED: the given statement of this claim. Conditions: none beyond the given row. -/
import Derived.Test.YtdopkbldjagmlaaRows
import Derived.ChangeVars
import Derived.Test.YtdopkbldjagmlaaCn5
section
set_option linter.unusedVariables false
set_option linter.unusedSimpArgs false
set_option maxHeartbeats 4000000
set_option maxRecDepth 100000
namespace Go.Proofs.Ytdopkbldjagmlaa
open Go.V
def ascN (S i : Nat) : List Int := ((List.range i).filter fun n => S.testBit n).map fun n : Nat => (n : Int)
theorem ascN_yes {S i : Nat} (h : S.testBit i = true) : ascN S (i + 1) = ascN S i ++ [(i : Int)] := by
 simp [ascN, List.range_succ, List.filter_append, h]
theorem ascN_no {S i : Nat} (h : S.testBit i = false) : ascN S (i + 1) = ascN S i := by
 simp [ascN, List.range_succ, List.filter_append, h]
theorem ascN_len (S i : Nat) : (ascN S i).length ≤ i := by
 have := List.length_filter_le (fun n => S.testBit n) (List.range i)
 simpa [ascN] using this
theorem ascN_row (S i : Nat) : RowOf S (ascN S i) := by
 refine rowOf_iff.2 ⟨?_, fun x hx => ?_⟩
 ·unfold ascN
  refine List.pairwise_map.2 ?_
  refine List.Pairwise.imp (R := fun a b : Nat => a ≠ b) (S := fun a b : Nat => (a : Int) ≠ (b : Int)) (fun {a b} h e => h (by omega)) ?_
  exact List.Pairwise.filter _ List.nodup_range
 ·simp only [ascN, List.mem_map, List.mem_filter] at hx
  obtain ⟨n, ⟨_, hb⟩, e⟩ := hx
  exact ⟨n, e.symm, hb⟩
theorem ascN_full {g : Gg} {S : Nat} (hN : g.N ≤ 5) (hS : S < 2 ^ g.N) : (ascN S g.N).length = pop S := by
 refine (rowOf_full (lt32 hN hS) (ascN_row S g.N)).2.1 ?_
 refine Nat.eq_of_testBit_eq fun n => ?_
 rw [Bool.eq_iff_iff, rowOf_set (ascN_row S g.N)]
 constructor
 ·intro h
  simp only [ascN, List.mem_map, List.mem_filter] at h
  obtain ⟨m, ⟨_, hb⟩, e⟩ := h
  have : m = n := by omega
  subst this; exact hb
 ·intro h
  simp only [ascN, List.mem_map, List.mem_filter, List.mem_range]
  exact ⟨n, ⟨bit_lt hS h, h⟩, rfl⟩
/-- Two places of a list are exchanged. -/
def swI (i k q : Nat) : Nat := if q = i then k else if q = k then i else q
def swL (l : List Int) (i k : Nat) : List Int := (List.range l.length).map fun q => l.getD (swI i k q) 0
theorem swL_len (l : List Int) (i k : Nat) : (swL l i k).length = l.length := by simp [swL]
theorem swL_at (l : List Int) (i k : Nat) {q : Nat} (h : q < l.length) : (swL l i k).getD q 0 = l.getD (swI i k q) 0 := by
 simp [swL, List.getD_eq_getElem?_getD, h]
theorem swI_lt {i k n q : Nat} (hi : i < n) (hk : k < n) (h : q < n) : swI i k q < n := by
 unfold swI
 split
 ·exact hk
 ·split
  ·exact hi
  ·exact h
theorem swI_inj {i k a b : Nat} (h : swI i k a = swI i k b) : a = b := by
 unfold swI at h
 split at h <;> split at h <;> (try split at h) <;> (try split at h) <;> omega
theorem swL_row {S : Nat} {l : List Int} (h : RowOf S l) {i k : Nat} (hi : i < l.length) (hk : k < l.length) : RowOf S (swL l i k) := by
 refine ⟨fun q hq => ?_, fun a b hab hb e => ?_⟩
 ·rw [swL_len] at hq
  rw [swL_at _ _ _ hq]
  exact h.at_ _ (swI_lt hi hk hq)
 ·rw [swL_len] at hb
  rw [swL_at _ _ _ (by omega), swL_at _ _ _ hb] at e
  have ha' := swI_lt hi hk (show a < l.length by omega)
  have hb' := swI_lt hi hk hb
  rcases Nat.lt_trichotomy (swI i k a) (swI i k b) with q | q | q
  ·exact h.nd _ _ q hb' e
  ·have := swI_inj q; omega
  ·exact h.nd _ _ q ha' e.symm
theorem swL_upd (l : List Int) {i k : Nat} (hi : i < l.length) (hk : k < l.length) (q : Nat) (hq : q < l.length) : updF l.length k (updF l.length i (intF l) [i64 (l.getD k 0)]) [i64 (l.getD i 0)] q = intF (swL l i k) q := by
 rw [Go.V.updF_at hk hq, Go.V.updF_at hi hq]
 simp only [intF]
 rw [swL_at l i k hq]
 unfold swI
 by_cases e1 : q = k
 ·subst e1
  rw [if_pos rfl]
  by_cases e2 : q = i
  ·subst e2; rw [if_pos rfl]
  ·rw [if_neg e2, if_pos rfl]
 ·rw [if_neg e1]
  by_cases e2 : q = i
  ·subst e2; rw [if_pos rfl, if_pos rfl]
  ·rw [if_neg e2, if_neg e2, if_neg e1]
theorem upd_drop (n i q : Nat) (l : List Int) (x : Int) : List.drop 1 (updF n i (intF l) [i64 x] q) = [] := by
 unfold updF
 split
 ·rfl
 ·show List.drop 1 (if q = i then _ else _) = _
  split <;> rfl
def drawR (S : Nat) (H : Hp) : Res → Hp → Prop := fun r H' => ∃ l : List Int, RowOf S l ∧ l.length = pop S ∧ ∃ id, H id = none ∧ r = .ret (.sl id 1 l.length) ∧ H' = H.set id (.row 1 l.length (intF l))
theorem drawnM_tri (g : Gg) (S N : Nat) (b : Nat → Int) (H : Hp) (k : OkG g) (hS : S < 2 ^ g.N) (hN : N < 2 ^ 63) (hb : ∀ i, i < N → 0 ≤ b i ∧ b i ≤ 255) : Tri Try.prog (fnA 17) [g.av, i64 (S : Nat), .rsl N 1 (byF b)] H (drawR S H) := by
 have nS := k.nS
 have hN5 : g.N ≤ 5 := nS
 have hNe : g.N = g.sm.length := rfl
 have hS5 := lt32 hN5 hS
 have hal := fun i => ascN_len S i
 refine Tri.drop ?_
 refine tri_v0 (mset [7]) Try.func17 (by kernel_rfl) rfl (by simp only [List.length_append, List.length_cons, List.length_nil, Try.ntmps17]; decide) ?_
 simp only [vsAll, loadA, loadRow, partA, partOk, fieldAddrA, lenA, boxA, boxZ, opA, dstOk, nilSliceOp, argFr, Nat.reduceAdd, Nat.reduceLT, Nat.reduceEqDiff, Nat.reduceBEq, ↓reduceIte, eq_self, wtAll, Try.ntmps17, Go.V.nilA]
 intro i7 hh_i7; (try simp only [Hp.set_none, ite_none] at hh_i7)
 refine vs_loop (σ := Nat) (fun i => i ≤ g.N) (fun i => [(1, i64 (S : Nat)), (2, .rsl N 1 (byF b)), (7, .sl i7 1 (ascN S i).length), (13, i64 g.N), (14, i64 i)]) (fun i => H.set i7 (.row 1 (ascN S i).length (intF (ascN S i)))) (fun i => g.N - i) 0 (Nat.zero_le _) ?_ ?_ fun i hi => ?_
 ·simp only [vsAll, argFr, Nat.reduceEqDiff, ↓reduceIte, eq_self, hNe, Int.natCast_zero]
  try exact AV.Le.refl _
 ·refine HSub_put (o' := .row 1 0 fun _ => []) (by simp only [vsAll, ↓reduceIte, eq_self]) (row0_le _ _ _) ?_
  (repeat (first | exact HSub_rfl | refine HSub_put_eq (by simp only [vsAll, ↓reduceIte, eq_self, reduceCtorEq, Nat.reduceEqDiff, hh_i7]) ?_ | refine HSub_drop2 (by simp only [eq_self, hh_i7]) ?_ | refine HSub_keep_eq (by simp only [vsAll, ↓reduceIte, eq_self, reduceCtorEq, Nat.reduceEqDiff, hh_i7]) ?_))
 ·simp only [vsAll, binA, binLitA, intA, opA, dstOk, Nat.reduceLT, Nat.reduceEqDiff, ↓reduceIte, eq_self]
  refine condD (fun hd => ?_) (fun hd => ?_)
  ·have his : i < g.N := by ((try clear hh_i7); omega)
   have hl := hal i
   have h1 : (S : Int) / 2 ^ i = ((S / 2 ^ i : Nat) : Int) := by simp
   have h2 : S / 2 ^ i ≤ S := Nat.div_le_self _ _
   have hbq : decide ((((S : Int) / 2 ^ i).toNat &&& 1 : Nat) = (1 : Int)) = S.testBit i := bit_eq S i
   simp only [vsAll, binA, binLitA, intA, opA, dstOk, nilSliceOp, Nat.reduceLT, Nat.reduceEqDiff, Nat.reduceBEq, Int.reduceLE, Int.reduceToNat, ↓reduceIte, eq_self]
   refine ⟨⟨by ((try clear hh_i7); omega), by ((try clear hh_i7); omega), rfl⟩, ⟨?_, ?_, by simp only [InR_i64]; ((try clear hh_i7); omega)⟩, ?_⟩
   ·rw [h1]; exact Int.natCast_nonneg _
   ·rw [h1]
    generalize S / 2 ^ i = q at *
    simp only [InR_i64]; ((try clear hh_i7); omega)
   rw [hbq]
   refine condV (fun hc => ?_) (fun hc => ?_)
   ·have es := ascN_yes hc
    have el : (ascN S (i + 1)).length = (ascN S i).length + 1 := by rw [es]; simp
    simp only [vsAll, binA, binLitA, intA, cellA, cellsA, okParts, buildSliceA, partIdx, elemsA, lensA, partsA, partsOk, opA, appendA, dstOk, nilSliceOp, Nat.reduceMul, Nat.reduceLT, Nat.reduceLeDiff, Nat.reduceEqDiff, Nat.reduceBEq, ↓reduceIte, eq_self, wtAll]
    refine ⟨fun q hq => by (have : q = 0 := by ((try clear hh_i7); omega)); subst this; simp only [vsAll, cellA, okCells, eq_self], by ((try clear hh_i7); omega), by ((try clear hh_i7); omega), by simp only [InR_i64]; ((try clear hh_i7); omega), loop_next (i + 1) (by ((try clear hh_i7); omega)) (by ((try clear hh_i7); omega)) ?_ ?_⟩
    ·simp only [vsAll, Nat.reduceEqDiff, ↓reduceIte, eq_self, el, Int.natCast_add, Int.natCast_one]
     try exact AV.Le.refl _
    ·rw [el, es, app_ints (ascN S i) (i : Int) _ rfl]
     (repeat (first | exact HSub_rfl | refine HSub_put_eq (by simp only [vsAll, ↓reduceIte, eq_self]) ?_ | refine HSub_drop2 (by simp only [eq_self, hh_i7]) ?_ | refine HSub_keep_eq (by simp only [vsAll, ↓reduceIte, eq_self, reduceCtorEq, Nat.reduceEqDiff, hh_i7]) ?_))
   ·have es := ascN_no hc
    simp only [vsAll, binA, binLitA, intA, opA, dstOk, Nat.reduceLT, Nat.reduceEqDiff, ↓reduceIte, eq_self]
    refine ⟨by simp only [InR_i64]; ((try clear hh_i7); omega), loop_next (i + 1) (by ((try clear hh_i7); omega)) (by ((try clear hh_i7); omega)) ?_ ?_⟩
    ·simp only [vsAll, Nat.reduceEqDiff, ↓reduceIte, eq_self, es, Int.natCast_add, Int.natCast_one]
     try exact AV.Le.refl _
    ·rw [es]; exact HSub_rfl
  ·have ei : i = g.N := by ((try clear hh_i7); omega)
   subst ei
   have hfull := ascN_full hN5 hS
   have hrow := ascN_row S g.N
   have hLb := hal g.N
   generalize hL : (ascN S g.N).length = L at hfull hLb
   simp only [vsAll, lenA, opA, dstOk, Nat.reduceLT, Nat.reduceEqDiff, ↓reduceIte, eq_self, wtAll]
   refine vs_loop (σ := Nat × List Int) (fun y => y.1 ≤ L ∧ RowOf S y.2 ∧ y.2.length = L) (fun y => [(2, .rsl N 1 (byF b)), (7, .sl i7 1 L), (28, i64 L), (29, i64 y.1)]) (fun y => H.set i7 (.row 1 L (intF y.2))) (fun y => L - y.1) (0, ascN S g.N) ⟨Nat.zero_le _, hrow, hL⟩ ?_ HSub_rfl fun y hy => ?_
   ·simp only [vsAll, Nat.reduceEqDiff, ↓reduceIte, eq_self, Int.natCast_zero]
   ·obtain ⟨i, l⟩ := y
    obtain ⟨hi, hlr, hll⟩ := hy
    simp only [] at hi hlr hll
    have hfin : ∀ kk : Nat, i < L → kk < L → ∀ q, q < L → updF L kk (updF L i (intF l) [i64 (l.getD kk 0)]) [i64 (l.getD i 0)] q = intF (swL l i kk) q := fun kk h1 h2 q hq => by
     subst hll
     exact swL_upd l h1 h2 q hq
    simp only [vsAll, binA, binLitA, intA, opA, dstOk, Nat.reduceLT, Nat.reduceEqDiff, ↓reduceIte, eq_self]
    refine condD (fun hd => ?_) (fun hd => ?_)
    ·have his : i < L := by ((try clear hh_i7); omega)
     have hend : ∀ kk : Nat, i ≤ kk → kk < L → Go.V.HSub ((H.set i7 (.row 1 L (intF l))).set i7 (.row 1 L (updF L kk (updF L i (intF l) [i64 (l.getD kk 0)]) [i64 (l.getD i 0)]))) (H.set i7 (.row 1 L (intF (swL l i kk)))) := fun kk h1 h2 => by
      refine HSub_put (o' := .row 1 L (updF L kk (updF L i (intF l) [i64 (l.getD kk 0)]) [i64 (l.getD i 0)])) (by simp only [vsAll, ↓reduceIte, eq_self]) (row_ext fun q hq => hfin kk his h2 q hq) ?_
      (repeat (first | exact HSub_rfl | refine HSub_put_eq (by simp only [vsAll, ↓reduceIte, eq_self, reduceCtorEq, Nat.reduceEqDiff, hh_i7]) ?_ | refine HSub_drop2 (by simp only [eq_self, hh_i7]) ?_ | refine HSub_keep_eq (by simp only [vsAll, ↓reduceIte, eq_self, reduceCtorEq, Nat.reduceEqDiff, hh_i7]) ?_))
     have hrw := fun kk (h2 : kk < L) => swL_row hlr (i := i) (k := kk) (by ((try clear hh_i7); omega)) (by ((try clear hh_i7); omega))
     have hln := fun kk => swL_len l i kk
     have hd1 := upd_drop L i
     simp only [vsAll, binA, binLitA, intA, lenA, opA, dstOk, nilSliceOp, Nat.reduceLT, Nat.reduceEqDiff, Nat.reduceBEq, ↓reduceIte, eq_self, wtAll]
     refine condV (fun hc => ?_) (fun hc => ?_)
     ·have hN0 : 0 < N := by
       have := of_decide_eq_true hc
       ((try clear hh_i7); omega)
      have hm0 : 0 ≤ (i : Int).tmod N := Int.tmod_nonneg _ (by ((try clear hh_i7); omega))
      have hm1 : (i : Int).tmod N < N := Int.tmod_lt_of_pos _ (by ((try clear hh_i7); omega))
      simp only [vsAll, binA, binLitA, intA, loadA, loadRow, partA, partOk, indexAddrA, lenA, convA, opA, dstOk, nilSliceOp, Nat.reduceLT, Nat.reduceEqDiff, Nat.reduceBEq, ↓reduceIte, eq_self, ne_eq, wtAll, byF_at]
      generalize (i : Int).tmod N = r at hm0 hm1 ⊢
      have hbr := hb r.toNat (by ((try clear hh_i7); omega))
      generalize b r.toNat = br at hbr ⊢
      have hq0 : 0 ≤ br.tmod ((L : Int) - i) := Int.tmod_nonneg _ (by ((try clear hh_i7); omega))
      have hq1 : br.tmod ((L : Int) - i) < (L : Int) - i := Int.tmod_lt_of_pos _ (by ((try clear hh_i7); omega))
      refine ⟨by ((try clear hh_i7); omega), ⟨hm0, hm1⟩, by ((try clear hh_i7); omega), by simp only [InR_i64]; ((try clear hh_i7); omega), by simp only [InR_i64]; ((try clear hh_i7); omega), by ((try clear hh_i7); omega), by simp only [InR_i64]; ((try clear hh_i7); omega), ?_⟩
      obtain ⟨kk, ekk⟩ : ∃ q : Nat, (i : Int) + br.tmod ((L : Int) - i) = (q : Int) := ⟨((i : Int) + br.tmod ((L : Int) - i)).toNat, by ((try clear hh_i7); omega)⟩
      rw [ekk]
      have hk1 : i ≤ kk := by ((try clear hh_i7); omega)
      have hk2 : kk < L := by ((try clear hh_i7); omega)
      have hen := hend kk hk1 hk2
      have hr2 := hrw kk hk2
      have hl2 := hln kk
      refine vs_draw2 [0, 0, 0, 0, 0, 0, 0, 0, 0, 0, 0, 0, 0, 1, 2, 3] [([0, 1, 2, 3, 4, 5, 6, 7, 8, 9, 10, 11, 12], [], 13), ([14], [], 15)] [] (by decide +kernel) ?_
      simp only [vsAll, binA, binLitA, intA, loadA, loadRow, partA, partOk, indexAddrA, cellA, cellsA, opA, newCells, okCells, storeObj, dstOk, Nat.reduceLT, Nat.reduceEqDiff, ↓reduceIte, eq_self, wtAll, intF_at, hd1]
      refine ⟨⟨by ((try clear hh_i7); omega), by ((try clear hh_i7); omega)⟩, by ((try clear hh_i7); omega), ⟨by ((try clear hh_i7); omega), by ((try clear hh_i7); omega)⟩, by ((try clear hh_i7); omega), ⟨by ((try clear hh_i7); omega), by ((try clear hh_i7); omega)⟩, by ((try clear hh_i7); omega), ⟨by ((try clear hh_i7); omega), by ((try clear hh_i7); omega)⟩, by ((try clear hh_i7); omega), by simp only [InR_i64]; ((try clear hh_i7); omega), loop_next (i + 1, swL l i kk) ⟨by simp only []; ((try clear hh_i7); omega), hr2, by simp only []; ((try clear hh_i7); omega)⟩ (by simp only []; ((try clear hh_i7); omega)) ?_ ?_⟩
      ·simp only [vsAll, Nat.reduceEqDiff, ↓reduceIte, eq_self, Int.natCast_add, Int.natCast_one]
      ·rw [Hp.set_set]
       exact hen
     ·have hen := hend i (Nat.le_refl _) his
      have hr2 := hrw i his
      have hl2 := hln i
      simp only [vsAll]
      refine vs_draw2 [0, 0, 0, 0, 0, 0, 0, 0, 0, 0, 0, 0, 0, 1, 2, 3] [([0, 1, 2, 3, 4, 5, 6, 7, 8, 9, 10, 11, 12], [], 13), ([14], [], 15)] [] (by decide +kernel) ?_
      simp only [vsAll, binA, binLitA, intA, loadA, loadRow, partA, partOk, indexAddrA, cellA, cellsA, opA, newCells, okCells, storeObj, dstOk, Nat.reduceLT, Nat.reduceEqDiff, ↓reduceIte, eq_self, wtAll, intF_at, hd1]
      refine ⟨⟨by ((try clear hh_i7); omega), by ((try clear hh_i7); omega)⟩, by ((try clear hh_i7); omega), ⟨by ((try clear hh_i7); omega), by ((try clear hh_i7); omega)⟩, by ((try clear hh_i7); omega), ⟨by ((try clear hh_i7); omega), by ((try clear hh_i7); omega)⟩, by ((try clear hh_i7); omega), ⟨by ((try clear hh_i7); omega), by ((try clear hh_i7); omega)⟩, by ((try clear hh_i7); omega), by simp only [InR_i64]; ((try clear hh_i7); omega), loop_next (i + 1, swL l i i) ⟨by simp only []; ((try clear hh_i7); omega), hr2, by simp only []; ((try clear hh_i7); omega)⟩ (by simp only []; ((try clear hh_i7); omega)) ?_ ?_⟩
      ·simp only [vsAll, Nat.reduceEqDiff, ↓reduceIte, eq_self, Int.natCast_add, Int.natCast_one]
      ·rw [Hp.set_set]
       exact hen
    ·have ei : i = L := by ((try clear hh_i7); omega)
     subst ei
     simp only [vsAll, opA, dstOk, nilSliceOp, resA, retA.eq_1, Nat.reduceLT, Nat.reduceEqDiff, Nat.reduceBEq, ↓reduceIte, eq_self, Try.results17]
     refine ⟨H.set i7 (.row 1 l.length (intF l)), ?_, l, hlr, by ((try clear hh_i7); omega), i7, hh_i7, by rw [hll], rfl⟩
     rw [hll]; exact HSub_rfl
theorem drawn_tri (g : Gg) (S N : Nat) (b : Nat → Int) (H : Hp) (k : OkG g) (hS : S < 2 ^ g.N) (hN : N < 2 ^ 63) (hb : ∀ i, i < N → 0 ≤ b i ∧ b i ≤ 255) :
  Tri Try.prog (fnA 17) [g.av, i64 (S : Nat), .rsl N 1 (byF b)] H fun r H' => H' = H ∧ ∃ l : List Int, RowOf S l ∧ l.length = pop S ∧ r = .ret (intsAV l) := by
 refine Tri.thawX (drawnM_tri g S N b H k hS hN hb) fun r H' hr => ?_
 obtain ⟨l, h1, h2, id, hid, rfl, rfl⟩ := hr
 exact .inr ⟨_, intsAV l, id, 1, l.length, intF l, rfl, .inr ⟨Hp.set_same _ _ _, .leaf ⟨rfl, intF l, fun _ _ => rfl, rfl⟩⟩, set_del hid, l, h1, h2, rfl⟩
end Go.Proofs.Ytdopkbldjagmlaa
end
section
set_option linter.unusedVariables false
set_option linter.unusedSimpArgs false
namespace Go.Proofs.Ytdopkbldjagmlaa
open Go.V
/-- All is as easy, or easier, for the second gangs. -/
structure EasG (g x : Gg) : Prop where
 kg : OkG g
 kx : OkG x
 n : x.N = g.N
 m : x.cw.length = g.cw.length
 s : ∀ n, n < g.N → 0 ≤ begV g n → 0 ≤ begV x n ∧ begV x n ≤ begV g n
 f : ∀ n, n < g.N → (x.seam n).fa ≤ (g.seam n).fa ∧ (g.seam n).fl ≤ (x.seam n).fl
 c : ∀ c, c < g.cw.length → (g.crew c).lo ≤ (x.crew c).lo
 k : ∀ c n, c < g.cw.length → n < g.N → (g.crew c).st.toNat.testBit n = true → (x.crew c).st.toNat.testBit n = true
end Go.Proofs.Ytdopkbldjagmlaa
end
section
set_option linter.unusedVariables false
set_option linter.unusedSimpArgs false
namespace Go.Proofs.Ytdopkbldjagmlaa
open Go.V
/-- Seams of some gangs are those of others, by other numbers. -/
structure RenS (h g : Gg) (φ : Nat → Nat) : Prop where
 s : ∀ n, n < h.N → φ n < g.N ∧ begV h n = begV g (φ n) ∧ (h.seam n).fa = (g.seam (φ n)).fa ∧ (h.seam n).fl = (g.seam (φ n)).fl
 i : ∀ n m, n < h.N → m < h.N → φ n = φ m → n = m
/-- A crew is another one, by other numbers of seams. -/
structure RenC (h g : Gg) (φ : Nat → Nat) (c d : Nat) : Prop where
 lo : (h.crew c).lo = (g.crew d).lo
 hi : (h.crew c).hi = (g.crew d).hi
 k : ∀ n, n < h.N → (h.crew c).st.toNat.testBit n = (g.crew d).st.toNat.testBit (φ n)
structure Ren (h g : Gg) (φ ψ : Nat → Nat) : Prop extends RenS h g φ where
 c : ∀ c, c < h.cw.length → ψ c < g.cw.length ∧ RenC h g φ c (ψ c)
def mpL (φ : Nat → Nat) (l : List Int) : List Int := l.map fun x => ((φ x.toNat : Nat) : Int)
theorem mpL_len (φ : Nat → Nat) (l : List Int) : (mpL φ l).length = l.length := by simp [mpL]
theorem mpL_at (φ : Nat → Nat) (l : List Int) {i : Nat} (h : i < l.length) : (mpL φ l).getD i 0 = ((φ (l.getD i 0).toNat : Nat) : Int) := by
 simp [mpL, List.getD_eq_getElem?_getD, h]
/-- All of a list are seams. -/
def InG (h : Gg) (l : List Int) : Prop := ∀ i, i < l.length → ∃ n : Nat, l.getD i 0 = (n : Int) ∧ n < h.N
theorem ren_don {h g : Gg} {φ : Nat → Nat} (R : RenS h g φ) (sp : Int) {l : List Int} (hl : InG h l) : ∀ i, i ≤ l.length → donN g sp (mpL φ l) i = donN h sp l i
 | 0, _ => rfl
 | i + 1, hi => by
   obtain ⟨n, e, hn⟩ := hl i (by omega)
   obtain ⟨s1, s2, s3, s4⟩ := R.s n hn
   simp only [donN]
   rw [ren_don R sp hl i (by omega), mpL_at φ l (by omega), e, Int.toNat_natCast, Int.toNat_natCast]
   unfold stT tkG
   rw [s2, s3]
theorem ren_kn {h g : Gg} {φ : Nat → Nat} {c d : Nat} (R : RenS h g φ) (rc : RenC h g φ c d) {n : Nat} (hn : n < h.N) : knB g d (φ n) = knB h c n := by
 unfold knB
 rw [rc.k n hn, (R.s n hn).2.1]
theorem ren_rgt {h g : Gg} {φ : Nat → Nat} {c d : Nat} (R : RenS h g φ) (rc : RenC h g φ c d) {l : List Int} (hl : InG h l) : rgtB g d (mpL φ l) = rgtB h c l := by
 rw [Bool.eq_iff_iff, rgt_iff, rgt_iff, mpL_len]
 refine forall_congr' fun i => forall_congr' fun hi => ?_
 obtain ⟨n, e, hn⟩ := hl i hi
 rw [mpL_at φ l hi, e, Int.toNat_natCast, Int.toNat_natCast, ren_kn R rc hn, ren_don R _ hl _ hi, (R.s n hn).2.2.2, rc.lo]
/-- A set, by the other numbers. -/
def Img (h : Gg) (φ : Nat → Nat) (S T : Nat) : Prop := S < 2 ^ h.N ∧ ∀ n, T.testBit n = true ↔ ∃ m, S.testBit m = true ∧ φ m = n
theorem Img.lt {h g : Gg} {φ : Nat → Nat} (R : RenS h g φ) {S T : Nat} (I : Img h φ S T) : T < 2 ^ g.N := by
 refine Nat.lt_pow_two_of_testBit _ fun i hi => ?_
 cases e : T.testBit i with
 | false => rfl
 | true =>
   obtain ⟨m, h1, h2⟩ := (I.2 i).1 e
   have := (R.s m (bit_lt I.1 h1)).1
   omega
theorem row_in {h : Gg} {S : Nat} (hS : S < 2 ^ h.N) {l : List Int} (hl : RowOf S l) : InG h l := fun i hi => by
 obtain ⟨n, e, hn⟩ := hl.at_ i hi
 exact ⟨n, e, bit_lt hS hn⟩
theorem mpL_mem {φ : Nat → Nat} {l : List Int} {x : Int} : x ∈ mpL φ l ↔ ∃ y ∈ l, ((φ y.toNat : Nat) : Int) = x := by simp [mpL]
theorem ren_row {h g : Gg} {φ : Nat → Nat} (R : RenS h g φ) {S T : Nat} (I : Img h φ S T) {l : List Int} (hl : RowOf S l) : RowOf T (mpL φ l) := by
 have hi := row_in I.1 hl
 refine ⟨fun i hi2 => ?_, fun i j hij hj e => ?_⟩
 ·rw [mpL_len] at hi2
  obtain ⟨n, e, hn⟩ := hl.at_ i hi2
  exact ⟨φ n, by rw [mpL_at φ l hi2, e, Int.toNat_natCast], (I.2 _).2 ⟨n, hn, rfl⟩⟩
 ·rw [mpL_len] at hj
  rw [mpL_at φ l (by omega), mpL_at φ l hj] at e
  obtain ⟨n, e1, hn⟩ := hi i (by omega)
  obtain ⟨m, e2, hm⟩ := hi j hj
  rw [e1, e2, Int.toNat_natCast, Int.toNat_natCast] at e
  have := R.i n m hn hm (by omega)
  subst this
  exact hl.nd i j hij hj (by rw [e1, e2])
theorem ren_full {h g : Gg} {φ : Nat → Nat} (R : RenS h g φ) (hN : g.N ≤ 5) (hM : h.N ≤ 5) {S T : Nat} (I : Img h φ S T) {l : List Int} (hl : RowOf S l) : (mpL φ l).length = pop T ↔ l.length = pop S := by
 have hr := ren_row R I hl
 rw [← (rowOf_full (lt32 hN (Img.lt R I)) hr).2, ← (rowOf_full (lt32 hM I.1) hl).2]
 have hi := row_in I.1 hl
 constructor
 ·intro e
  refine Nat.eq_of_testBit_eq fun n => ?_
  rw [Bool.eq_iff_iff]
  constructor
  ·exact fun hb => rowOf_sub hl hb
  ·intro hb
   have : T.testBit (φ n) = true := (I.2 _).2 ⟨n, hb, rfl⟩
   rw [← e, setL_bit] at this
   obtain ⟨x, hx, ex⟩ := this
   obtain ⟨y, hy, ey⟩ := mpL_mem.1 hx
   obtain ⟨i, hi1, hi2⟩ := mem_at.1 hy
   obtain ⟨m, e1, hm⟩ := hi i hi1
   rw [setL_bit]
   refine ⟨y, hy, ?_⟩
   rw [hi2] at e1
   subst e1
   rw [Int.toNat_natCast] at ey ⊢
   exact R.i m n hm (bit_lt I.1 hb) (by omega)
 ·intro e
  refine Nat.eq_of_testBit_eq fun n => ?_
  rw [Bool.eq_iff_iff]
  constructor
  ·exact fun hb => rowOf_sub hr hb
  ·intro hb
   obtain ⟨m, hm, em⟩ := (I.2 n).1 hb
   rw [← e, rowOf_set hl] at hm
   rw [rowOf_set hr, mpL_mem]
   exact ⟨(m : Int), hm, by rw [Int.toNat_natCast, em]⟩
theorem ren_back {h g : Gg} {φ : Nat → Nat} (R : RenS h g φ) {S T : Nat} (I : Img h φ S T) {l : List Int} : RowOf T l → ∃ m, l = mpL φ m ∧ RowOf S m := by
 refine snoc_ind (P := fun l => RowOf T l → ∃ m, l = mpL φ m ∧ RowOf S m) (fun _ => ⟨[], rfl, rowOf_nil S⟩) (fun b x ih hr => ?_) l
 obtain ⟨m, e, hm⟩ := ih (rowOf_pre hr)
 obtain ⟨n, ex, hn⟩ := hr.at_ b.length (by simp)
 rw [snoc_end] at ex
 subst ex
 obtain ⟨q, hq, eq⟩ := (I.2 n).1 hn
 have e2 : b ++ [(n : Int)] = mpL φ (m ++ [(q : Int)]) := by
  rw [e]
  simp [mpL, eq]
 refine ⟨m ++ [(q : Int)], e2, rowOf_snoc.2 ⟨hm, hq, fun hmem => ?_⟩⟩
 have h3 := (rowOf_snoc.1 hr).2.2
 refine h3 ?_
 rw [e, mpL_mem]
 exact ⟨(q : Int), hmem, by rw [Int.toNat_natCast, eq]⟩
theorem ren_end {h g : Gg} {φ : Nat → Nat} {c d : Nat} (R : RenS h g φ) (rc : RenC h g φ c d) (hN : g.N ≤ 5) (hM : h.N ≤ 5) {S T : Nat} (I : Img h φ S T) : endO h c S = endO g d T := by
 refine (end_min I.1).uniq ((end_min (Img.lt R I)).congr fun x => ?_)
 constructor
 ·rintro ⟨l, h1, h2, h3, h4⟩
  obtain ⟨m, e, hm⟩ := ren_back R I h2
  subst e
  have hi := row_in I.1 hm
  rw [ren_rgt R rc hi] at h3
  refine ⟨m, (ren_full R hN hM I hm).1 h1, hm, h3, ?_⟩
  rw [← h4]
  unfold lastT
  rw [mpL_len, ren_don R _ hi _ (Nat.le_refl _), rc.lo]
 ·rintro ⟨l, h1, h2, h3, h4⟩
  have hi := row_in I.1 h2
  refine ⟨mpL φ l, (ren_full R hN hM I h2).2 h1, ren_row R I h2, by rw [ren_rgt R rc hi]; exact h3, ?_⟩
  rw [← h4]
  unfold lastT
  rw [mpL_len, ren_don R _ hi _ (Nat.le_refl _), rc.lo]

/-- Crews are numbered otherwise, all of them. -/
structure Prm (M : Nat) (ψ ψ' : Nat → Nat) : Prop where
 a : ∀ c, c < M → ψ c < M ∧ ψ' (ψ c) = c
 b : ∀ c, c < M → ψ' c < M ∧ ψ (ψ' c) = c
theorem dom_prm {g h : Gg} {f f' : Nat → Nat} {ψ ψ' : Nat → Nat} {M : Nat} (p : Prm M ψ ψ') (e : ∀ c, c < M → endO h c (f' c) = endO g (ψ c) (f (ψ c))) : domN h f' M = domN g f M := by
 have hs : (domN h f' M).isSome = (domN g f M).isSome := by
  rw [Bool.eq_iff_iff, domN_some, domN_some]
  constructor
  ·intro q c hc
   have := q (ψ' c) (p.b c hc).1
   rw [e _ (p.b c hc).1, (p.b c hc).2] at this
   exact this
  ·intro q c hc
   rw [e c hc]
   exact q _ (p.a c hc).1
 cases h1 : domN h f' M with
 | none =>
   rw [h1] at hs
   cases h2 : domN g f M with
   | none => rfl
   | some n => rw [h2] at hs; cases hs
 | some m =>
   rw [h1] at hs
   cases h2 : domN g f M with
   | none => rw [h2] at hs; cases hs
   | some n =>
     obtain ⟨a1, a2, a3⟩ := domN_le M h1
     obtain ⟨b1, b2, b3⟩ := domN_le M h2
     congr 1
     refine Int.le_antisymm ?_ ?_
     ·rcases a3 with a3 | ⟨c, hc, a3⟩
      ·omega
      ·rw [e c hc] at a3
       obtain ⟨t, ht, hle⟩ := b2 (ψ c) (p.a c hc).1
       rw [ht] at a3
       cases a3
       exact hle
     ·rcases b3 with b3 | ⟨c, hc, b3⟩
      ·omega
      ·obtain ⟨t, ht, hle⟩ := a2 (ψ' c) (p.b c hc).1
       rw [e _ (p.b c hc).1, (p.b c hc).2] at ht
       rw [ht] at b3
       cases b3
       exact hle
/-- The same deal, by either numbers. -/
structure DR (h g : Gg) (φ ψ : Nat → Nat) (S T C D : Nat) (l l' : List Int) : Prop where
 n1 : l.length = h.N
 n2 : l'.length = g.N
 at_ : ∀ m, m < h.N → S.testBit m = true → ∃ c : Nat, c < h.cw.length ∧ l.getD m 0 = (c : Int) ∧ C.testBit c = true ∧ l'.getD (φ m) 0 = ((ψ c : Nat) : Int)
 o1 : ∀ m, m < h.N → S.testBit m = false → l.getD m 0 = -1
 o2 : ∀ n, n < g.N → T.testBit n = false → l'.getD n 0 = -1
section
variable {h g : Gg} {φ ψ ψ' : Nat → Nat} {S T C D : Nat} {l l' : List Int}
theorem DR.img (d : DR h g φ ψ S T C D l l') (R : Ren h g φ ψ) (p : Prm h.cw.length ψ ψ') (I : Img h φ S T) {c : Nat} (hc : c < h.cw.length) : Img h φ (crS l c) (crS l' (ψ c)) := by
 refine ⟨by have := crN_lt l c l.length; rw [d.n1] at this; unfold crS; rw [d.n1]; exact this, fun n => ?_⟩
 rw [crS_bit, d.n2]
 constructor
 ·rintro ⟨hn, e⟩
  cases ht : T.testBit n with
  | false => rw [d.o2 n hn ht] at e; omega
  | true =>
    obtain ⟨m, hm, em⟩ := (I.2 n).1 ht
    have hm2 := bit_lt I.1 hm
    obtain ⟨c2, hc2, e1, _, e3⟩ := d.at_ m hm2 hm
    rw [em, e] at e3
    have : c2 = c := by rw [← (p.a c2 hc2).2, ← (p.a c hc).2]; congr 1; omega
    subst this
    exact ⟨m, crS_bit.2 ⟨by rw [d.n1]; exact hm2, e1⟩, em⟩
 ·rintro ⟨m, hm, em⟩
  rw [crS_bit, d.n1] at hm
  obtain ⟨hm2, e⟩ := hm
  cases hs : S.testBit m with
  | false => rw [d.o1 m hm2 hs] at e; omega
  | true =>
    obtain ⟨c2, hc2, e1, _, e3⟩ := d.at_ m hm2 hs
    have : c2 = c := by omega
    subst this
    subst em
    exact ⟨(R.s m hm2).1, e3⟩
theorem DR.dom (d : DR h g φ ψ S T C D l l') (R : Ren h g φ ψ) (p : Prm h.cw.length ψ ψ') (I : Img h φ S T) (hN : g.N ≤ 5) (hM : h.N ≤ 5) (hL : h.cw.length = g.cw.length) : domO h l = domO g l' := by
 unfold domO
 rw [← hL]
 exact dom_prm p fun c hc => ren_end R.toRenS (R.c c hc).2 hN hM (d.img R p I hc)
end
end Go.Proofs.Ytdopkbldjagmlaa
end
section
set_option linter.unusedVariables false
set_option linter.unusedSimpArgs false
set_option maxHeartbeats 4000000
set_option maxRecDepth 100000
namespace Go.Proofs.Ytdopkbldjagmlaa
open Go.V
theorem fineG_ok {g : Gg} (h : (!fineG g) = false) : OkG g ∧ NearG g := by
 unfold fineG at h
 simp only [Bool.not_eq_false', Bool.and_eq_true, decide_eq_true_eq] at h
 exact ⟨h.2, h.2.near⟩
def rdN (g : Gg) (l : List Int) (i : Nat) : List Int := (List.range i).map fun j => readyV g (l.getD j 0)
def kaN (g : Gg) (l : List Int) (b : Bool) : Nat → Bool
 | 0 => b
 | i + 1 => kaN g l b i && decide (readyE g (l.getD i 0) = 0)
def spk (a b c : Int) (q : Nat) : Int := [a, b, c].getD q 0
def mxF (g : Gg) (a b c : Int) (l : List Int) (i k : Nat) : Nat → List AV := fun q => [i64 (donN g (spk a b c q) l (if q < k then i + 1 else i))]
def lateV (g : Gg) (c : Nat) (l : List Int) (i : Nat) : Int := match (List.range i).find? (ltB g c l) with
 | some j => l.getD j 0
 | none => -1
end Go.Proofs.Ytdopkbldjagmlaa
end
section
set_option linter.unusedVariables false
set_option linter.unusedSimpArgs false
namespace Go.Proofs.Ytdopkbldjagmlaa
open Go.V
theorem rows_end {g : Gg} {c S : Nat} (hS : S < 2 ^ g.N) : (endO g c S).isSome = true ↔ rowsL g c S ≠ [] := by
 rw [(end_min hS).some_iff]
 constructor
 ·rintro ⟨x, l, h1, h2, h3, _⟩ e
  have := (mem_rows hS).2 ⟨h1, h2, h3⟩
  rw [e] at this
  cases this
 ·intro h
  cases e : rowsL g c S with
  | nil => exact absurd e h
  | cons l L =>
    have hm : l ∈ rowsL g c S := by rw [e]; exact List.mem_cons_self
    obtain ⟨h1, h2, h3⟩ := (mem_rows hS).1 hm
    exact ⟨_, l, h1, h2, h3, rfl⟩
theorem filt_sorted (p : Nat → Bool) : ∀ n, ((List.range n).filter p).Pairwise (· < ·) := fun n => List.Pairwise.filter _ List.pairwise_lt_range
theorem map_get {l : List Nat} {i : Nat} (h : i < l.length) : (l.map fun n : Nat => (n : Int)).getD i 0 = ((l.getD i 0 : Nat) : Int) := by
 simp [List.getD_eq_getElem?_getD, h]
theorem sorted_at {l : List Nat} (h : l.Pairwise (· < ·)) {i j : Nat} (hij : i < j) (hj : j < l.length) : l.getD i 0 < l.getD j 0 := by
 have := List.pairwise_iff_getElem.1 h i j (by omega) hj hij
 simpa [List.getD_eq_getElem?_getD, hj, (show i < l.length by omega)] using this
theorem mem_filt {p : Nat → Bool} {n i : Nat} (h : i < ((List.range n).filter p).length) : ((List.range n).filter p).getD i 0 < n ∧ p (((List.range n).filter p).getD i 0) = true := by
 have : ((List.range n).filter p).getD i 0 ∈ (List.range n).filter p := by
  rw [List.getD_eq_getElem?_getD, List.getElem?_eq_getElem h]
  exact List.getElem_mem h
 rw [List.mem_filter, List.mem_range] at this
 exact this
theorem filt_first {p : Nat → Bool} {n : Nat} (hn : 0 < n) (h : p 0 = true) : 0 < ((List.range n).filter p).length ∧ ((List.range n).filter p).getD 0 0 = 0 := by
 obtain ⟨m, rfl⟩ : ∃ m, n = m + 1 := ⟨n - 1, by omega⟩
 rw [List.range_succ_eq_map, List.filter_cons, if_pos h]
 simp
end Go.Proofs.Ytdopkbldjagmlaa
end
section
set_option linter.unusedVariables false
set_option linter.unusedSimpArgs false
set_option maxHeartbeats 4000000
set_option maxRecDepth 100000
namespace Go.Proofs.Ytdopkbldjagmlaa
open Go.V
theorem mapZ64 : mapZ Try.prog 64 = some (.bool false) := by kernel_rfl
theorem und64 : Program.underlying Try.prog 64 = some (.map 3 4) := by kernel_rfl
theorem key3 : Maps.Keyed Try.prog 3 := Maps.int_keyed (q := .i64) (by kernel_rfl)
theorem und3 : Program.underlying Try.prog 3 = some (.int .i64) := by kernel_rfl
theorem key_int {d : Int} (hd : InR .i64 d) : ∃ l, keyOf Try.prog 3 (.int .i64 d) = some l := by
 refine ⟨.int .i64 d, ?_⟩
 simp only [keyOf, mapKey, und3]
 rw [if_pos ⟨trivial, wf_i64 hd⟩]
open Classical in
noncomputable def thrF (l : List Int) : Value → Option Value := fun v => if ∃ x ∈ l, v = .int .i64 x then some (.bool true) else none
theorem thrF_nil : thrF [] = fun _ => none := by
 funext v
 unfold thrF
 rw [if_neg]
 rintro ⟨x, hx, _⟩
 cases hx
theorem thrF_get (l : List Int) (x : Int) : thrF l (.int .i64 x) = if l.contains x = true then some (.bool true) else none := by
 unfold thrF
 by_cases h : x ∈ l
 ·rw [if_pos ⟨x, h, rfl⟩, if_pos (by simpa using h)]
 ·rw [if_neg, if_neg (by simpa using h)]
  rintro ⟨y, hy, e⟩
  cases e
  exact h hy
theorem thrF_upd (l : List Int) (x : Int) : updV (thrF l) (.int .i64 x) (.bool true) = thrF (l ++ [x]) := by
 funext v
 by_cases h : v = .int .i64 x
 ·subst h
  rw [updV_same, thrF_get, if_pos (by simp)]
 ·rw [updV_ne _ _ h]
  unfold thrF
  by_cases q : ∃ y ∈ l, v = .int .i64 y
  ·rw [if_pos q, if_pos]
   obtain ⟨y, hy, e⟩ := q
   exact ⟨y, List.mem_append_left _ hy, e⟩
  ·rw [if_neg q, if_neg]
   rintro ⟨y, hy, e⟩
   rcases List.mem_append.1 hy with hy | hy
   ·exact q ⟨y, hy, e⟩
   ·rw [List.mem_singleton] at hy
    subst hy
    exact h e
theorem thrF_key {l : List Int} (hl : ∀ x ∈ l, InR .i64 x) {k v : Value} (h : thrF l k = some v) : ∃ s, keyOf Try.prog 3 k = some s := by
 unfold thrF at h
 split at h
 ·rename_i q
  obtain ⟨x, hx, rfl⟩ := q
  exact key_int (hl x hx)
 ·cases h
theorem thr_val {l : List Int} {x : Int} : (thrF l (.int .i64 x)).getD (.bool false) = .bool (l.contains x) := by
 rw [thrF_get]
 split
 ·rename_i h; rw [h]; rfl
 ·rename_i h
  rw [Bool.not_eq_true] at h
  rw [h]; rfl

theorem chk4 {g : Gg} (k : OkG g) {c S : Nat} (hc : c < g.cw.length) (hS : S < 2 ^ g.N) {l : List Int} (h : RowOf S l) : decide (chkE g (c : Int) l = 4) = rgtB g c l := by
 have hv : vRow g (c : Int) l = true := by
  unfold vRow
  rw [rowB_of hS h, (isCw_iff g _).2 (by omega)]; rfl
 have hE : rowE g (c : Int) l = if kwnB g c l = true then 0 else 11 := by
  unfold rowE
  rw [hv, errG_ok k, if_pos rfl, Int.toNat_natCast]
 unfold chkE rgtB
 rw [hE, Int.toNat_natCast]
 cases kwnB g c l <;> cases latO g c l <;> rfl
theorem sets_at {g : Gg} (k : OkG g) {c : Nat} (hc : c < g.cw.length) : setsE g (c : Int) = 0 ∧ setsV g (c : Int) = stsN g c (2 ^ g.N) := by
 have e : setsE g (c : Int) = 0 := by
  unfold setsE
  rw [(isCw_iff g _).2 (by omega)]
  exact errG_ok k
 refine ⟨e, ?_⟩
 unfold setsV
 rw [if_pos e, Int.toNat_natCast]
theorem sts_mem {g : Gg} {c n x : Nat} : (stsN g c n).contains (x : Int) = (decide (x < n) && (endO g c x).isSome) := by
 rw [Bool.eq_iff_iff]
 simp only [stsN, List.contains_iff_mem, List.mem_map, List.mem_filter, List.mem_range, Bool.and_eq_true, decide_eq_true_eq]
 constructor
 ·rintro ⟨m, ⟨h1, h2⟩, e⟩
  have : m = x := by omega
  subst this
  exact ⟨h1, h2⟩
 ·rintro ⟨h1, h2⟩
  exact ⟨x, ⟨h1, h2⟩, rfl⟩
theorem sts_at {g : Gg} {c n i : Nat} (h : i < (stsN g c n).length) : ∃ s : Nat, (stsN g c n).getD i 0 = (s : Int) ∧ s < n ∧ (endO g c s).isSome = true ∧ ∀ j, j < i → (stsN g c n).getD j 0 < (s : Int) := by
 have hl : (stsN g c n).length = ((List.range n).filter fun S => (endO g c S).isSome).length := by simp [stsN]
 rw [hl] at h
 obtain ⟨h1, h2⟩ := mem_filt h
 refine ⟨((List.range n).filter fun S => (endO g c S).isSome).getD i 0, map_get h, h1, h2, fun j hj => ?_⟩
 have e : (stsN g c n).getD j 0 = ((((List.range n).filter fun S => (endO g c S).isSome).getD j 0 : Nat) : Int) := map_get (by omega)
 rw [e]
 have := sorted_at (filt_sorted (fun S => (endO g c S).isSome) n) hj h
 omega
theorem sts_first {g : Gg} {c n : Nat} (hn : 0 < n) : 0 < (stsN g c n).length ∧ (stsN g c n).getD 0 0 = 0 := by
 obtain ⟨h1, h2⟩ := filt_first (p := fun S => (endO g c S).isSome) hn (by rw [end_zero]; rfl)
 refine ⟨by simpa [stsN] using h1, ?_⟩
 have e : (stsN g c n).getD 0 0 = ((((List.range n).filter fun S => (endO g c S).isSome).getD 0 0 : Nat) : Int) := map_get h1
 rw [e, h2]; rfl
theorem sts_InR {g : Gg} {c n : Nat} (hn : n ≤ 32) : ∀ x ∈ stsN g c n, InR .i64 x := by
 intro x hx
 simp only [stsN, List.mem_map, List.mem_filter, List.mem_range] at hx
 obtain ⟨m, ⟨h1, _⟩, e⟩ := hx
 simp only [InR_i64]
 omega
end Go.Proofs.Ytdopkbldjagmlaa
end
section
set_option linter.unusedVariables false
set_option linter.unusedSimpArgs false
set_option maxHeartbeats 4000000
set_option maxRecDepth 100000
namespace Go.Proofs.Ytdopkbldjagmlaa
open Go.V
theorem can_law (g : Gg) (w bt : Int) (N : Nat) (b : Nat → Int) (H : Hp) (hw : 0 ≤ w ∧ w ≤ 255) (hbt : 0 ≤ bt ∧ bt ≤ 255) (hB : N < 2 ^ 63 ∧ ∀ i, i < N → 0 ≤ b i ∧ b i ≤ 255) :
  PTri Try.prog (fnA 5) [g.av, .lit (.int .u8 w), .lit (.int .u8 bt), .rsl N 1 (byF b)] H (boo true) := by
 refine Tri.drop ?_
 refine tri_v0 (fun _ => false) Try.func5 (by kernel_rfl) rfl (by simp only [List.length_append, List.length_cons, List.length_nil, Try.ntmps5]; decide) ?_
 simp only [vsAll, loadA, loadRow, partA, partOk, boxA, boxZ, okAll, stAll, opsA, opA, dstOk, nilSliceOp, argFr, Nat.reduceAdd, Nat.reduceLT, Nat.reduceEqDiff, ↓reduceIte, eq_self, wtAll, Try.ntmps5]
 refine callK_pure (gfine_tri g _) ?_
 simp only [vsAll, binA, binLitA, intA, unA, loadA, loadRow, partA, partOk, fieldAddrA, lenA, pickA, opA, guardV, dstOk, Nat.reduceLT, Nat.reduceEqDiff, ↓reduceIte, implies_true, eq_self, wtAll]
 refine condV (fun hc => ?_) (fun hc => ?_)
 ·simp only [vsAll, okAll, stAll, opsA, opA, dstOk, Nat.reduceLT]
  refine callK_pure (awake_tri _) ?_
  simp only [vsAll, opA, dstOk, nilSliceOp, resA, retA.eq_1, Nat.reduceLT, ↓reduceIte, eq_self, Try.results5]
  exact dropR_pure rfl HSub_rfl
 ·rw [Bool.or_eq_false_iff, decide_eq_false_iff_not] at hc
  obtain ⟨k, kn⟩ := fineG_ok hc.1
  have hc0 := hc.2
  have nS := k.nS
  have nC := k.nC
  have hN5 : g.N ≤ 5 := nS
  have hNe : g.N = g.sm.length := rfl
  have hpw : 2 ^ g.N ≤ 2 ^ 5 := Nat.pow_le_pow_right (by omega) hN5
  have hp0 : 0 < 2 ^ g.N := Nat.two_pow_pos _
  have ep : (1 : Int) * 2 ^ g.sm.length = ((2 ^ g.N : Nat) : Int) := by rw [Int.one_mul]; simp [Gg.N]
  have eTN : (((2 ^ g.N : Nat) : Int) - 1).toNat = 2 ^ g.N - 1 := by omega
  have hm0 : 0 ≤ w.tmod (g.cw.length : Int) := Int.tmod_nonneg _ hw.1
  have hm1 : w.tmod (g.cw.length : Int) < g.cw.length := Int.tmod_lt_of_pos _ (by omega)
  simp only [vsAll, binA, binLitA, intA, loadA, loadRow, partA, partOk, fieldAddrA, lenA, convA, okAll, stAll, opsA, opA, dstOk, nilSliceOp, argFr, Nat.reduceLT, Nat.reduceEqDiff, ↓reduceIte, eq_self, ne_eq, wtAll, ep]
  generalize hwi : w.tmod (g.cw.length : Int) = wi at hm0 hm1
  obtain ⟨c, rfl⟩ : ∃ i : Nat, wi = (i : Int) := ⟨wi.toNat, by omega⟩
  have hc : c < g.cw.length := by omega
  refine ⟨by simp only [InR_i64]; omega, by omega, ⟨by omega, by omega, by simp only [InR_i64]; omega⟩, by simp only [InR_i64]; omega, by simp only [InR_i64]; omega, ⟨by omega, by omega, by simp only [InR_i64]; omega, by simp only [InR_i64]; omega⟩, ?_⟩
  rw [eTN]
  have hSle : bt.toNat &&& (2 ^ g.N - 1) < 2 ^ g.N := by
   have := Nat.and_le_right (n := bt.toNat) (m := 2 ^ g.N - 1)
   omega
  generalize bt.toNat &&& (2 ^ g.N - 1) = S at hSle ⊢
  refine callK_pure (wcan_tri g (c : Int) (S : Int) _ kn) ?_
  simp only [vsAll, loadA, loadRow, partA, partOk, extractA, okAll, stAll, opsA, opA, dstOk, nilSliceOp, Nat.reduceAdd, Nat.reduceLT, Nat.reduceEqDiff, ↓reduceIte, eq_self, wtAll]
  refine callK_pure (wsets_tri g (c : Int) _ kn) ?_
  obtain ⟨hsE, hsV⟩ := sets_at k hc
  rw [hsE, hsV]
  obtain ⟨hf1, hf2⟩ := sts_first (g := g) (c := c) hp0
  have hsI := sts_InR (g := g) (c := c) (n := 2 ^ g.N) (by omega)
  have hsm := fun x => sts_mem (g := g) (c := c) (n := 2 ^ g.N) (x := x)
  have hsa := fun i h => sts_at (g := g) (c := c) (n := 2 ^ g.N) (i := i) h
  have hsl := stsN_len g c (2 ^ g.N)
  have hcE : canE g (c : Int) (S : Int) = if rowsL g c S = [] then 4 else 0 := by
   have hv : vCan g (c : Int) (S : Int) = true := by
    unfold vCan isSet
    rw [(isCw_iff g _).2 (by omega), decide_eq_true (by omega), decide_eq_true (by omega)]; rfl
   unfold canE
   rw [hv, errG_ok k, if_pos rfl, Int.toNat_natCast, Int.toNat_natCast]
  have hre := rows_end (g := g) (c := c) hSle
  have hSm := hsm S
  rw [decide_eq_true hSle, Bool.true_and] at hSm
  generalize hL : stsN g c (2 ^ g.N) = L at hf1 hf2 hsI hsm hsa hsl hSm ⊢
  have d0 : decide ((L.length : Int) = 0) = false := decide_eq_false (by omega)
  simp only [vsAll, binA, binLitA, intA, loadA, loadRow, partA, partOk, indexAddrA, extractA, lenA, pickA, opA, guardV, nM, dstOk, nilSliceOp, Nat.reduceAdd, Nat.reduceLT, Nat.reduceEqDiff, Int.reduceLE, Int.reduceToNat, ↓reduceIte, implies_true, forall_const, eq_self, wtAll, d0, intF_at, hf2]
  refine ⟨by omega, hf1, ?_⟩
  intro im hh_im; (try simp only [Hp.set_none, ite_none] at hh_im)
  generalize hM : 2 ^ g.N = M at hpw hp0 ep eTN hSle hsm hsa hsl ⊢
  refine vs_loop (σ := Nat × Array MapEntry × Nat) (fun y => y.1 ≤ L.length ∧ MapIs (thrF (L.take y.1)) y.2.1) (fun y => [(3, .rsl N 1 (byF b)), (4, gptr g), (9, i64 c), (10, i64 ((M : Int) - 1)), (11, i64 S), (12, intsAV (canV g (c : Int) (S : Int))), (13, i64 (canE g (c : Int) (S : Int))), (14, intsAV L), (16, .map im), (76, intsAV L), (77, i64 L.length), (78, i64 y.1)]) (fun y => H.set im (.raw (.map y.2.1 y.2.2))) (fun y => L.length - y.1) (0, #[], 0) ⟨Nat.zero_le _, by rw [List.take_zero, thrF_nil]; exact MapIs.empty⟩ ?_ HSub_rfl fun y hy => ?_
  ·simp only [vsAll, argFr, Nat.reduceEqDiff, ↓reduceIte, eq_self, Int.natCast_zero]
  ·obtain ⟨i, es, ck⟩ := y
   obtain ⟨hi, hes⟩ := hy
   simp only [] at hi hes
   simp only [vsAll, binA, binLitA, intA, opA, dstOk, Nat.reduceLT, Nat.reduceEqDiff, ↓reduceIte, eq_self]
   refine condD (fun hd => ?_) (fun hd => ?_)
   ·have his : i < L.length := by ((try clear hh_im); omega)
    obtain ⟨s, e1, e2, e3, e4⟩ := hsa i his
    have d1 : decide ((s : Int) < 0) = false := decide_eq_false (by ((try clear hh_im); omega))
    have d2 : decide ((M : Int) - 1 < (s : Int)) = false := decide_eq_false (by ((try clear hh_im); omega))
    have htk : L.take (i + 1) = L.take i ++ [(s : Int)] := by
     rw [List.take_add_one, List.getElem?_eq_getElem his]
     rw [List.getD_eq_getElem?_getD, List.getElem?_eq_getElem his] at e1
     simp only [Option.getD_some] at e1
     rw [e1]; rfl
    have hkey : ∃ q, keyOf Try.prog 3 (.int .i64 (s : Int)) = some q := key_int (by simp only [InR_i64]; ((try clear hh_im); omega))
    obtain ⟨o, f1, f2, f3, f4, f5⟩ := hes.find und64 key3 hkey (fun q v hq => thrF_key (fun x hx => hsI x (List.mem_of_mem_take hx)) hq)
    have hi' := f5 (.bool true) ck
    rw [thrF_upd, ← htk] at hi'
    have hcd : (decide ((0 : Int) < (i : Int)) && decide ((s : Int) ≤ L.getD ((i : Int) - 1).toNat 0)) = false := by
     by_cases h : 0 < i
     ·have := e4 (i - 1) (by ((try clear hh_im); omega))
      rw [show ((i : Int) - 1).toNat = i - 1 by ((try clear hh_im); omega), decide_eq_false (p := (s : Int) ≤ L.getD (i - 1) 0) (by ((try clear hh_im); omega)), Bool.and_false]
     ·rw [decide_eq_false (by ((try clear hh_im); omega)), Bool.false_and]
    simp only [vsAll, binA, binLitA, intA, loadA, loadRow, partA, partOk, indexAddrA, pickA, opA, guardV, dstOk, nilSliceOp, Nat.reduceLT, Nat.reduceEqDiff, ↓reduceIte, implies_true, eq_self, wtAll, intF_at, e1, d1, d2]
    refine ⟨⟨by ((try clear hh_im); omega), by ((try clear hh_im); omega)⟩, his, fun q => ⟨q, by simp only [InR_i64]; ((try clear hh_im); omega)⟩, fun q => ⟨q, q, by rw [decide_eq_true_eq] at q; ((try clear hh_im); omega), by ((try clear hh_im); omega)⟩, fun q => ⟨q, by ((try clear hh_im); omega)⟩, ?_⟩
    rw [hcd]
    simp only [vsAll, binA, binLitA, intA, opA, mapUpA, dstOk, Nat.reduceLT, Nat.reduceEqDiff, ↓reduceIte, eq_self]
    refine ⟨o, f2, by simp only [InR_i64]; ((try clear hh_im); omega), loop_next (i + 1, updM es (.int .i64 (s : Int)) (.bool true) ck o, updC ck o) ⟨his, hi'⟩ (by simp only []; ((try clear hh_im); omega)) ?_ ?_⟩
    ·simp only [vsAll, Nat.reduceEqDiff, ↓reduceIte, eq_self, Int.natCast_add, Int.natCast_one]
    ·rw [Hp.set_set]; exact HSub_rfl
   ·have ei : i = L.length := by ((try clear hh_im); omega)
    subst ei
    rw [List.take_length] at hes
    simp only [vsAll, lenA, opA, dstOk, Nat.reduceLT, Nat.reduceEqDiff, ↓reduceIte, eq_self, wtAll]
    have hlk : ∀ x : Nat, x < 32 → ∃ o, (∀ em, FoundAt Try.prog 64 em es (.int .i64 (x : Int)) o) ∧ gotV (.bool false) o = .bool (L.contains (x : Int)) := fun x hx => by
     obtain ⟨o, f1, f2, f3, f4, f5⟩ := hes.find und64 key3 (key := .int .i64 (x : Int)) (key_int (by simp only [InR_i64]; ((try clear hh_im); omega))) (fun q v hq => thrF_key hsI hq)
     exact ⟨o, f1, by rw [f3, thr_val]⟩
    refine vs_loop (σ := Nat) (fun i => i ≤ L.length) (fun i => [(3, .rsl N 1 (byF b)), (4, gptr g), (9, i64 c), (11, i64 S), (12, intsAV (canV g (c : Int) (S : Int))), (13, i64 (canE g (c : Int) (S : Int))), (16, .map im), (106, intsAV L), (107, i64 L.length), (108, i64 i)]) (fun _ => H.set im (.raw (.map es ck))) (fun i => L.length - i) 0 (Nat.zero_le _) ?_ HSub_rfl fun i hi => ?_
    ·simp only [vsAll, Nat.reduceEqDiff, ↓reduceIte, eq_self, Int.natCast_zero]
    ·simp only [vsAll, binA, binLitA, intA, opA, dstOk, Nat.reduceLT, Nat.reduceEqDiff, ↓reduceIte, eq_self]
     refine condD (fun hd => ?_) (fun hd => ?_)
     ·have his : i < L.length := by ((try clear hh_im); omega)
      obtain ⟨s, e1, e2, e3, e4⟩ := hsa i his
      simp only [vsAll, loadA, loadRow, partA, partOk, fieldAddrA, indexAddrA, lenA, opA, dstOk, nilSliceOp, Nat.reduceLT, Nat.reduceEqDiff, ↓reduceIte, eq_self, wtAll, intF_at, e1]
      refine ⟨⟨by ((try clear hh_im); omega), by ((try clear hh_im); omega)⟩, his, ?_⟩
      refine vs_loop (σ := Nat) (fun j => j ≤ g.N) (fun j => [(3, .rsl N 1 (byF b)), (4, gptr g), (9, i64 c), (11, i64 S), (12, intsAV (canV g (c : Int) (S : Int))), (13, i64 (canE g (c : Int) (S : Int))), (16, .map im), (106, intsAV L), (107, i64 L.length), (108, i64 i), (20, i64 s), (114, i64 g.N), (115, i64 j)]) (fun _ => H.set im (.raw (.map es ck))) (fun j => g.N - j) 0 (Nat.zero_le _) ?_ HSub_rfl fun j hj => ?_
      ·simp only [vsAll, Nat.reduceEqDiff, ↓reduceIte, eq_self, Int.natCast_zero, hNe]
      ·simp only [vsAll, binA, binLitA, intA, opA, dstOk, Nat.reduceLT, Nat.reduceEqDiff, ↓reduceIte, eq_self]
       refine condD (fun hd2 => ?_) (fun hd2 => ?_)
       ·have hjs : j < g.N := by ((try clear hh_im); omega)
        have ep2 : (1 : Int) * 2 ^ j = ((2 ^ j : Nat) : Int) := by rw [Int.one_mul]; simp
        have hpj : 2 ^ j ≤ 2 ^ 5 := Nat.pow_le_pow_right (by ((try clear hh_im); omega)) (by ((try clear hh_im); omega))
        have hM2 : s < 2 ^ g.N := by ((try clear hh_im); omega)
        have hdl : dif s (2 ^ j) < M := by rw [← hM]; exact dif_lt hM2
        obtain ⟨_, _, _, h2, _⟩ := end_part k hc (T := dif s (2 ^ j)) hM2 (fun n hn => by rw [dif_bit] at hn; exact (Bool.and_eq_true _ _ ▸ hn).1) e3
        have hct := hsm (dif s (2 ^ j))
        rw [decide_eq_true hdl, h2] at hct
        obtain ⟨o, o1, o2⟩ := hlk (dif s (2 ^ j)) (by ((try clear hh_im); omega))
        rw [hct] at o2
        have edf : (s ^^^ (s &&& 2 ^ j)) = dif s (2 ^ j) := rfl
        simp only [vsAll, binA, binLitA, intA, unA, opA, lookA, dstOk, nilSliceOp, Nat.reduceLT, Nat.reduceEqDiff, ↓reduceIte, eq_self, ep2, mapZ64, edf]
        generalize 2 ^ j = Q at hpj o1 hdl ⊢
        refine ⟨⟨by ((try clear hh_im); omega), by ((try clear hh_im); omega), by simp only [InR_i64]; ((try clear hh_im); omega)⟩, ⟨by ((try clear hh_im); omega), by ((try clear hh_im); omega), by simp only [InR_i64]; ((try clear hh_im); omega), by simp only [InR_i64]; ((try clear hh_im); omega)⟩, o, o1 _, ?_⟩
        rw [o2]
        simp only [vsAll, binA, binLitA, intA, opA, dstOk, Nat.reduceLT, Nat.reduceEqDiff, ↓reduceIte, eq_self]
        refine ⟨by simp only [InR_i64]; ((try clear hh_im); omega), loop_next (j + 1) hjs (by ((try clear hh_im); omega)) ?_ HSub_rfl⟩
        simp only [vsAll, Nat.reduceEqDiff, ↓reduceIte, eq_self, Int.natCast_add, Int.natCast_one]
       ·have ej : j = g.N := by ((try clear hh_im); omega)
        subst ej
        simp only [vsAll, binA, binLitA, intA, opA, dstOk, Nat.reduceLT, Nat.reduceEqDiff, ↓reduceIte, eq_self]
        refine ⟨by simp only [InR_i64]; ((try clear hh_im); omega), loop_next (i + 1) his (by ((try clear hh_im); omega)) ?_ HSub_rfl⟩
        simp only [vsAll, Nat.reduceEqDiff, ↓reduceIte, eq_self, Int.natCast_add, Int.natCast_one]
     ·have ei : i = L.length := by ((try clear hh_im); omega)
      subst ei
      obtain ⟨o, o1, o2⟩ := hlk S (by ((try clear hh_im); omega))
      rw [hSm] at o2
      by_cases hrows : rowsL g c S = []
      ·have c1 : canE g (c : Int) (S : Int) = 4 := by rw [hcE, if_pos hrows]
       have c2 : canV g (c : Int) (S : Int) = [] := by unfold canV; rw [c1]; rfl
       have c3 : (endO g c S).isSome = false := by
        rw [← Bool.not_eq_true]
        intro e
        exact hre.1 e hrows
       rw [c3] at o2
       simp only [vsAll, binA, binLitA, intA, boolA, nilA2, isConst, lenA, pickA, opA, guardV, lookA, dstOk, nilSliceOp, resA, retA.eq_1, Nat.reduceLT, Nat.reduceEqDiff, Int.reduceEq, ↓reduceIte, implies_true, forall_const, eq_self, wtAll, Try.results5, mapZ64, c1, c2]
       refine ⟨o, o1 _, ?_⟩
       rw [o2]
       simp only [vsAll, loadA, loadRow, partA, partOk, okAll, stAll, opsA, opA, dstOk, Nat.reduceLT, Nat.reduceEqDiff, ↓reduceIte, eq_self, wtAll, beq_self_eq_true, Int.natCast_zero]
       refine callK (drawn_tri g S N b _ k (by ((try clear hh_im); omega)) hB.1 hB.2) ?_
       rintro r H' ⟨rfl, l, hro, hlen, rfl⟩
       have hnr : rgtB g c l = false := by
        rw [← Bool.not_eq_true]
        intro hr
        have := (mem_rows (by ((try clear hh_im); omega))).2 ⟨hlen, hro, hr⟩
        rw [hrows] at this
        cases this
       have hll := row_len k (rowB_of (by ((try clear hh_im); omega)) hro)
       have h4 := chk4 k hc (by ((try clear hh_im); omega)) hro
       rw [hnr] at h4
       simp only [vsAll, binA, binLitA, intA, loadA, loadRow, partA, partOk, okAll, stAll, opsA, opA, dstOk, nilSliceOp, Nat.reduceLT, Nat.reduceEqDiff, Int.reduceEq, ↓reduceIte, eq_self, wtAll]
       refine callK_pure (gright_tri g (c : Int) l _ kn (by ((try clear hh_im); omega))) ?_
       rw [h4]
       simp only [vsAll, unA, opA, guardV, dstOk, Nat.reduceLT, ↓reduceIte, eq_self]
       refine gcall (boo true) (fun hg => ⟨by simp only [vsAll, opA], by simp only [okAll, opsA], awake_tri _⟩) ?_
       simp only [vsAll, pickA, opA, dstOk, nilSliceOp, resA, retA.eq_1, Nat.reduceLT, Nat.reduceEqDiff, ↓reduceIte, implies_true, eq_self, Try.results5]
       exact dropR_pure rfl (by (repeat (first | exact HSub_rfl | refine HSub_put_eq (by simp only [vsAll, ↓reduceIte, eq_self, reduceCtorEq, Nat.reduceEqDiff, hh_im]) ?_ | refine HSub_drop2 (by simp only [eq_self, hh_im]) ?_ | refine HSub_keep_eq (by simp only [vsAll, ↓reduceIte, eq_self, reduceCtorEq, Nat.reduceEqDiff, hh_im]) ?_)))
      ·have c1 : canE g (c : Int) (S : Int) = 0 := by rw [hcE, if_neg hrows]
       have c3 : (endO g c S).isSome = true := hre.2 hrows
       rw [c3] at o2
       obtain ⟨l0, hl0⟩ : ∃ l0, (rowsL g c S).head? = some l0 := by
        cases e : rowsL g c S with
        | nil => exact absurd e hrows
        | cons x L => exact ⟨x, rfl⟩
       have c2 : canV g (c : Int) (S : Int) = l0 := by
        unfold canV
        rw [c1, if_pos rfl, Int.toNat_natCast, Int.toNat_natCast, hl0]; rfl
       obtain ⟨r1, r2, r3⟩ := (mem_rows (by ((try clear hh_im); omega))).1 (head_mem hl0)
       have hrB := rowB_of (g := g) (by ((try clear hh_im); omega)) r2
       have hll0 := row_len k hrB
       have hset : setL l0 = S := (rowOf_full (S := S) (by ((try clear hh_im); omega)) r2).2.2 r1
       have h40 := chk4 k hc (by ((try clear hh_im); omega)) r2
       rw [r3] at h40
       simp only [vsAll, binA, binLitA, intA, boolA, nilA2, isConst, loadA, loadRow, partA, partOk, lenA, pickA, okAll, stAll, opsA, opA, guardV, lookA, dstOk, nilSliceOp, resA, retA.eq_1, Nat.reduceLT, Nat.reduceEqDiff, Int.reduceEq, ↓reduceIte, implies_true, eq_self, wtAll, Try.results5, mapZ64, c1, c2]
       refine ⟨o, o1 _, ?_⟩
       rw [o2]
       simp only [vsAll, loadA, loadRow, partA, partOk, okAll, stAll, opsA, opA, dstOk, Nat.reduceLT, Nat.reduceEqDiff, ↓reduceIte, eq_self, wtAll, beq_self_eq_true]
       refine callK (drawn_tri g S N b _ k (by ((try clear hh_im); omega)) hB.1 hB.2) ?_
       rintro r H' ⟨rfl, l, hro, hlen, rfl⟩
       have hll := row_len k (rowB_of (by ((try clear hh_im); omega)) hro)
       have h4 := chk4 k hc (by ((try clear hh_im); omega)) hro
       have elen : decide ((l0.length : Int) = (l.length : Int)) = true := decide_eq_true (by ((try clear hh_im); omega))
       simp only [vsAll, binA, binLitA, intA, loadA, loadRow, partA, partOk, okAll, stAll, opsA, opA, dstOk, nilSliceOp, Nat.reduceLT, Nat.reduceEqDiff, ↓reduceIte, eq_self, wtAll]
       refine callK_pure (glist_tri g l0 _ kn (by ((try clear hh_im); omega))) ?_
       rw [hrB]
       simp only [vsAll, unA, opA, guardV, dstOk, Nat.reduceLT, Nat.reduceEqDiff, ↓reduceIte, eq_self]
       refine gcall (i64 (setL l0 : Nat)) (fun hg => ⟨by simp only [vsAll, opA], by simp only [vsAll, okAll, opsA, opA, ↓reduceIte, eq_self], gsetOf_tri l0 _ (by ((try clear hh_im); omega)) (fun i hi => by
        obtain ⟨n, e, hn⟩ := r2.at_ i hi
        have := bit_lt (show S < 2 ^ g.N by ((try clear hh_im); omega)) hn
        ((try clear hh_im); omega))⟩) ?_
       rw [hset]
       simp only [vsAll, binA, binLitA, intA, loadA, loadRow, partA, partOk, lenA, pickA, opA, guardV, dstOk, Nat.reduceLT, Nat.reduceEqDiff, ↓reduceIte, implies_true, eq_self, wtAll, elen]
       refine gcall (boo true) (fun hg => ⟨by simp only [vsAll, opA], by simp only [vsAll, okAll, opsA, opA, Nat.reduceEqDiff, ↓reduceIte, eq_self], h40 ▸ gright_tri g (c : Int) l0 _ kn (by ((try clear hh_im); omega))⟩) ?_
       simp only [vsAll, unA, loadA, loadRow, partA, partOk, pickA, okAll, stAll, opsA, opA, guardV, dstOk, Nat.reduceLT, Nat.reduceEqDiff, ↓reduceIte, implies_true, eq_self, wtAll]
       refine callK_pure (gright_tri g (c : Int) l _ kn (by ((try clear hh_im); omega))) ?_
       rw [h4]
       simp only [vsAll, opA, ↓reduceIte, eq_self]
       refine condV (fun hr => ?_) (fun hr => ?_)
       ·have hlm : l ∈ rowsL g c S := (mem_rows (g := g) (c := c) (by ((try clear hh_im); omega))).2 ⟨hlen, hro, hr⟩
        have hl0' := hl0
        unfold rowsL at hlm hl0'
        have hlex := rws_lex (pop S) [] l0 l hl0' hlm
        simp only [vsAll, lenA, opA, dstOk, Nat.reduceLT, Nat.reduceEqDiff, ↓reduceIte, eq_self, wtAll]
        refine vs_loop (σ := Nat) (fun i => i ≤ l0.length ∧ ∀ j, j < i → l0.getD j 0 = l.getD j 0) (fun i => [(12, intsAV l0), (22, intsAV l), (189, i64 l0.length), (190, i64 i)]) (fun _ => H.set im (.raw (.map es ck))) (fun i => l0.length - i) 0 ⟨Nat.zero_le _, fun j hj => absurd hj (Nat.not_lt_zero j)⟩ ?_ HSub_rfl fun i hi => ?_
        ·simp only [vsAll, Nat.reduceEqDiff, ↓reduceIte, eq_self, Int.natCast_zero]
        ·obtain ⟨hi, hall⟩ := hi
         simp only [vsAll, binA, binLitA, intA, opA, dstOk, Nat.reduceLT, Nat.reduceEqDiff, ↓reduceIte, eq_self]
         refine condD (fun hd => ?_) (fun hd => ?_)
         ·have his : i < l0.length := by ((try clear hh_im); omega)
          simp only [vsAll, opA, dstOk, nilSliceOp, Nat.reduceLT, Nat.reduceEqDiff, ↓reduceIte, eq_self]
          refine vs_draw2 [0, 0, 0, 0, 0, 0, 0, 0, 0] [] [0, 1, 2, 3, 4, 5, 6, 7, 8] (by decide +kernel) ?_
          simp only [vsAll, binA, binLitA, intA, loadA, loadRow, partA, partOk, indexAddrA, opA, dstOk, Nat.reduceLT, Nat.reduceEqDiff, ↓reduceIte, eq_self, wtAll, intF_at]
          refine ⟨⟨by ((try clear hh_im); omega), by ((try clear hh_im); omega)⟩, by ((try clear hh_im); omega), ⟨by ((try clear hh_im); omega), by ((try clear hh_im); omega)⟩, by ((try clear hh_im); omega), condV (fun hf => ?_) (fun hf => ?_)⟩
          ·simp only [Bool.not_eq_true', decide_eq_false_iff_not] at hf
           have hle := hlex i hall
           have dlt : decide (l0.getD i 0 < l.getD i 0) = true := decide_eq_true (by ((try clear hh_im); omega))
           simp only [vsAll]
           refine vs_draw2 [0, 0, 0, 0, 0, 0, 0, 0, 0, 0, 0, 0, 0] [] [0, 1, 2, 3, 4, 5, 6, 7, 8, 9, 10, 11, 12] (by decide +kernel) ?_
           simp only [vsAll, binA, binLitA, intA, loadA, loadRow, partA, partOk, indexAddrA, opA, guardV, dstOk, Nat.reduceLT, Nat.reduceEqDiff, ↓reduceIte, eq_self, wtAll, intF_at, dlt]
           refine ⟨⟨by ((try clear hh_im); omega), by ((try clear hh_im); omega)⟩, by ((try clear hh_im); omega), ⟨by ((try clear hh_im); omega), by ((try clear hh_im); omega)⟩, by ((try clear hh_im); omega), ?_⟩
           refine qgcall (boo true) (fun hg => ⟨by simp only [vsAll, opA], by simp only [okAll, opsA], awake_tri _⟩) ?_
           simp only [vsAll, pickA, opA, dstOk, resA, retA.eq_1, Nat.reduceLT, Nat.reduceEqDiff, ↓reduceIte, implies_true, eq_self, Try.results5]
           exact dropR_pure rfl (by (repeat (first | exact HSub_rfl | refine HSub_put_eq (by simp only [vsAll, ↓reduceIte, eq_self, reduceCtorEq, Nat.reduceEqDiff, hh_im]) ?_ | refine HSub_drop2 (by simp only [eq_self, hh_im]) ?_ | refine HSub_keep_eq (by simp only [vsAll, ↓reduceIte, eq_self, reduceCtorEq, Nat.reduceEqDiff, hh_im]) ?_)))
          ·simp only [Bool.not_eq_false', decide_eq_true_eq] at hf
           simp only [vsAll, binA, binLitA, intA, opA, dstOk, Nat.reduceLT, Nat.reduceEqDiff, ↓reduceIte, eq_self]
           refine ⟨by simp only [InR_i64]; ((try clear hh_im); omega), loop_next (i + 1) ⟨by ((try clear hh_im); omega), fun j hj => ?_⟩ (by ((try clear hh_im); omega)) ?_ HSub_rfl⟩
           ·by_cases e : j = i
            ·subst e; exact hf
            ·exact hall j (by ((try clear hh_im); omega))
           ·simp only [vsAll, Nat.reduceEqDiff, ↓reduceIte, eq_self, Int.natCast_add, Int.natCast_one]
         ·simp only [vsAll, okAll, stAll, opsA, opA, dstOk, Nat.reduceLT, ↓reduceIte, eq_self]
          refine callK_pure (awake_tri _) ?_
          simp only [vsAll, opA, dstOk, nilSliceOp, resA, retA.eq_1, Nat.reduceLT, ↓reduceIte, eq_self, Try.results5]
          exact dropR_pure rfl (by (repeat (first | exact HSub_rfl | refine HSub_put_eq (by simp only [vsAll, ↓reduceIte, eq_self, reduceCtorEq, Nat.reduceEqDiff, hh_im]) ?_ | refine HSub_drop2 (by simp only [eq_self, hh_im]) ?_ | refine HSub_keep_eq (by simp only [vsAll, ↓reduceIte, eq_self, reduceCtorEq, Nat.reduceEqDiff, hh_im]) ?_)))
       ·simp only [vsAll, okAll, stAll, opsA, opA, dstOk, Nat.reduceLT]
        refine callK_pure (awake_tri _) ?_
        simp only [vsAll, opA, dstOk, nilSliceOp, resA, retA.eq_1, Nat.reduceLT, ↓reduceIte, eq_self, Try.results5]
        exact dropR_pure rfl (by (repeat (first | exact HSub_rfl | refine HSub_put_eq (by simp only [vsAll, ↓reduceIte, eq_self, reduceCtorEq, Nat.reduceEqDiff, hh_im]) ?_ | refine HSub_drop2 (by simp only [eq_self, hh_im]) ?_ | refine HSub_keep_eq (by simp only [vsAll, ↓reduceIte, eq_self, reduceCtorEq, Nat.reduceEqDiff, hh_im]) ?_)))
end Go.Proofs.Ytdopkbldjagmlaa
end
section
set_option linter.unusedVariables false
set_option linter.unusedSimpArgs false
set_option maxRecDepth 100000
namespace Go.Proofs.Ytdopkbldjagmlaa
open Go.V Go.ChangeShapes Go.WideShapes Go.ChangeAt Go.RowKit
theorem gang_cells : cellsT Try.prog 9 29 = some [.sl [.int .i64, .int .i64, .int .i64, .int .i64], .sl [.int .i64, .int .i64, .int .i64], .int .i64, .int .i64, .int .i64, .sl [.int .i64], .sl [.int .i64, .int .i64, .int .i64]] := by kernel_rfl
theorem ints_of {av : AV} (h : CKA (.sl [.int .i64]) av) : ∃ l : List Int, l.length ≤ maxLen ∧ AV.Le av (intsAV l) := by
 obtain ⟨l, h1, h2⟩ := told_slice (α := Int) (fun z => [i64 z]) 0 (fun cs hcs => by
  obtain ⟨z, hz, _⟩ := told_int 0 hcs rfl
  exact ⟨z, rfl, fun j hj => by
   match j, hj with
   | 0, _ => rw [hz]; exact AV.Le.refl _⟩) h
 exact ⟨l, h1, h2⟩
theorem seams_of {av : AV} (h : CKA (.sl [.int .i64, .int .i64, .int .i64, .int .i64]) av) : ∃ l : List Sm, l.length ≤ maxLen ∧ AV.Le av (smAV l) := by
 obtain ⟨l, h1, h2⟩ := told_slice (α := Sm) Sm.cs sm0 (fun cs hcs => by
  obtain ⟨a, ha, _⟩ := told_int 0 hcs rfl
  obtain ⟨b, hb, _⟩ := told_int 1 hcs rfl
  obtain ⟨c, hc, _⟩ := told_int 2 hcs rfl
  obtain ⟨d, hd, _⟩ := told_int 3 hcs rfl
  exact ⟨⟨a, b, c, d⟩, rfl, fun j hj => by
   match j, hj with
   | 0, _ => rw [ha]; exact AV.Le.refl _
   | 1, _ => rw [hb]; exact AV.Le.refl _
   | 2, _ => rw [hc]; exact AV.Le.refl _
   | 3, _ => rw [hd]; exact AV.Le.refl _⟩) h
 exact ⟨l, h1, h2⟩
theorem crews_of {av : AV} (h : CKA (.sl [.int .i64, .int .i64, .int .i64]) av) : ∃ l : List Cw, l.length ≤ maxLen ∧ AV.Le av (cwAV l) := by
 obtain ⟨l, h1, h2⟩ := told_slice (α := Cw) Cw.cs cw0 (fun cs hcs => by
  obtain ⟨a, ha, _⟩ := told_int 0 hcs rfl
  obtain ⟨b, hb, _⟩ := told_int 1 hcs rfl
  obtain ⟨c, hc, _⟩ := told_int 2 hcs rfl
  exact ⟨⟨a, b, c⟩, rfl, fun j hj => by
   match j, hj with
   | 0, _ => rw [ha]; exact AV.Le.refl _
   | 1, _ => rw [hb]; exact AV.Le.refl _
   | 2, _ => rw [hc]; exact AV.Le.refl _⟩) h
 exact ⟨l, h1, h2⟩
theorem pots_of {av : AV} (h : CKA (.sl [.int .i64, .int .i64, .int .i64]) av) : ∃ l : List Po, l.length ≤ maxLen ∧ AV.Le av (psAV l) := by
 obtain ⟨l, h1, h2⟩ := told_slice (α := Po) Po.cs po0 (fun cs hcs => by
  obtain ⟨a, ha, _⟩ := told_int 0 hcs rfl
  obtain ⟨b, hb, _⟩ := told_int 1 hcs rfl
  obtain ⟨c, hc, _⟩ := told_int 2 hcs rfl
  exact ⟨⟨a, b, c⟩, rfl, fun j hj => by
   match j, hj with
   | 0, _ => rw [ha]; exact AV.Le.refl _
   | 1, _ => rw [hb]; exact AV.Le.refl _
   | 2, _ => rw [hc]; exact AV.Le.refl _⟩) h
 exact ⟨l, h1, h2⟩
theorem gang_rel {H : Type} {enc : TypeId × Value → H} {W : World} {sp : Nat → Bool} {held : Bool} {v : Value} {d : DataW H} {ps : List MemPlace}
  {base : Nat} (hv : Value.okWide Try.prog W .any base 29 v) (h : DataW.Trod enc Try.prog W 0 sp held 29 v d ps) : ∃ g : Gg, True ∧ VRel (st0 W) g.av v := by
 obtain ⟨cs, hcs, hv⟩ := trod_agg gang_cells (by decide) h
 obtain ⟨sm, l0, h0⟩ := seams_of (hcs.2 0 _ rfl)
 obtain ⟨cw, l1, h1⟩ := crews_of (hcs.2 1 _ rfl)
 obtain ⟨hr, h2, _⟩ := told_int 2 hcs rfl
 obtain ⟨fro, h3, _⟩ := told_int 3 hcs rfl
 obtain ⟨per, h4, _⟩ := told_int 4 hcs rfl
 obtain ⟨fs, l5, h5⟩ := ints_of (hcs.2 5 _ rfl)
 obtain ⟨ps, l6, h6⟩ := pots_of (hcs.2 6 _ rfl)
 refine ⟨⟨sm, cw, ⟨hr, fro, per, fs, ps⟩⟩, trivial, AV.Le.aggD (cs := cs) hcs.1.symm (fun j hj => ?_) _ _ hv⟩
 have hj7 : j < 7 := by have := hcs.1; simp at this; omega
 match j, hj7 with
 | 0, _ => exact h0
 | 1, _ => exact h1
 | 2, _ => rw [h2]; exact AV.Le.refl _
 | 3, _ => rw [h3]; exact AV.Le.refl _
 | 4, _ => rw [h4]; exact AV.Le.refl _
 | 5, _ => exact h5
 | 6, _ => exact h6
theorem Try.own : ownKnob Try.prog.godebug = none := by kernel_rfl
theorem u4 : Try.prog.underlying 4 = some .bool := by kernel_rfl
theorem u5 : Try.prog.underlying 5 = some (.int .u8) := by kernel_rfl
theorem u49 : Try.prog.underlying 49 = some (.slice 5) := by kernel_rfl
theorem wf_u8 {n : Int} (h : (Lit.int .u8 n).wf = true) : 0 ≤ n ∧ n ≤ 255 := by
 simp [Lit.wf, IntKind.min, IntKind.max, IntKind.signed, IntKind.bits] at h
 omega
def iz : Value → Int
 | .int _ n => n
 | _ => 0
theorem by_rel {H : Type} {enc : TypeId × Value → H} {W : World} {sp : Nat → Bool} {held : Bool} {v : Value} {d : DataW H} {ps : List MemPlace} {base : Nat}
  (hv : Value.okWide Try.prog W .any base 49 v) (h : DataW.Trod enc Try.prog W 0 sp held 49 v d ps) : ∃ (N : Nat) (b : Nat → Int), (N < 2 ^ 63 ∧ ∀ i, i < N → 0 ≤ b i ∧ b i ≤ 255) ∧ VRel (st0 W) (.rsl N 1 (byF b)) v := by
 obtain ⟨a, len, cap, rfl⟩ := okWide_slice u49 hv
 obtain ⟨fuel, h⟩ := h
 obtain ⟨n, g, hn, hl, hr⟩ := trod_slice_rel (d := 4) (e := 5) (ks := [.int .u8]) u49 (by decide +kernel) (by decide +kernel) (by decide) (show DataW.trod enc Try.prog W 0 sp held fuel 49 [.slice a len cap] = some (d, ps) from h)
 have key : ∀ i, i < n → ∃ z : Int, g i = [.int .u8 z] ∧ 0 ≤ z ∧ z ≤ 255 := fun i hi => by
  obtain ⟨h1, h2⟩ := hl i hi
  match hg : g i, h1 with
  | [x], _ =>
    obtain ⟨z, rfl, hz⟩ := h2 0 (.int .u8) x rfl (by rw [hg]; rfl)
    refine ⟨z, rfl, ?_⟩
    simp [Lit.wf, IntKind.min, IntKind.max, IntKind.signed, IntKind.bits] at hz
    omega
 have hm : maxLen < 2 ^ 63 := by decide
 refine ⟨n, fun i => iz ((g i).getD 0 undef), ⟨by omega, fun i hi => ?_⟩, AV.Le.rsl (fun i hi => ?_) _ _ hr⟩
 ·obtain ⟨z, e, hz⟩ := key i hi
  simp only [e]; exact hz
 ·obtain ⟨z, e, hz⟩ := key i hi
  simp only [e]; simp only [byF, e]; rfl
end Go.Proofs.Ytdopkbldjagmlaa
end
section
set_option linter.unusedVariables false
set_option linter.unusedSimpArgs false
set_option maxRecDepth 100000
namespace Go.Proofs.Ytdopkbldjagmlaa
open Go.V Go.ChangeShapes Go.WideShapes Go.ChangeAt Go.RowKit
theorem gangCan_lifted (os : Os) (started : os.Started) (H : Type) (enc : TypeId × Value → H) :
  ReturnsInHanded {} Try.checked os 5 .any (Rows.gangCanSpec.pre6 enc Try.prog Try.f5 Rows.gangCanRow.domain false) (Rows.gangCanSpec.post enc Try.prog Try.f5 false true false false) := by
 refine returnsInHanded_of_change (C := Try.checked) Try.own started (by kernel_rfl) Try.func5
  (ChangeSpec.witness6 (enc := enc) (C := Try.checked) false ⟨#[], #[.agg #[.slice none 0 0, .slice none 0 0, .int .i64 0, .int .i64 0, .int .i64 0, .slice none 0 0, .slice none 0 0], .int .u8 0, .int .u8 0, .slice none 0 0], []⟩ 8 (by kernel_rfl) (by kernel_rfl) (by kernel_rfl) (by kernel_rfl)) ?_
 intro W base args ds gs before hval hW hcnd _
 have hW' := hW
 obtain ⟨p, q, hA, hV, rfl, hfz, hnd⟩ := hW
 obtain ⟨rfl, rfl⟩ := trodVars_none hV
 rw [show Try.f5.params.toList = [29, 5, 5, 49] from by kernel_rfl] at hA
 obtain ⟨v0, v1, v2, v3, d0, d1, d2, d3, p0, p1, p2, p3, rfl, rfl, rfl, h0, h1, h2, h3⟩ := trodAll_four hA
 have hval : ∀ (j : Nat) t v, Try.f5.params[j]? = some t → (#[v0, v1, v2, v3] : Array Value)[j]? = some v → Value.okWide Try.prog W .any base t v := hval
 rw [show Try.f5.params = #[29, 5, 5, 49] from by kernel_rfl] at hval
 obtain ⟨x0, b0, r0⟩ := gang_rel (hval 0 29 v0 rfl rfl) h0
 obtain ⟨x1, rfl, rfl, rfl, w1⟩ := open_int u5 (hval 1 5 v1 rfl rfl) h1
 obtain ⟨x2, rfl, rfl, rfl, w2⟩ := open_int u5 (hval 2 5 v2 rfl rfl) h2
 obtain ⟨N3, x3, b3, r3⟩ := by_rel (hval 3 49 v3 rfl rfl) h3
 refine (law_calls (W := W) (args := #[v0, .int .u8 x1, .int .u8 x2, v3]) Try.func5 (by kernel_rfl) rfl (Tri.mono (can_law x0 x1 x2 N3 x3 H0 (wf_u8 w1) (wf_u8 w2) b3) ?_) (fun p hp => by cases hp) ⟨rfl, fun k hk => match k, hk with | 0, _ => r0 | 1, _ => .lit _ | 2, _ => .lit _ | 3, _ => r3⟩).mono fun e W' he => ?_
 ·rintro r H' ⟨rfl, _⟩; rfl
 ·obtain ⟨rfl, hh, ho, hp⟩ := he
  exact ⟨_, rfl, law_post (d := 6) rfl (tb := 4) (by kernel_rfl) u4 (by decide +kernel) hW' rfl hh ho hp⟩

theorem gangCan_holds : Rows.GangCanSaid :=
 OpenClaim.holds_of_wide (p := Try.pinned) (s := Rows.gangCanSpec) (c := Rows.gangCanRow) 5 Try.f5 rfl rfl rfl rfl rfl rfl rfl ⟨rfl, rfl, rfl, rfl, rfl⟩ rfl rfl rfl rfl rfl (by kernel_rfl) Try.func5 (by kernel_rfl)
  (of_decide_eq_true (by kernel_rfl)) (by unfold Func.isWrapper; first | (rw [if_pos (by decide +kernel)]; kernel_rfl) | (rw [if_neg (by decide +kernel)]; exact ⟨rfl, rfl⟩))
  (fun os started H enc _ => gangCan_lifted os started H enc)

end Go.Proofs.Ytdopkbldjagmlaa
end
