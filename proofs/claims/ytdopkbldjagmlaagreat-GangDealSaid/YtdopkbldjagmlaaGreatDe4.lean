/- Helper lemmas of this claim, part 4. -/
import Derived.Test.YtdopkbldjagmlaaGreatDe3
section
set_option linter.unusedVariables false
set_option linter.unusedSimpArgs false
set_option maxHeartbeats 4000000
set_option maxRecDepth 100000
namespace Go.Proofs.YtdopkbldjagmlaaGreat
open Go.V
/-- A pitch that is looked at. -/
abbrev pC (p : Pt) : List AV := [i64 p.hr, i64 p.fro, i64 p.per, intsAV p.fs, psAV p.ps, u64 (p.F false : Nat), u64 (p.F true : Nat)]
abbrev pP (p : Pt) : AV := .rptr 1 7 (fun _ => pC p) 0 0
theorem wpot_tri (p : Pt) (n : Int) (H : Hp) (k : Near p) : PTri Tryz.prog (fnA 113) [pP p, i64 n] H (boo (isPot p n)) := by
 have := k.nP
 refine tri_v0 (fun _ => false) Tryz.func113 (by kernel_rfl) rfl (by simp only [List.length_append, List.length_cons, List.length_nil, Tryz.ntmps113]; decide) ?_
 simp only [vsAll, binA, binLitA, intA, loadA, loadRow, partA, partOk, fieldAddrA, lenA, nilCheckA, okAll, stAll, opsA, opA, dstOk, nilSliceOp, argFr, Nat.reduceLT, Nat.reduceEqDiff, ↓reduceIte, reduceCtorEq, eq_self, wtAll, Tryz.ntmps113]
 refine ⟨by simp only [InR_i64]; omega, callK_pure (within_tri _ _ _ _) ?_⟩
 simp only [vsAll, opA, dstOk, nilSliceOp, resA, retA.eq_1, Nat.reduceLT, ↓reduceIte, eq_self, Tryz.results113]
 rfl
theorem whour_tri (p : Pt) (n : Int) (H : Hp) (k : Ok p) : PTri Tryz.prog (fnA 114) [pP p, i64 n] H (boo (isHour p n)) := by
 have := k.hr
 have hw : InR .i64 (p.hr - 1) := by simp only [InR_i64]; omega
 have e : isHour p n = (decide (0 ≤ n) && decide (n ≤ p.hr - 1)) := by unfold isHour; rw [hw.wrap]
 rw [e]
 refine tri_v0 (fun _ => false) Tryz.func114 (by kernel_rfl) rfl (by simp only [List.length_append, List.length_cons, List.length_nil, Tryz.ntmps114]; decide) ?_
 simp only [vsAll, binA, binLitA, intA, loadA, loadRow, partA, partOk, fieldAddrA, nilCheckA, okAll, stAll, opsA, opA, dstOk, nilSliceOp, argFr, Nat.reduceLT, Nat.reduceEqDiff, ↓reduceIte, reduceCtorEq, eq_self, wtAll, Tryz.ntmps114]
 refine ⟨hw, callK_pure (within_tri _ _ _ _) ?_⟩
 simp only [vsAll, opA, dstOk, nilSliceOp, resA, retA.eq_1, Nat.reduceLT, ↓reduceIte, eq_self, Tryz.results114]
theorem pop_add : ∀ (k a : Nat), a < 2 ^ k → k < 59 → pop (a + 2 ^ k) = pop a + 1 := by
 intro k
 induction k with
 | zero =>
   intro a ha _
   have : a = 0 := by simpa using ha
   subst this; rfl
 | succ k ih =>
   intro a ha hk
   have h59 : 2 ^ (k + 1) ≤ 2 ^ 58 := Nat.pow_le_pow_right (by decide) (by omega)
   rw [Nat.pow_succ] at ha h59 ⊢
   have e1 := pop_step (a + 2 ^ k * 2) (by omega)
   have e2 := pop_step a (by omega)
   rw [show (a + 2 ^ k * 2) % 2 = a % 2 by omega, show (a + 2 ^ k * 2) / 2 = a / 2 + 2 ^ k by omega, ih (a / 2) (by omega) (by omega)] at e1
   omega
/-- The heat of a stretch of hours, as the program counts it. -/
theorem seg_sum (F h : Nat) : ∀ n, h + n ≤ 12 → 2 * pop (2 ^ (h + n) - 2 ^ h) = hsum F h n + pop ((2 ^ (h + n) - 2 ^ h) &&& F) := by
 intro n
 induction n with
 | zero =>
   intro _
   rw [Nat.add_zero, Nat.sub_self, Nat.zero_and]; rfl
 | succ n ih =>
   intro hn
   have ih := ih (by omega)
   have hp : 2 ^ h ≤ 2 ^ (h + n) := Nat.pow_le_pow_right (by decide) (by omega)
   have h0 : 0 < 2 ^ h := Nat.two_pow_pos _
   have e : 2 ^ (h + (n + 1)) - 2 ^ h = (2 ^ (h + n) - 2 ^ h) + 2 ^ (h + n) := by
    rw [← Nat.add_assoc, Nat.pow_succ]; omega
   have e2 : ((2 ^ (h + n) - 2 ^ h) + 2 ^ (h + n)) &&& F = ((2 ^ (h + n) - 2 ^ h) &&& F) + if F.testBit (h + n) = true then 2 ^ (h + n) else 0 := by
    have hlt : 2 ^ (h + n) - 2 ^ h < 2 ^ (h + n) := by omega
    have hlt2 : (2 ^ (h + n) - 2 ^ h) &&& F < 2 ^ (h + n) := Nat.lt_of_le_of_lt Nat.and_le_left hlt
    generalize (2 ^ (h + n) - 2 ^ h) = a at hlt hlt2 ⊢
    generalize h + n = m at hlt hlt2 ⊢
    have hor : a + 2 ^ m = 2 ^ m ||| a := by
     have := Nat.two_pow_add_eq_or_of_lt hlt 1
     rw [Nat.mul_one] at this
     rw [← this]; omega
    have hor2 : (a &&& F) + 2 ^ m = 2 ^ m ||| (a &&& F) := by
     have := Nat.two_pow_add_eq_or_of_lt hlt2 1
     rw [Nat.mul_one] at this
     rw [← this]; omega
    by_cases hb : F.testBit m = true
    ·rw [if_pos hb, hor2, hor]
     apply Nat.eq_of_testBit_eq
     intro j
     simp only [Nat.testBit_and, Nat.testBit_or, Nat.testBit_two_pow]
     by_cases ej : m = j
     ·subst ej; simp [hb]
     ·simp [ej]
    ·rw [if_neg hb, Nat.add_zero, hor]
     apply Nat.eq_of_testBit_eq
     intro j
     simp only [Nat.testBit_and, Nat.testBit_or, Nat.testBit_two_pow]
     by_cases ej : m = j
     ·subst ej
      rw [Bool.not_eq_true] at hb
      simp [hb]
     ·simp [ej]
   have hlt : 2 ^ (h + n) - 2 ^ h < 2 ^ (h + n) := by omega
   have hlt2 : (2 ^ (h + n) - 2 ^ h) &&& F < 2 ^ (h + n) := Nat.lt_of_le_of_lt Nat.and_le_left hlt
   rw [e, e2, pop_add _ _ hlt (by omega)]
   simp only [hsum]
   by_cases hb : F.testBit (h + n) = true
   ·rw [if_pos hb, if_pos hb, pop_add _ _ hlt2 (by omega)]; omega
   ·rw [if_neg hb, if_neg hb]; simp only [Nat.add_zero]; omega
theorem pow_int (n : Nat) : (1 : Int) * 2 ^ n = ((2 ^ n : Nat) : Int) := by rw [Int.one_mul]; simp
theorem stretch_tri (a b : Nat) (H : Hp) (hab : a ≤ b) (hb : b ≤ 60) : PTri Tryz.prog (fnA 127) [i64 a, i64 b] H (u64 ((2 ^ b - 2 ^ a : Nat) : Int)) := by
 have h1 : 2 ^ a ≤ 2 ^ b := Nat.pow_le_pow_right (by decide) hab
 have h2 : 2 ^ b ≤ 2 ^ 60 := Nat.pow_le_pow_right (by decide) hb
 obtain ⟨x, hx⟩ : ∃ x, 2 ^ a = x := ⟨_, rfl⟩
 obtain ⟨y, hy⟩ : ∃ y, 2 ^ b = y := ⟨_, rfl⟩
 rw [hx, hy] at h1 ⊢
 rw [hy] at h2
 have e : ((y - x : Nat) : Int) = (y : Int) - (x : Int) := by omega
 rw [e]
 refine tri_v0 (fun _ => false) Tryz.func127 (by kernel_rfl) rfl (by simp only [List.length_append, List.length_cons, List.length_nil, Tryz.ntmps127]; decide) ?_
 simp only [vsAll, opA, dstOk, nilSliceOp, Nat.reduceLT, eq_self, Tryz.ntmps127]
 refine vs_draw2 [0, 0, 0, 0, 0, 0] [] [0, 1, 2, 3, 4, 5] (by decide +kernel) ?_
 simp only [vsAll, binA, binLitA, intA, opA, dstOk, resA, argFr, retA.eq_1, Nat.reduceLT, Nat.reduceEqDiff, ↓reduceIte, reduceCtorEq, eq_self, Tryz.results127, pow_int, hx, hy]
 refine ⟨⟨by omega, by omega, by simp only [InR_u64]; omega⟩, ⟨by omega, by omega, by simp only [InR_u64]; omega⟩, by simp only [InR_u64]; omega⟩
theorem hot_tri (p : Pt) (i h : Nat) (b : Bool) (H : Hp) (k : Ok p) (hi : i < p.ps.length) (hh : h ≤ p.H) : PTri Tryz.prog (fnA 107) [pP p, i64 i, i64 h, u64 (p.F b : Nat)] H (i64 (hotV p b i h : Nat)) := by
 obtain ⟨fo, pe, e1, e2, h1, h2, hF, eH, h12⟩ := k.nums
 have nP := k.nP
 have hp := k.pot hi
 have hFl := F_lt k b
 have h4096 := pow12 h12
 have epot : (p.ps.getD i po0).ht = (p.pot i).ht := rfl
 refine tri_v0 (fun _ => false) Tryz.func107 (by kernel_rfl) rfl (by simp only [List.length_append, List.length_cons, List.length_nil, Tryz.ntmps107]; decide) ?_
 simp only [vsAll, binA, binLitA, intA, opA, dstOk, nilSliceOp, argFr, Nat.reduceLT, Nat.reduceEqDiff, ↓reduceIte, eq_self, Tryz.ntmps107]
 refine ⟨by simp only [InR_i64]; omega, ?_⟩
 refine vs_loop (σ := Nat) (fun e => h < e ∧ e ≤ p.H + 1 ∧ ∀ e', h < e' → e' < e → ¬ (p.pot i).ht ≤ (hsum (p.F b) h (e' - h) : Nat)) (fun e => [(0, pP p), (1, i64 i), (2, i64 h), (3, u64 (p.F b : Nat)), (9, fnA 126), (10, i64 e)]) (fun _ => H) (fun e => p.H + 1 - e) (h + 1) ⟨by omega, by omega, fun e' a c => by omega⟩ ?_ (HSub.refl _) fun e he => ?_
 ·simp only [vsAll, argFr, Nat.reduceEqDiff, ↓reduceIte, reduceCtorEq, eq_self, Int.natCast_add, Int.natCast_one]
 ·obtain ⟨he1, he2, hall⟩ := he
  simp only [vsAll, binA, binLitA, intA, loadA, loadRow, partA, partOk, fieldAddrA, nilCheckA, opA, dstOk, Nat.reduceLT, Nat.reduceEqDiff, ↓reduceIte, reduceCtorEq, eq_self, wtAll, eH]
  refine condD (fun hd => ?_) (fun hd => ?_)
  ·have hs := seg_sum (p.F b) h (e - h) (by omega)
   rw [show h + (e - h) = e by omega] at hs
   have hle := hsum_le (p.F b) h (e - h)
   have hel : 2 ^ e ≤ 2 ^ 12 := Nat.pow_le_pow_right (by decide) (by omega)
   have hal := @Nat.and_le_left (2 ^ e - 2 ^ h) (p.F b)
   have pl1 := pop_le (2 ^ e - 2 ^ h)
   have pl2 := pop_le ((2 ^ e - 2 ^ h) &&& p.F b)
   simp only [vsAll, okAll, stAll, opsA, opA, dstOk, Nat.reduceLT, Nat.reduceEqDiff, ↓reduceIte, reduceCtorEq, eq_self]
   refine callK_pure (stretch_tri h e _ (by omega) (by omega)) ?_
   have hsg : 2 ^ e - 2 ^ h < 4096 := by have := Nat.two_pow_pos h; omega
   generalize 2 ^ e - 2 ^ h = sg at *
   simp only [vsAll, opA, dstOk, nilSliceOp, Nat.reduceLT, ↓reduceIte, eq_self]
   refine vs_draw2 [0, 0, 0, 0, 0, 0, 0, 0, 0, 0, 0, 0, 0, 0, 0, 0, 0, 0, 0, 0] [] [0, 1, 2, 3, 4, 5, 6, 7, 8, 9, 10, 11, 12, 13, 14, 15, 16, 17, 18, 19] (by decide +kernel) ?_
   simp only [vsAll, opA, dstOk, Nat.reduceLT, Nat.reduceEqDiff, ↓reduceIte, reduceCtorEq, eq_self]
   refine qcall _ ⟨trivial, by simp only [vsAll, okAll, opsA, opA, ↓reduceIte, eq_self], count_tri sg _ (by omega)⟩ ?_
   simp only [vsAll, binA, binLitA, intA, opA, dstOk, Nat.reduceLT, Nat.reduceEqDiff, ↓reduceIte, reduceCtorEq, eq_self]
   refine ⟨by simp only [InR_i64]; omega, ⟨by omega, by omega, by simp only [InR_u64]; omega, by simp only [InR_u64]; omega⟩, ?_⟩
   refine qcall _ ⟨trivial, by simp only [vsAll, okAll, opsA, opA, ↓reduceIte, eq_self], count_tri (sg &&& p.F b) _ (by omega)⟩ ?_
   simp only [vsAll, binA, binLitA, intA, loadA, loadRow, partA, partOk, fieldAddrA, indexAddrA, nilCheckA, opA, dstOk, Nat.reduceLT, Nat.reduceEqDiff, ↓reduceIte, reduceCtorEq, eq_self, wtAll, psF_at, epot]
   refine ⟨by simp only [InR_i64]; omega, ⟨by omega, by omega⟩, hi, ?_⟩
   have eV : (2 * (pop sg : Int) - (pop (sg &&& p.F b) : Nat)) = (hsum (p.F b) h (e - h) : Nat) := by omega
   rw [eV]
   refine condV (fun hc => ?_) (fun hc => ?_)
   ·have : hotV p b i h = e := endN_found he1 (by omega) (of_decide_eq_true hc) hall
    rw [this]
    simp only [vsAll, opA, dstOk, nilSliceOp, resA, retA.eq_1, Nat.reduceLT, Nat.reduceEqDiff, ↓reduceIte, reduceCtorEq, eq_self, Tryz.results107]
   ·have hc := of_decide_eq_false hc
    simp only [vsAll, binA, binLitA, intA, opA, dstOk, nilSliceOp, Nat.reduceLT, Nat.reduceEqDiff, ↓reduceIte, reduceCtorEq, eq_self]
    refine ⟨by simp only [InR_i64]; omega, loop_next (e + 1) ⟨by omega, by omega, fun e' a c => ?_⟩ (by omega) ?_ HSub_rfl⟩
    ·by_cases q : e' = e
     ·rw [q]; exact hc
     ·exact hall e' a (by omega)
    ·simp only [vsAll, Nat.reduceEqDiff, ↓reduceIte, reduceCtorEq, eq_self, Int.natCast_add, Int.natCast_one]
  ·have : hotV p b i h = p.H + 1 := endN_none fun e' a c => hall e' a (by omega)
   rw [this]
   simp only [vsAll, binA, binLitA, intA, loadA, loadRow, partA, partOk, fieldAddrA, nilCheckA, opA, dstOk, nilSliceOp, resA, retA.eq_1, Nat.reduceLT, ↓reduceIte, reduceCtorEq, eq_self, wtAll, Tryz.results107, eH]
   refine ⟨by simp only [InR_i64]; omega, ?_⟩
   simp
end Go.Proofs.YtdopkbldjagmlaaGreat
end
section
set_option linter.unusedVariables false
set_option linter.unusedSimpArgs false
set_option maxHeartbeats 4000000
set_option maxRecDepth 100000
namespace Go.Proofs.YtdopkbldjagmlaaGreat
open Go.V
theorem meets_tri (a b : Nat) (H : Hp) (ha : a < 2 ^ 60) (hb : b < 2 ^ 60) : PTri Tryz.prog (fnA 132) [u64 (a : Nat), u64 (b : Nat)] H (boo (meet a b)) := by
 have e : meet a b = !decide (((a &&& b : Nat) : Int) = 0) := by
  unfold meet
  congr 1
  exact decide_eq_decide.2 (by omega)
 rw [e]
 refine tri_v0 (fun _ => false) Tryz.func132 (by kernel_rfl) rfl (by simp only [List.length_append, List.length_cons, List.length_nil, Tryz.ntmps132]; decide) ?_
 simp only [vsAll, binA, binLitA, intA, opA, dstOk, nilSliceOp, resA, argFr, retA.eq_1, Nat.reduceLT, Nat.reduceEqDiff, ↓reduceIte, reduceCtorEq, eq_self, Tryz.ntmps132, Tryz.results132]
 exact ⟨by omega, by omega, by simp only [InR_u64]; omega, by simp only [InR_u64]; omega⟩
theorem takes_tri (p : Pt) (i h : Nat) (H : Hp) (k : Ok p) (hi : i < p.ps.length) (hh : h < p.H) : PTri Tryz.prog (fnA 131) [pP p, i64 i, i64 h] H (u64 (tkN p i h : Nat)) := by
 obtain ⟨fo, pe, e1, e2, h1, h2, hF, eH, h12⟩ := k.nums
 have hgt := endN_gt (p.F true) (p.pot i).ht (show h ≤ p.H by omega)
 have eT : (tkN p i h : Nat) = 2 ^ (min p.H (hotV p true i h)) - 2 ^ h := rfl
 refine tri_v0 (fun _ => false) Tryz.func131 (by kernel_rfl) rfl (by simp only [List.length_append, List.length_cons, List.length_nil, Tryz.ntmps131]; decide) ?_
 simp only [vsAll, opA, dstOk, nilSliceOp, Nat.reduceLT, eq_self, Tryz.ntmps131]
 refine vs_draw2 [0, 0, 0, 0, 0, 0, 0, 0, 0, 0, 0, 0, 0, 0, 0, 0, 0] [] [0, 1, 2, 3, 4, 5, 6, 7, 8, 9, 10, 11, 12, 13, 14, 15, 16] (by decide +kernel) ?_
 simp only [vsAll, loadA, loadRow, partA, partOk, fieldAddrA, nilCheckA, opA, dstOk, argFr, Nat.reduceLT, Nat.reduceEqDiff, ↓reduceIte, reduceCtorEq, eq_self, wtAll, eH]
 refine qcall _ ⟨trivial, by simp only [vsAll, okAll, opsA, opA, Nat.reduceEqDiff, ↓reduceIte, eq_self], hot_tri p i h true _ k hi (by omega)⟩ ?_
 simp only [vsAll, mmA, okAll, stAll, opsA, opA, dstOk, Nat.reduceLT, Nat.reduceEqDiff, ↓reduceIte, eq_self]
 have em : min (p.H : Int) (hotV p true i h : Nat) = ((min p.H (hotV p true i h) : Nat) : Int) := by omega
 rw [em]
 refine qcall _ ⟨trivial, by simp only [vsAll, okAll, opsA, opA, Nat.reduceEqDiff, ↓reduceIte, eq_self], stretch_tri h (min p.H (hotV p true i h)) _ (by unfold hotV; omega) (by omega)⟩ ?_
 rw [← eT]
 simp only [vsAll, opA, dstOk, resA, retA.eq_1, Nat.reduceLT, ↓reduceIte, eq_self, Tryz.results131]
theorem meth_early : methT Tryz.prog 199 "caulkworks/pitch.broken" 160 := fun cv vs w => by kernel_rfl
theorem meth_late : methT Tryz.prog 200 "caulkworks/pitch.broken" 161 := fun cv vs w => by kernel_rfl
theorem meth_hull : methT Tryz.prog 201 "caulkworks/pitch.broken" 162 := fun cv vs w => by kernel_rfl
abbrev earlyA : AV := .iface 199 (.agg [])
abbrev lateA : AV := .iface 200 (.agg [])
abbrev hullA : AV := .iface 201 (.agg [])
theorem early_tri (p : Pt) (i f h : Nat) (H : Hp) (k : Ok p) (hi : i < p.ps.length) : PTri Tryz.prog (fnA 160) [.agg [], pP p, i64 i, plA ((f : Int), (h : Int))] H (boo (decide ((h : Int) < (p.pot i).fr))) := by
 have nP := k.nP
 refine tri_v0 (fun _ => false) Tryz.func160 (by kernel_rfl) rfl (by simp only [List.length_append, List.length_cons, List.length_nil, Tryz.ntmps160]; decide) ?_
 simp only [vsAll, boxA, boxZ, opA, dstOk, nilSliceOp, argFr, Nat.reduceAdd, Nat.reduceLT, Nat.reduceEqDiff, ↓reduceIte, eq_self, wtAll, Tryz.ntmps160]
 refine vs_draw2 [0, 0, 0, 0, 0, 0, 0, 0, 0, 0, 0, 0, 0] [] [0, 1, 2, 3, 4, 5, 6, 7, 8, 9, 10, 11, 12] (by decide +kernel) ?_
 simp only [vsAll, binA, binLitA, intA, loadA, loadRow, partA, partOk, fieldAddrA, indexAddrA, nilCheckA, opA, dstOk, resA, argFr, retA.eq_1, Nat.reduceLT, Nat.reduceEqDiff, ↓reduceIte, eq_self, wtAll, Tryz.results160, psF_at]
 exact ⟨⟨by omega, by omega⟩, hi, rfl⟩
theorem late_tri (p : Pt) (i f h : Nat) (H : Hp) (k : Ok p) (hi : i < p.ps.length) (hh : h < p.H) : PTri Tryz.prog (fnA 161) [.agg [], pP p, i64 i, plA ((f : Int), (h : Int))] H (boo (decide ((p.pot i).bb < (hotV p true i h : Nat)))) := by
 have nP := k.nP
 refine tri_v0 (fun _ => false) Tryz.func161 (by kernel_rfl) rfl (by simp only [List.length_append, List.length_cons, List.length_nil, Tryz.ntmps161]; decide) ?_
 simp only [vsAll, boxA, boxZ, opA, dstOk, nilSliceOp, argFr, Nat.reduceAdd, Nat.reduceLT, Nat.reduceEqDiff, ↓reduceIte, eq_self, wtAll, Tryz.ntmps161]
 refine vs_draw2 [0, 0, 0, 0, 0, 0, 0, 0, 0, 0, 0, 0, 0, 0, 0, 0, 0, 0, 0, 0] [] [0, 1, 2, 3, 4, 5, 6, 7, 8, 9, 10, 11, 12, 13, 14, 15, 16, 17, 18, 19] (by decide +kernel) ?_
 simp only [vsAll, loadA, loadRow, partA, partOk, fieldAddrA, nilCheckA, opA, dstOk, argFr, Nat.reduceLT, Nat.reduceEqDiff, ↓reduceIte, eq_self, wtAll]
 refine qcall _ ⟨trivial, by simp only [vsAll, okAll, opsA, opA, Nat.reduceEqDiff, ↓reduceIte, eq_self], hot_tri p i h true _ k hi (by omega)⟩ ?_
 simp only [vsAll, binA, binLitA, intA, loadA, loadRow, partA, partOk, fieldAddrA, indexAddrA, nilCheckA, opA, dstOk, resA, argFr, retA.eq_1, Nat.reduceLT, Nat.reduceEqDiff, ↓reduceIte, eq_self, wtAll, Tryz.results161, psF_at]
 exact ⟨⟨by omega, by omega⟩, hi, rfl⟩
theorem hull_tri (p : Pt) (i f h : Nat) (H : Hp) (k : Ok p) (hi : i < p.ps.length) (hf : f < p.fs.length) (hh : h < p.H) : PTri Tryz.prog (fnA 162) [.agg [], pP p, i64 i, plA ((f : Int), (h : Int))] H (boo (meet (tkN p i h) (fireN p f))) := by
 have nF := k.nF
 have nP := k.nP
 obtain ⟨ef, hfl⟩ := k.fire hf
 have htl := tk_lt p i h
 have h4096 := pow12 k.H_eq.2
 refine tri_v0 (fun _ => false) Tryz.func162 (by kernel_rfl) rfl (by simp only [List.length_append, List.length_cons, List.length_nil, Tryz.ntmps162]; decide) ?_
 simp only [vsAll, boxA, boxZ, opA, dstOk, nilSliceOp, argFr, Nat.reduceAdd, Nat.reduceLT, Nat.reduceEqDiff, ↓reduceIte, eq_self, wtAll, Tryz.ntmps162]
 refine vs_draw2 [0, 0, 0, 0, 0, 0, 0, 0, 0, 0, 0, 0, 0, 0, 0, 0, 0] [] [0, 1, 2, 3, 4, 5, 6, 7, 8, 9, 10, 11, 12, 13, 14, 15, 16] (by decide +kernel) ?_
 simp only [vsAll, loadA, loadRow, partA, partOk, fieldAddrA, opA, dstOk, argFr, Nat.reduceLT, Nat.reduceEqDiff, ↓reduceIte, eq_self, wtAll]
 refine qcall _ ⟨trivial, by simp only [vsAll, okAll, opsA, opA, Nat.reduceEqDiff, ↓reduceIte, eq_self], takes_tri p i h _ k hi hh⟩ ?_
 simp only [vsAll, loadA, loadRow, partA, partOk, fieldAddrA, indexAddrA, nilCheckA, convA, opA, dstOk, argFr, Nat.reduceLT, Nat.reduceEqDiff, ↓reduceIte, eq_self, wtAll, intF_at, ef]
 refine ⟨⟨by omega, by omega⟩, hf, by simp only [InR_u64]; omega, ?_⟩
 refine qcall _ ⟨trivial, by simp only [vsAll, okAll, opsA, opA, Nat.reduceEqDiff, ↓reduceIte, eq_self], meets_tri (tkN p i h) (fireN p f) _ (by omega) (by omega)⟩ ?_
 simp only [vsAll, opA, dstOk, resA, retA.eq_1, Nat.reduceLT, ↓reduceIte, eq_self, Tryz.results162]
abbrev bdC (u : List Nat) : List AV := [u64 (u.getD 0 0 : Nat), u64 (u.getD 1 0 : Nat), u64 (u.getD 2 0 : Nat)]
abbrev bdF (u : List Nat) : Nat → List AV := fun i => [u64 (u.getD i 0 : Nat)]
abbrev bdAV (u : List Nat) : AV := .arr 3 1 (bdF u)
theorem lt3 {i : Nat} (h : i < 3) : i = 0 ∨ i = 1 ∨ i = 2 := by omega
/-- The first of some rules that is broken. -/
def fstR (B : Nat → Bool) (n : Nat) : Int := match (List.range n).find? B with
 | some j => j + 1
 | none => 0
theorem fstR_hit {B : Nat → Bool} {n j : Nat} (hj : j < n) (h : B j = true) (hall : ∀ q, q < j → B q = false) : fstR B n = j + 1 := by
 have : (List.range n).find? B = some j := by
  rw [List.find?_range_eq_some]
  exact ⟨h, by simpa using hj, fun q hq => by simp [hall q hq]⟩
 unfold fstR; rw [this]
theorem fstR_none {B : Nat → Bool} {n : Nat} (hall : ∀ q, q < n → B q = false) : fstR B n = 0 := by
 have : (List.range n).find? B = none := by
  rw [List.find?_eq_none]
  intro q hq
  simp [hall q (List.mem_range.1 hq)]
 unfold fstR; rw [this]
theorem brokenL_tri (p : Pt) (i : Nat) (x : Int × Int) (n : Nat) (R : Nat → AV) (B : Nat → Bool) (H : Hp) (hn : n ≤ 10) (hok : ∀ j, (R j).ok = True) (hst : ∀ j, (R j).st = R j)
  (hR : ∀ j, j < n → PTri Tryz.prog (.func (.method "caulkworks/pitch.broken") [] []) [R j, pP p, i64 i, plA x] H (boo (B j))) :
  PTri Tryz.prog (fnA 137) [pP p, i64 i, plA x, .rsl n 1 fun j => [R j]] H (i64 (fstR B n)) := by
 refine tri_v0 (fun _ => false) Tryz.func137 (by kernel_rfl) rfl (by simp only [List.length_append, List.length_cons, List.length_nil, Tryz.ntmps137]; decide) ?_
 simp only [vsAll, lenA, boxA, boxZ, opA, dstOk, nilSliceOp, argFr, Nat.reduceAdd, Nat.reduceLT, Nat.reduceEqDiff, ↓reduceIte, eq_self, wtAll, Tryz.ntmps137]
 refine vs_loop (σ := Nat) (fun j => j ≤ n ∧ ∀ q, q < j → B q = false) (fun j => [(0, pP p), (1, i64 i), (6, plP x), (11, .rsl n 1 fun j => [R j]), (12, i64 n), (13, i64 j)]) (fun _ => H) (fun j => n - j) 0 ⟨Nat.zero_le _, fun q hq => absurd hq (by omega)⟩ ?_ (HSub.refl _) fun j hj => ?_
 ·simp only [vsAll, argFr, Nat.reduceEqDiff, ↓reduceIte, reduceCtorEq, eq_self, Int.natCast_zero]
 ·obtain ⟨hj, hall⟩ := hj
  have hokj := hok j
  have hstj := hst j
  simp only [vsAll, binA, binLitA, intA, opA, dstOk, Nat.reduceLT, Nat.reduceEqDiff, ↓reduceIte, reduceCtorEq, eq_self]
  refine condD (fun hd => ?_) (fun hd => ?_)
  ·have hjn : j < n := by omega
   simp only [vsAll, loadA, loadRow, partA, partOk, indexAddrA, okAll, stAll, opsA, opA, dstOk, nilSliceOp, Nat.reduceLT, Nat.reduceEqDiff, ↓reduceIte, reduceCtorEq, eq_self, wtAll, hokj, hstj]
   refine ⟨⟨by omega, by omega⟩, hjn, callK_pure (hR j hjn) ?_⟩
   simp only [vsAll, opA, ↓reduceIte, eq_self]
   refine condV (fun hc => ?_) (fun hc => ?_)
   ·have e := fstR_hit hjn hc hall
    simp only [vsAll, binA, binLitA, intA, opA, dstOk, nilSliceOp, resA, retA.eq_1, Nat.reduceLT, Nat.reduceEqDiff, ↓reduceIte, eq_self, Tryz.results137, e]
    simp only [InR_i64]; omega
   ·simp only [vsAll, binA, binLitA, intA, opA, dstOk, Nat.reduceLT, Nat.reduceEqDiff, ↓reduceIte, reduceCtorEq, eq_self]
    refine ⟨by simp only [InR_i64]; omega, loop_next (j + 1) ⟨by omega, fun q hq => ?_⟩ (by omega) ?_ HSub_rfl⟩
    ·by_cases e : q = j
     ·rw [e]; exact hc
     ·exact hall q (by omega)
    ·simp only [vsAll, Nat.reduceEqDiff, ↓reduceIte, reduceCtorEq, eq_self, Int.natCast_add, Int.natCast_one]
  ·have ej : j = n := by omega
   have e := fstR_none (B := B) (n := n) fun q hq => hall q (by omega)
   simp only [vsAll, opA, dstOk, nilSliceOp, resA, retA.eq_1, Nat.reduceLT, ↓reduceIte, eq_self, Tryz.results137, e]
theorem fst3 (B : Nat → Bool) : fstR B 3 = if B 0 = true then 1 else if B 1 = true then 2 else if B 2 = true then 3 else 0 := by
 cases h0 : B 0 <;> cases h1 : B 1 <;> cases h2 : B 2 <;> simp [fstR, List.range_succ, h0, h1, h2]
/-- The rules, and whether they are broken. -/
def rlA (u : List Nat) : Nat → AV
 | 0 => earlyA
 | 1 => lateA
 | 2 => hullA
 | _ => hullA
def rlB (p : Pt) (i f h : Nat) (u : List Nat) : Nat → Bool
 | 0 => decide ((h : Int) < (p.pot i).fr)
 | 1 => decide ((p.pot i).bb < (hotV p true i h : Nat))
 | 2 => meet (tkN p i h) (fireN p f)
 | _ => meet (tkN p i h) (u.getD f 0)
theorem rlA_ok (u : List Nat) (j : Nat) : (rlA u j).ok = True := by unfold rlA; split <;> rfl
theorem rlA_st (u : List Nat) (j : Nat) : (rlA u j).st = rlA u j := by unfold rlA; split <;> rfl
theorem rl_tri (p : Pt) (i f h : Nat) (u : List Nat) (H : Hp) (k : Ok p) (hi : i < p.ps.length) (hf : f < p.fs.length) (hh : h < p.H) (j : Nat) (hj : j < 3) :
  PTri Tryz.prog (.func (.method "caulkworks/pitch.broken") [] []) [rlA u j, pP p, i64 i, plA ((f : Int), (h : Int))] H (boo (rlB p i f h u j)) := by
 match j with
 | 0 => exact tri_inv meth_early (early_tri p i f h H k hi)
 | 1 => exact tri_inv meth_late (late_tri p i f h H k hi hh)
 | 2 => exact tri_inv meth_hull (hull_tri p i f h H k hi hf hh)
 | q + 3 => exact absurd hj (by omega)
theorem alone_tri (p : Pt) (i f h : Nat) (H : Hp) (k : Ok p) (hi : i < p.ps.length) (hf : f < p.fs.length) (hh : h < p.H) : PTri Tryz.prog (fnA 130) [pP p, i64 i, plA ((f : Int), (h : Int))] H (boo (decide (alR p i ((f : Int), (h : Int)) = 0))) := by
 have e : alR p i ((f : Int), (h : Int)) = fstR (rlB p i f h u0) 3 := by
  rw [fst3]
  simp only [rlB, decide_eq_true_eq]
  rfl
 rw [e]
 have hb : PTri Tryz.prog (fnA 137) [pP p, i64 i, plA ((f : Int), (h : Int)), .rsl 3 1 fun j => [[earlyA], [lateA], [hullA]].getD j []] H (i64 (fstR (rlB p i f h u0) 3)) := by
  refine Tri.args (brokenL_tri p i ((f : Int), (h : Int)) 3 (rlA u0) (rlB p i f h u0) H (by omega) (rlA_ok u0) (rlA_st u0) fun j hj => rl_tri p i f h u0 H k hi hf hh j hj) rfl fun q hq => ?_
  match q, hq with
  | 0, _ => exact AV.Le.refl _
  | 1, _ => exact AV.Le.refl _
  | 2, _ => exact AV.Le.refl _
  | 3, _ =>
    refine AV.Le.rsl fun j hj => ?_
    match j, hj with
    | 0, _ => rfl
    | 1, _ => rfl
    | 2, _ => rfl
 refine tri_v0 (fun _ => false) Tryz.func130 (by kernel_rfl) rfl (by simp only [List.length_append, List.length_cons, List.length_nil, Tryz.ntmps130]; decide) ?_
 simp only [vsAll, loadA, loadRow, partA, partOk, boxA, boxZ, cellA, cellsA, fillA, okParts, buildSliceA, partIdx, elemsA, lensA, ifaceA, okAll, stAll, opsA, partsA, partsOk, opA, dstOk, nilSliceOp, argFr, Nat.reduceAdd, Nat.reduceMul, Nat.reduceLT, Nat.reduceLeDiff, Nat.reduceEqDiff, ↓reduceIte, reduceCtorEq, eq_self, wtAll, Tryz.ntmps130]
 refine callK_pure hb ?_
 simp only [vsAll, binA, binLitA, intA, opA, dstOk, nilSliceOp, resA, retA.eq_1, Nat.reduceLT, ↓reduceIte, eq_self, Tryz.results130]
/-- A board: what is taken on each fire, in numbers that are not too great. -/
def Bd (u : List Nat) : Prop := u.length = 3 ∧ ∀ q, q < 3 → u.getD q 0 < 4096
end Go.Proofs.YtdopkbldjagmlaaGreat
end
section
set_option linter.unusedVariables false
set_option linter.unusedSimpArgs false
set_option maxHeartbeats 4000000
set_option maxRecDepth 100000
namespace Go.Proofs.YtdopkbldjagmlaaGreat
open Go.V
theorem joined_tri (a b : Nat) (H : Hp) (ha : a < 2 ^ 60) (hb : b < 2 ^ 60) : PTri Tryz.prog (fnA 123) [.rsl 2 1 fun i => [[u64 (a : Nat)], [u64 (b : Nat)]].getD i []] H (u64 ((a ||| b : Nat) : Int)) := by
 have hab := Nat.or_lt_two_pow ha hb
 have key : ∀ j : Nat, j < 2 → ([[u64 (a : Nat)], [u64 (b : Nat)]].getD j []).getD 0 .any = u64 ((if j = 0 then a else b : Nat) : Int) := fun j hj => by
  match j, hj with
  | 0, _ => rfl
  | 1, _ => rfl
 refine tri_v0 (fun _ => false) Tryz.func123 (by kernel_rfl) rfl (by simp only [List.length_append, List.length_cons, List.length_nil, Tryz.ntmps123]; decide) ?_
 simp only [vsAll, lenA, opA, dstOk, nilSliceOp, argFr, Nat.reduceLT, ↓reduceIte, reduceCtorEq, eq_self, wtAll, Tryz.ntmps123]
 refine vs_loop (σ := Nat) (fun j => j ≤ 2) (fun j => [(2, u64 ((if j = 0 then 0 else if j = 1 then a else a ||| b : Nat) : Int)), (5, .rsl 2 1 fun i => [[u64 (a : Nat)], [u64 (b : Nat)]].getD i []), (6, i64 ((2 : Nat) : Int)), (7, i64 j)]) (fun _ => H) (fun j => 2 - j) 0 (Nat.zero_le _) ?_ HSub_rfl fun j hj => ?_
 ·simp only [vsAll, Nat.reduceEqDiff, ↓reduceIte, eq_self, Int.natCast_zero]
 ·simp only [vsAll, binA, binLitA, intA, opA, dstOk, Nat.reduceLT, Nat.reduceEqDiff, ↓reduceIte, eq_self]
  refine condD (fun hd => ?_) (fun hd => ?_)
  ·have hj2 : j < 2 := by omega
   have hk := key j hj2
   simp only [vsAll, binA, binLitA, intA, loadA, loadRow, partA, partOk, indexAddrA, opA, dstOk, nilSliceOp, Nat.reduceLT, Nat.reduceEqDiff, ↓reduceIte, eq_self, wtAll, hk]
   have e : ((if j = 0 then 0 else if j = 1 then a else a ||| b) ||| (if j = 0 then a else b)) = (if j + 1 = 0 then 0 else if j + 1 = 1 then a else a ||| b) := by
    have : j = 0 ∨ j = 1 := by omega
    rcases this with rfl | rfl <;> simp
   have hb1 : (if j = 0 then a else b) < 2 ^ 60 := by split <;> omega
   have hb2 : (if j = 0 then 0 else if j = 1 then a else a ||| b) < 2 ^ 60 := by
    split
    ·omega
    ·split <;> omega
   refine ⟨⟨by omega, by omega⟩, by omega, ⟨by omega, by omega, by simp only [InR_u64]; omega, by simp only [InR_u64]; omega⟩, by simp only [InR_i64]; omega, loop_next (j + 1) (by omega) (by omega) ?_ HSub_rfl⟩
   rw [e]
   simp only [vsAll, Nat.reduceEqDiff, ↓reduceIte, reduceCtorEq, eq_self, Int.natCast_add, Int.natCast_one]
  ·have ej : j = 2 := by omega
   subst ej
   simp only [vsAll, opA, dstOk, nilSliceOp, resA, retA.eq_1, Nat.reduceLT, Nat.reduceEqDiff, ↓reduceIte, reduceCtorEq, eq_self, Tryz.results123]
abbrev setF (p : Pt) : AV := .func (.func 122) [] [pptr p]
def setB (p : Pt) (s : Int) : Bool := decide (0 ≤ s) && decide (s ≤ ((2 ^ p.H : Nat) : Int) - 1)
theorem isSet_tri (p : Pt) (s : Int) (H : Hp) (hr : 0 ≤ p.hr ∧ p.hr ≤ 12) : PTri Tryz.prog (setF p) [i64 s] H (boo (setB p s)) := by
 have eH : p.hr = (p.H : Int) := by unfold Pt.H; omega
 have h12 : p.H ≤ 12 := by omega
 have hpw := pow12 h12
 have hp0 : 0 < 2 ^ p.H := Nat.two_pow_pos _
 refine tri_v0 (fun _ => false) Tryz.func122 (by kernel_rfl) rfl (by simp only [List.length_append, List.length_cons, List.length_nil, Tryz.ntmps122]; decide) ?_
 simp only [vsAll, binA, binLitA, intA, loadA, loadRow, partA, partOk, fieldAddrA, okAll, stAll, opsA, opA, dstOk, nilSliceOp, argFr, Nat.reduceLT, Nat.reduceEqDiff, ↓reduceIte, reduceCtorEq, eq_self, wtAll, Tryz.ntmps122, eH, pow_int]
 generalize hP : 2 ^ p.H = P at hpw hp0 ⊢
 refine ⟨⟨by omega, by omega, by simp only [InR_i64]; omega⟩, by simp only [InR_i64]; omega, callK_pure (within_tri _ _ _ _) ?_⟩
 have e : setB p s = (decide (0 ≤ s) && decide (s ≤ (P : Int) - 1)) := by unfold setB; rw [hP]
 simp only [vsAll, opA, dstOk, nilSliceOp, resA, retA.eq_1, Nat.reduceLT, ↓reduceIte, eq_self, Tryz.results122, e]
def openR (p : Pt) (v : Bool) (H : Hp) : Res → Hp → Prop := fun r H' =>
 H' = H ∧ if Ok p then (if v = true then r = .ret (pP p) else r = .pan (.iface 179 (i64 2))) else r = .pan (.iface 179 (i64 1))
theorem open_tri (p : Pt) (fv : AV) (v : Bool) (H : Hp) (kn : Near p) (hfv : fv.ok) (hst : fv.st = fv)
  (hq : Ok p → ∀ (H' : Hp), PTri Tryz.prog fv [pP p] H' (boo v)) : Tri Tryz.prog (fnA 103) [p.av, fv] H (openR p v H) := by
 have nF := kn.nF
 have nP := kn.nP
 refine tri_vs (m := fun _ => false) Tryz.func103 (by kernel_rfl) rfl (by simp only [List.length_append, List.length_cons, List.length_nil, Tryz.ntmps103]; decide) ?_
 have no : ∀ {r}, ¬ Ok p → r = .pan (.iface 179 (i64 1)) → openR p v H r H := fun hno e => ⟨rfl, by rw [if_neg hno]; exact e⟩
 simp only [vsAll, loadA, loadRow, partA, partOk, fieldAddrA, boxA, boxZ, okAll, stAll, opsA, opA, dstOk, nilSliceOp, argFr, Nat.reduceAdd, Nat.reduceLT, Nat.reduceEqDiff, ↓reduceIte, eq_self, wtAll, Tryz.ntmps103]
 refine callK_pure (within_tri _ _ _ _) ?_
 simp only [vsAll, binA, binLitA, intA, loadA, loadRow, partA, partOk, fieldAddrA, lenA, pickA, okAll, stAll, opsA, opA, guardV, dstOk, Nat.reduceLT, Nat.reduceEqDiff, ↓reduceIte, implies_true, eq_self, wtAll]
 refine ask_call (fun hb => ?_) (fun hb => ?_)
 case refine_2 =>
  have hno : ¬ Ok p := fun k => by
   have := k.hr; have := k.nF; have := k.nP
   simp only [Bool.and_eq_false_iff, decide_eq_false_iff_not] at hb
   omega
  simp only [vsAll, eq_self]
  exact ⟨H, HSub_rfl, no hno rfl⟩
 have hN : (0 ≤ p.hr ∧ p.hr ≤ 12) ∧ p.fs.length ≤ 3 ∧ p.ps.length ≤ 4 := by
  simp only [Bool.and_eq_true, decide_eq_true_eq] at hb
  omega
 have eH : p.hr = (p.H : Int) := by unfold Pt.H; omega
 simp only [vsAll, loadA, loadRow, partA, partOk, fieldAddrA, okAll, stAll, opsA, opA, dstOk, nilSliceOp, Nat.reduceLT, Nat.reduceEqDiff, ↓reduceIte, eq_self, wtAll]
 refine callK_pure (isSet_tri p p.fro _ hN.1) ?_
 simp only [vsAll, loadA, loadRow, partA, partOk, fieldAddrA, opA, guardV, dstOk, Nat.reduceLT, Nat.reduceEqDiff, ↓reduceIte, implies_true, eq_self, wtAll]
 refine gcall _ (fun g => ⟨by simp only [vsAll, opA, Nat.reduceEqDiff, ↓reduceIte, eq_self, g], by simp only [vsAll, okAll, opsA, opA, ↓reduceIte, eq_self, g], isSet_tri p p.per _ hN.1⟩) ?_
 simp only [vsAll, pickA, okAll, stAll, opsA, opA, dstOk, Nat.reduceLT, Nat.reduceEqDiff, ↓reduceIte, implies_true, eq_self]
 have hset : ∀ s, setB p s = true ↔ okSet p s := fun s => by unfold setB okSet; simp
 refine ask_call (fun hb2 => ?_) (fun hb2 => ?_)
 case refine_2 =>
  have hno : ¬ Ok p := fun k => by
   rw [(hset _).2 k.fro, (hset _).2 k.per] at hb2
   cases hb2
  simp only [vsAll, eq_self]
  exact ⟨H, HSub_rfl, no hno rfl⟩
 rw [Bool.and_eq_true, hset, hset] at hb2
 simp only [vsAll, loadA, loadRow, partA, partOk, fieldAddrA, lenA, opA, dstOk, Nat.reduceLT, Nat.reduceEqDiff, ↓reduceIte, eq_self, wtAll]
 refine vs_loop (σ := Nat) (fun i => i ≤ p.fs.length ∧ ∀ j, j < i → okSet p (p.fs.getD j 0)) (fun i => [(1, fv), (2, pptr p), (5, setF p), (40, intsAV p.fs), (41, i64 p.fs.length), (42, i64 i)]) (fun _ => H) (fun i => p.fs.length - i) 0 ⟨Nat.zero_le _, fun j hj => absurd hj (by omega)⟩ ?_ (HSub.refl _) fun i hi => ?_
 ·simp only [vsAll, argFr, Nat.reduceEqDiff, ↓reduceIte, eq_self, Int.natCast_zero]
 ·obtain ⟨hi, hall⟩ := hi
  simp only [vsAll, binA, binLitA, intA, opA, dstOk, Nat.reduceLT, Nat.reduceEqDiff, ↓reduceIte, eq_self]
  refine condD (fun hd => ?_) (fun hd => ?_)
  ·have hio : i < p.fs.length := by omega
   simp only [vsAll, loadA, loadRow, partA, partOk, indexAddrA, okAll, stAll, opsA, opA, dstOk, nilSliceOp, Nat.reduceLT, Nat.reduceEqDiff, ↓reduceIte, eq_self, wtAll, intF_at]
   refine ⟨⟨by omega, by omega⟩, hio, callK_pure (isSet_tri p (p.fs.getD i 0) _ hN.1) ?_⟩
   simp only [vsAll, okAll, stAll, opsA, opA, dstOk, Nat.reduceLT, ↓reduceIte, eq_self]
   refine ask_call (fun hc => ?_) (fun hc => ?_)
   case refine_2 =>
    have hno : ¬ Ok p := fun k => by
     rw [(hset _).2 (k.f i hio)] at hc
     cases hc
    simp only [vsAll, eq_self]
    exact ⟨H, HSub_rfl, no hno rfl⟩
   rw [hset] at hc
   simp only [vsAll, binA, binLitA, intA, opA, dstOk, Nat.reduceLT, Nat.reduceEqDiff, ↓reduceIte, eq_self]
   refine ⟨by simp only [InR_i64]; omega, loop_next (i + 1) ⟨by omega, fun j hj => ?_⟩ (by omega) ?_ HSub_rfl⟩
   ·by_cases e : j = i
    ·rw [e]; exact hc
    ·exact hall j (by omega)
   ·simp only [vsAll, Nat.reduceEqDiff, ↓reduceIte, eq_self, Int.natCast_add, Int.natCast_one]
  ·have hA : ∀ j, j < p.fs.length → okSet p (p.fs.getD j 0) := fun j hj => hall j (by omega)
   simp only [vsAll, loadA, loadRow, partA, partOk, fieldAddrA, lenA, opA, dstOk, Nat.reduceLT, Nat.reduceEqDiff, ↓reduceIte, eq_self, wtAll]
   refine vs_loop (σ := Nat) (fun i => i ≤ p.ps.length ∧ ∀ j, j < i → okP p (p.ps.getD j po0)) (fun i => [(1, fv), (2, pptr p), (52, psAV p.ps), (53, i64 p.ps.length), (54, i64 i)]) (fun _ => H) (fun i => p.ps.length - i) 0 ⟨Nat.zero_le _, fun j hj => absurd hj (by omega)⟩ ?_ (HSub.refl _) fun i hi => ?_
   ·simp only [vsAll, Nat.reduceEqDiff, ↓reduceIte, eq_self, Int.natCast_zero]
   ·obtain ⟨hi, hall⟩ := hi
    simp only [vsAll, binA, binLitA, intA, opA, dstOk, Nat.reduceLT, Nat.reduceEqDiff, ↓reduceIte, eq_self]
    refine condD (fun hd => ?_) (fun hd => ?_)
    ·have hio : i < p.ps.length := by omega
     simp only [vsAll, loadA, loadRow, partA, partOk, fieldAddrA, indexAddrA, cellA, okAll, stAll, opsA, opA, allocA, newCells, okCells, storeObj, dstOk, Nat.reduceAdd, Nat.reduceLT, Nat.reduceEqDiff, ↓reduceIte, eq_self, wtAll, psF_at]
     refine ⟨⟨by omega, by omega⟩, hio, ?_⟩
     intro i9 hh_i9; (try simp only [Hp.set_none, ite_none] at hh_i9)
     have hle : ∀ x : Po, okP p x ↔ ((decide (1 ≤ x.ht) && decide (x.ht ≤ 12)) && (decide (0 ≤ x.fr) && decide (x.fr ≤ (p.H : Int))) && (decide (0 ≤ x.bb) && decide (x.bb ≤ (p.H : Int)))) = true := fun x => by
      unfold okP
      simp only [Bool.and_eq_true, decide_eq_true_eq]
      ((try clear hh_i9); omega)
     have hle := hle (p.ps.getD i po0)
     have hnx : okP p (p.ps.getD i po0) → ∀ j, j < i + 1 → okP p (p.ps.getD j po0) := fun h j hj => by
      by_cases e : j = i
      ·rw [e]; exact h
      ·exact hall j (by ((try clear hh_i9); omega))
     have hno : ¬ okP p (p.ps.getD i po0) → ¬ Ok p := fun h k => h (k.s i hio)
     generalize p.ps.getD i po0 = x at *
     refine callK_pure (within_tri _ _ _ _) ?_
     simp only [vsAll, loadA, loadRow, partA, partOk, fieldAddrA, opA, guardV, dstOk, Nat.reduceLT, Nat.reduceEqDiff, ↓reduceIte, implies_true, eq_self, wtAll, eH]
     refine gcall _ (fun g => ⟨by simp only [vsAll, opA], by simp only [vsAll, okAll, opsA, opA, Nat.reduceEqDiff, ↓reduceIte, eq_self, g], within_tri x.fr 0 (p.H : Int) _⟩) ?_
     simp only [vsAll, loadA, loadRow, partA, partOk, fieldAddrA, pickA, opA, guardV, dstOk, Nat.reduceLT, Nat.reduceEqDiff, ↓reduceIte, implies_true, eq_self, wtAll, eH]
     refine gcall _ (fun g => ⟨by simp only [vsAll, opA], by simp only [vsAll, okAll, opsA, opA, Nat.reduceEqDiff, ↓reduceIte, eq_self, g], within_tri x.bb 0 (p.H : Int) _⟩) ?_
     simp only [vsAll, pickA, okAll, stAll, opsA, opA, dstOk, Nat.reduceLT, Nat.reduceEqDiff, ↓reduceIte, implies_true, eq_self]
     refine ask_call (fun hc => ?_) (fun hc => ?_)
     case refine_2 =>
      have hn := hno (fun q => by rw [hle.1 q] at hc; cases hc)
      simp only [vsAll, eq_self]
      exact ⟨H, by (repeat (first | exact HSub_rfl | refine HSub_put_eq (by simp only [vsAll, ↓reduceIte, eq_self, reduceCtorEq, Nat.reduceEqDiff, hh_i9]) ?_ | refine HSub_drop2 (by simp only [eq_self, hh_i9]) ?_ | refine HSub_keep_eq (by simp only [vsAll, ↓reduceIte, eq_self, reduceCtorEq, Nat.reduceEqDiff, hh_i9]) ?_)), no hn rfl⟩
     have hk := hle.2 hc
     simp only [vsAll, binA, binLitA, intA, opA, dstOk, Nat.reduceLT, Nat.reduceEqDiff, ↓reduceIte, eq_self]
     refine ⟨by simp only [InR_i64]; ((try clear hh_i9); omega), loop_next (i + 1) ⟨by ((try clear hh_i9); omega), hnx hk⟩ (by ((try clear hh_i9); omega)) ?_ ?_⟩
     ·simp only [vsAll, Nat.reduceEqDiff, ↓reduceIte, eq_self, Int.natCast_add, Int.natCast_one]
     ·(repeat (first | exact HSub_rfl | refine HSub_put_eq (by simp only [vsAll, ↓reduceIte, eq_self, reduceCtorEq, Nat.reduceEqDiff, hh_i9]) ?_ | refine HSub_drop2 (by simp only [eq_self, hh_i9]) ?_ | refine HSub_keep_eq (by simp only [vsAll, ↓reduceIte, eq_self, reduceCtorEq, Nat.reduceEqDiff, hh_i9]) ?_))
    ·have k : Ok p := (ok_iff p).2 ⟨hN, hb2, hA, fun j hj => hall j (by omega)⟩
     obtain ⟨fo, pe, e1, e2, h1, h2, hF, _, h12⟩ := k.nums
     have eF0 : p.F false = fo := by unfold Pt.F; rw [e1, if_neg (by decide), Int.toNat_natCast]
     have eF1 : p.F true = fo ||| pe := by unfold Pt.F; rw [e1, e2, if_pos rfl, Int.toNat_natCast, Int.toNat_natCast]
     simp only [vsAll, ↓reduceIte, eq_self]
     refine vs_draw2 [0, 0, 0, 0, 0, 0, 0, 0, 0, 0, 0, 0, 0, 0, 0] [] [0, 1, 2, 3, 4, 5, 6, 7, 8, 9, 10, 11, 12, 13, 14] (by decide +kernel) ?_
     simp only [vsAll, loadA, loadRow, partA, partOk, fieldAddrA, cellA, cellsA, okParts, buildSliceA, partIdx, elemsA, lensA, convA, partsA, partsOk, opA, dstOk, Nat.reduceAdd, Nat.reduceMul, Nat.reduceLT, Nat.reduceLeDiff, Nat.reduceEqDiff, ↓reduceIte, eq_self, wtAll, e1, e2]
     refine ⟨by simp only [InR_u64]; omega, by simp only [InR_u64]; omega, by simp only [InR_u64]; omega, ?_⟩
     refine qcall _ ⟨trivial, by simp only [vsAll, okAll, opsA, opA, ↓reduceIte, eq_self], joined_tri fo pe _ (by omega) (by omega)⟩ ?_
     have eP : pP p = .rptr 1 7 (fun _ => [i64 p.hr, i64 fo, i64 pe, intsAV p.fs, psAV p.ps, u64 (fo : Nat), u64 ((fo ||| pe : Nat) : Int)]) 0 0 := by
      unfold pP pC; rw [eF0, eF1, e1, e2]
     have hq := hq k
     rw [eP] at hq
     simp only [vsAll, boxA, boxZ, cellA, cellsA, fillA, okParts, okAll, stAll, opsA, partsA, partsOk, opA, dstOk, Nat.reduceAdd, Nat.reduceLT, Nat.reduceLeDiff, Nat.reduceEqDiff, ↓reduceIte, eq_self, wtAll, hst, hfv]
     refine callK_pure (hq _) ?_
     simp only [vsAll, okAll, stAll, opsA, opA, dstOk, Nat.reduceLT, ↓reduceIte, eq_self]
     refine ask_call (fun hc => ?_) (fun hc => ?_)
     ·subst hc
      simp only [vsAll, opA, dstOk, nilSliceOp, Nat.reduceLT, Nat.reduceEqDiff, ↓reduceIte, eq_self]
      refine ret0 ?_
      simp only [vsAll, resA, retA.eq_1, ↓reduceIte, eq_self, Tryz.results103]
      exact ⟨H, HSub_rfl, rfl, by rw [if_pos k, if_pos rfl, eP]⟩
     ·subst hc
      simp only [vsAll, eq_self]
      exact ⟨H, HSub_rfl, rfl, by rw [if_pos k, if_neg (by decide)]⟩
end Go.Proofs.YtdopkbldjagmlaaGreat
end
section
set_option linter.unusedVariables false
set_option linter.unusedSimpArgs false
set_option maxHeartbeats 4000000
set_option maxRecDepth 100000
namespace Go.Proofs.YtdopkbldjagmlaaGreat
open Go.V
theorem open_call {p : Pt} {fv : AV} {v : Bool} {H : Hp} {K : AV → Hp → Prop} {Kp : AV → Hp → Prop} (ht : Tri Tryz.prog (fnA 103) [p.av, fv] H (openR p v H))
  (h1 : ¬ errE p v = 0 → Kp (.iface 179 (i64 (errE p v))) H) (h2 : Ok p → v = true → K (pP p) H) : CallK Tryz.prog (fnA 103) [p.av, fv] H K Kp := by
 refine ⟨_, ht, fun r H' hr => ?_⟩
 obtain ⟨rfl, hr⟩ := hr
 split at hr
 ·rename_i hk
  split at hr
  ·rename_i hv
   subst hr
   exact h2 hk hv
  ·rename_i hv
   subst hr
   have hv : v = false := by simpa using hv
   subst hv
   have e := errE_bad hk
   rw [← e]
   exact h1 (by rw [e]; decide)
 ·rename_i hk
  subst hr
  have e := errE_no hk v
  rw [← e]
  exact h1 (by rw [e]; decide)
theorem hot1_tri (p : Pt) (n h : Int) (H : Hp) (k : Ok p) : PTri Tryz.prog (.func (.func 112) [] [bx n, bx h]) [pP p] H (boo (isPot p n && isHour p h)) := by
 refine tri_v0 (fun _ => false) Tryz.func112 (by kernel_rfl) rfl (by simp only [List.length_append, List.length_cons, List.length_nil, Tryz.ntmps112]; decide) ?_
 simp only [vsAll, loadA, loadRow, partA, partOk, okAll, stAll, opsA, opA, dstOk, nilSliceOp, argFr, Nat.reduceLT, Nat.reduceEqDiff, ↓reduceIte, reduceCtorEq, eq_self, wtAll, Tryz.ntmps112]
 refine callK_pure (wpot_tri p n _ k.near) ?_
 simp only [vsAll, loadA, loadRow, partA, partOk, opA, guardV, dstOk, argFr, Nat.reduceLT, Nat.reduceEqDiff, ↓reduceIte, reduceCtorEq, implies_true, eq_self, wtAll]
 refine gcall _ (fun g => ⟨by simp only [vsAll, opA], by simp only [vsAll, okAll, opsA, opA, Nat.reduceEqDiff, ↓reduceIte, eq_self, g], whour_tri p h _ k⟩) ?_
 simp only [vsAll, pickA, opA, dstOk, nilSliceOp, resA, retA.eq_1, Nat.reduceLT, Nat.reduceEqDiff, ↓reduceIte, implies_true, eq_self, Tryz.results112]
theorem whot_tri (p : Pt) (n h : Int) (H : Hp) (kn : Near p) : PTri Tryz.prog (fnA 81) [p.av, i64 n, i64 h] H (.tuple [.agg [i64 (hotS p n h).1, i64 (hotS p n h).2], i64 (hotE p n h)]) := by
 refine Tri.drop ?_
 refine tri_a (m := fun _ => false) ans102 Tryz.func81 (by kernel_rfl) rfl (by simp only [List.length_append, List.length_cons, List.length_nil, Tryz.ntmps81]; decide) ?_
 simp only [vsAll, loadA, loadRow, partA, partOk, boxA, boxZ, cellA, okAll, stAll, opsA, opA, allocA, dstOk, argFr, Nat.reduceAdd, Nat.reduceLT, Nat.reduceEqDiff, ↓reduceIte, eq_self, wtAll, Tryz.ntmps81]
 intro i6 hh_i6; (try simp only [Hp.set_none, ite_none] at hh_i6); intro i7 hh_i7; (try simp only [ite_none] at hh_i7)
 refine open_call (open_tri p _ (isPot p n && isHour p h) _ kn trivial rfl (fun k H' => hot1_tri p n h H' k)) (fun he => ?_) (fun k hv => ?_)
 ·have e : hotE p n h = errE p (isPot p n && isHour p h) := if_neg he
  have e2 : hotS p n h = (0, 0) := if_neg (by rw [e]; exact he)
  simp only [vsAll]
  refine ⟨errE p (isPot p n && isHour p h), i7, _, rfl, rfl, by simp only [vsAll, ↓reduceIte, eq_self]; try rfl, ?_⟩
  simp only [vsAll, loadA, loadRow, partA, partOk, resA, retA.eq_2, Nat.reduceLT, Nat.reduceEqDiff, ↓reduceIte, eq_self, wtAll, Tryz.results81, hh_i7]
  refine dropR_pure ?_ (by (repeat (first | exact HSub_rfl | refine HSub_put_eq (by simp only [vsAll, ↓reduceIte, eq_self, reduceCtorEq, Nat.reduceEqDiff, hh_i6, hh_i7]) ?_ | refine HSub_drop2 (by simp only [eq_self, hh_i6, hh_i7]) ?_ | refine HSub_keep_eq (by simp only [vsAll, ↓reduceIte, eq_self, reduceCtorEq, Nat.reduceEqDiff, hh_i6, hh_i7]) ?_)))
  simp only [eq_self, e, e2]
 ·have he : errE p (isPot p n && isHour p h) = 0 := by rw [hv]; exact errE_ok k
  rw [Bool.and_eq_true, isPot_iff, isHour_iff k] at hv
  obtain ⟨⟨a1, a2⟩, a3, a4⟩ := hv
  obtain ⟨i, rfl⟩ : ∃ i : Nat, n = (i : Int) := ⟨n.toNat, by ((try clear hh_i6 hh_i7); omega)⟩
  obtain ⟨t, rfl⟩ : ∃ t : Nat, h = (t : Int) := ⟨h.toNat, by ((try clear hh_i6 hh_i7); omega)⟩
  have hH := k.H_eq
  have eH : p.hr = (p.H : Int) := hH.1.symm
  have ht : t ≤ p.H := by ((try clear hh_i6 hh_i7); omega)
  simp only [vsAll, opA, dstOk, nilSliceOp, Nat.reduceLT, ↓reduceIte, eq_self]
  refine vs_draw2 [0, 0, 0, 0, 0, 0, 0, 0, 0, 0, 0, 0, 0, 0, 0, 0, 0, 1, 3] [([0, 1, 2, 3, 4, 5, 6, 7, 8, 9, 10, 11, 12, 13, 14, 15, 16], [1, 2, 6, 7, 9, 10, 14, 15], 17), ([], [], 18)] [] (by decide +kernel) ?_
  simp only [vsAll, loadA, loadRow, partA, partOk, fieldAddrA, nilCheckA, opA, dstOk, Nat.reduceLT, Nat.reduceEqDiff, ↓reduceIte, eq_self, wtAll]
  refine qcall _ ⟨trivial, by simp only [vsAll, okAll, opsA, opA, Nat.reduceEqDiff, ↓reduceIte, eq_self], hot_tri p i t false _ k (by ((try clear hh_i6 hh_i7); omega)) ht⟩ ?_
  simp only [vsAll, loadA, loadRow, partA, partOk, fieldAddrA, nilCheckA, opA, dstOk, Nat.reduceLT, Nat.reduceEqDiff, ↓reduceIte, eq_self, wtAll]
  refine qcall _ ⟨trivial, by simp only [vsAll, okAll, opsA, opA, Nat.reduceEqDiff, ↓reduceIte, eq_self], hot_tri p i t true _ k (by ((try clear hh_i6 hh_i7); omega)) ht⟩ ?_
  simp only [vsAll, loadA, loadRow, partA, partOk, cellA, cellsA, fillA, okParts, partsA, partsOk, opA, allocA, newCells, okCells, storeObj, dstOk, Nat.reduceAdd, Nat.reduceLT, Nat.reduceLeDiff, Nat.reduceEqDiff, ↓reduceIte, eq_self, wtAll]
  intro i9 hh_i9; (try simp only [ite_none] at hh_i9)
  have hm := hotV_mono p i ht
  refine ⟨⟨rcall _ ⟨trivial, by simp only [vsAll, okAll, opsA, opA, Nat.reduceEqDiff, ↓reduceIte, eq_self], hot_tri p i t false _ k (by ((try clear hh_i6 hh_i7 hh_i9); omega)) ht⟩ (by simp only [vsAll, Nat.reduceEqDiff, ↓reduceIte, eq_self]), rcall _ ⟨trivial, by simp only [vsAll, okAll, opsA, opA, Nat.reduceEqDiff, ↓reduceIte, eq_self], hot_tri p i t true _ k (by ((try clear hh_i6 hh_i7 hh_i9); omega)) ht⟩ (by simp only [vsAll, Nat.reduceEqDiff, ↓reduceIte, eq_self])⟩, ?_⟩
  refine vs_draw2 [0, 0, 0, 0, 0, 0, 0, 0, 1] [([0, 1, 2, 3, 4, 5, 6, 7], [], 8)] [] (by decide +kernel) ?_
  simp only [vsAll, binA, binLitA, intA, loadA, loadRow, partA, partOk, fieldAddrA, nilCheckA, okAll, stAll, opsA, opA, dstOk, Nat.reduceLT, Nat.reduceEqDiff, ↓reduceIte, eq_self, wtAll, eH]
  refine ask_call (fun hc => ?_) (fun hc => ?_)
  ·have hle : hotV p true i t ≤ p.H := by rw [decide_eq_true_eq] at hc; ((try clear hh_i6 hh_i7 hh_i9); omega)
   have e : hotE p i t = 0 := by unfold hotE; rw [if_pos he, Int.toNat_natCast, Int.toNat_natCast, if_pos hle]
   have e2 : hotS p i t = (((hotV p false i t : Nat) : Int), ((hotV p true i t : Nat) : Int)) := by unfold hotS; rw [if_pos e, Int.toNat_natCast, Int.toNat_natCast]
   simp only [vsAll, loadA, loadRow, partA, partOk, cellA, cellsA, opA, newCells, okCells, storeObj, dstOk, Nat.reduceAdd, Nat.reduceLT, Nat.reduceEqDiff, ↓reduceIte, eq_self, wtAll, hh_i7, hh_i9]
   refine Ent.ret ⟨i7, _, rfl, by simp only [vsAll, ↓reduceIte, eq_self]; try rfl, ?_⟩
   simp only [vsAll, loadA, loadRow, partA, partOk, resA, retA.eq_2, Nat.reduceLT, Nat.reduceEqDiff, ↓reduceIte, eq_self, wtAll, Tryz.results81, hh_i7]
   refine dropR_pure ?_ (by (repeat (first | exact HSub_rfl | refine HSub_put_eq (by simp only [vsAll, ↓reduceIte, eq_self, reduceCtorEq, Nat.reduceEqDiff, hh_i6, hh_i7, hh_i9]) ?_ | refine HSub_drop2 (by simp only [eq_self, hh_i6, hh_i7, hh_i9]) ?_ | refine HSub_keep_eq (by simp only [vsAll, ↓reduceIte, eq_self, reduceCtorEq, Nat.reduceEqDiff, hh_i6, hh_i7, hh_i9]) ?_)))
   simp only [eq_self, e, e2]
  ·have hle : ¬ hotV p true i t ≤ p.H := by rw [decide_eq_false_iff_not] at hc; ((try clear hh_i6 hh_i7 hh_i9); omega)
   have e : hotE p i t = 11 := by unfold hotE; rw [if_pos he, Int.toNat_natCast, Int.toNat_natCast, if_neg hle]
   have e2 : hotS p i t = (0, 0) := by unfold hotS; rw [if_neg (by rw [e]; decide)]
   simp only [vsAll]
   refine ⟨11, i7, _, rfl, rfl, by simp only [vsAll, ↓reduceIte, eq_self, hh_i9]; try rfl, ?_⟩
   simp only [vsAll, loadA, loadRow, partA, partOk, resA, retA.eq_2, Nat.reduceLT, Nat.reduceEqDiff, ↓reduceIte, eq_self, wtAll, Tryz.results81, hh_i7, hh_i9]
   refine dropR_pure ?_ (by (repeat (first | exact HSub_rfl | refine HSub_put_eq (by simp only [vsAll, ↓reduceIte, eq_self, reduceCtorEq, Nat.reduceEqDiff, hh_i6, hh_i7, hh_i9]) ?_ | refine HSub_drop2 (by simp only [eq_self, hh_i6, hh_i7, hh_i9]) ?_ | refine HSub_keep_eq (by simp only [vsAll, ↓reduceIte, eq_self, reduceCtorEq, Nat.reduceEqDiff, hh_i6, hh_i7, hh_i9]) ?_)))
   simp only [eq_self, e, e2]
end Go.Proofs.YtdopkbldjagmlaaGreat
end
section
set_option linter.unusedVariables false
set_option linter.unusedSimpArgs false
set_option maxHeartbeats 4000000
set_option maxRecDepth 100000
namespace Go.Proofs.YtdopkbldjagmlaaGreat
open Go.V
def idxV (B : Int × Int → Bool) (l : List (Int × Int)) : Int := match (List.range l.length).find? fun i => B (l.getD i (0, 0)) with
 | some j => j
 | none => -1
theorem Bd.or {u : List Nat} (h : Bd u) {f v : Nat} (hf : f < 3) (hv : v < 4096) : Bd (u.set f (u.getD f 0 ||| v)) := by
 refine ⟨by rw [List.length_set]; exact h.1, fun q hq => ?_⟩
 by_cases e : f = q
 ·subst e
  have : (u.set f (u.getD f 0 ||| v)).getD f 0 = u.getD f 0 ||| v := by simp [List.getD_eq_getElem?_getD, h.1, hf]
  rw [this]
  exact Nat.or_lt_two_pow (n := 12) (h.2 f hf) hv
 ·have : (u.set f (u.getD f 0 ||| v)).getD q 0 = u.getD q 0 := by simp [List.getD_eq_getElem?_getD, List.getElem?_set_ne e]
  rw [this]
  exact h.2 q hq
end Go.Proofs.YtdopkbldjagmlaaGreat
end
section
set_option linter.unusedVariables false
set_option linter.unusedSimpArgs false
set_option maxHeartbeats 4000000
set_option maxRecDepth 100000
namespace Go.Proofs.YtdopkbldjagmlaaGreat
open Go.V
/-- A mark: the pot that is next, and what is taken. -/
abbrev mkC (s : Nat) (u : List Nat) : List AV := [i64 (s : Nat), u64 (u.getD 0 0 : Nat), u64 (u.getD 1 0 : Nat), u64 (u.getD 2 0 : Nat)]
abbrev stepsF (p : Pt) (s : Nat) (u : List Nat) : AV := .func (.func 129) [] [.rptr 1 1 (fun _ => [pP p]) 0 0, .rptr 1 4 (fun _ => mkC s u) 0 0]
theorem steps_tri (p : Pt) (s : Nat) (u : List Nat) (H : Hp) : PTri Tryz.prog (fnA 111) [pP p, .agg (mkC s u)] H (stepsF p s u) := by
 refine tri_v0 (fun _ => false) Tryz.func111 (by kernel_rfl) rfl (by simp only [List.length_append, List.length_cons, List.length_nil, Tryz.ntmps111]; decide) ?_
 simp only [vsAll, boxA, boxZ, cellA, okAll, stAll, opsA, opA, dstOk, nilSliceOp, resA, argFr, retA.eq_1, Nat.reduceAdd, Nat.reduceLT, Nat.reduceEqDiff, ↓reduceIte, eq_self, wtAll, Tryz.ntmps111, Tryz.results111]
def rowR (p : Pt) (f h : Nat) : List (Int × Int) := ((List.range p.H).drop h).map fun h : Nat => ((f : Int), (h : Int))
def restF (p : Pt) (f : Nat) : List (Int × Int) := ((List.range p.fs.length).drop f).flatMap fun f : Nat => rowR p f 0
theorem rowR_next {p : Pt} {f h : Nat} (hh : h < p.H) : rowR p f h = ((f : Int), (h : Int)) :: rowR p f (h + 1) := by
 unfold rowR
 rw [List.drop_eq_getElem_cons (by simpa using hh)]
 simp
theorem rowR_end (p : Pt) (f : Nat) : rowR p f p.H = [] := by simp [rowR]
theorem restF_next {p : Pt} {f : Nat} (hf : f < p.fs.length) : restF p f = rowR p f 0 ++ restF p (f + 1) := by
 unfold restF
 rw [List.drop_eq_getElem_cons (by simpa using hf)]
 simp
theorem restF_end (p : Pt) : restF p p.fs.length = [] := by
 unfold restF
 rw [List.drop_eq_nil_of_le (by simp)]; rfl
theorem restF_zero (p : Pt) : restF p 0 = places p := by simp [restF, places, rowR]
def nextW (p : Pt) (s : Nat) (u : List Nat) (l : List (Int × Int)) : List (List AV) := (l.filter (goB p s u)).map fun x => [plA x, .agg (mkC (s + 1) (u.set x.1.toNat (u.getD x.1.toNat 0 ||| tkN p s x.2.toNat)))]
theorem nextW_cons {p : Pt} {s : Nat} {u : List Nat} {x : Int × Int} {l : List (Int × Int)} : nextW p s u (x :: l) = if goB p s u x = true then [plA x, .agg (mkC (s + 1) (u.set x.1.toNat (u.getD x.1.toNat 0 ||| tkN p s x.2.toNat)))] :: nextW p s u l else nextW p s u l := by
 simp only [nextW, List.filter_cons]
 split <;> rfl
def nextL (p : Pt) (s : Nat) (u : List Nat) : List (List AV) := nextW p s u (places p)
theorem nextL_eq (p : Pt) (s : Nat) (u : List Nat) : nextL p s u = (nxt p s u).map fun q => [plA q.1, .agg (mkC (s + 1) q.2)] := by
 simp only [nextL, nextW, nxt, List.map_map]; rfl
theorem mk_at (s : Int) (u : List Nat) (f : Nat) (hf : f < 3) : (List.drop (1 + f * 1) [i64 s, u64 (u.getD 0 0 : Nat), u64 (u.getD 1 0 : Nat), u64 (u.getD 2 0 : Nat)]).getD 0 AV.any = u64 (u.getD f 0 : Nat) := by
 have : f = 0 ∨ f = 1 ∨ f = 2 := by omega
 rcases this with rfl | rfl | rfl <;> rfl
theorem mk_set (s : Int) (u : List Nat) (hu : u.length = 3) (f v : Nat) (hf : f < 3) : List.take 4 (List.take (1 + f * 1) [i64 s, u64 (u.getD 0 0 : Nat), u64 (u.getD 1 0 : Nat), u64 (u.getD 2 0 : Nat)] ++ [u64 (v : Nat)] ++ List.drop (1 + f * 1) [u64 (u.getD 0 0 : Nat), u64 (u.getD 1 0 : Nat), u64 (u.getD 2 0 : Nat)]) =
  [i64 s, u64 ((u.set f v).getD 0 0 : Nat), u64 ((u.set f v).getD 1 0 : Nat), u64 ((u.set f v).getD 2 0 : Nat)] := by
 match u, hu with
 | [a, b, c], _ =>
   have : f = 0 ∨ f = 1 ∨ f = 2 := by omega
   rcases this with rfl | rfl | rfl <;> rfl
theorem steps1_tri (p : Pt) (s : Nat) (u : List Nat) (k : Ok p) (hs : s < p.ps.length) (hu : Bd u) (yf : Fn) (H : Hp) (Pre K : Hp → Prop)
  (hit : Iter Tryz.prog (.func yf [] []) Pre (nextL p s u) H K) :
  Tri Tryz.prog (stepsF p s u) [.func yf [] []] H fun r H' => (∃ v, r = .ret v) ∧ K H' := by
 have nF := k.nF
 have nP := k.nP
 have hH := k.H_eq
 have eH : p.hr = (p.H : Int) := hH.1.symm
 have h4 := pow12 hH.2
 rw [nextL, ← restF_zero] at hit
 refine tri_v0 (fun _ => false) Tryz.func129 (by kernel_rfl) rfl (by simp only [List.length_append, List.length_cons, List.length_nil, Tryz.ntmps129]; decide) ?_
 simp only [vsAll, loadA, loadRow, partA, partOk, fieldAddrA, lenA, nilCheckA, okAll, stAll, opsA, opA, dstOk, nilSliceOp, argFr, Nat.reduceLT, Nat.reduceEqDiff, ↓reduceIte, eq_self, wtAll, Tryz.ntmps129]
 refine vs_loop (σ := Nat × Hp) (fun y => y.1 ≤ p.fs.length ∧ Iter Tryz.prog (.func yf [] []) Pre (nextW p s u (restF p y.1)) y.2 K)
  (fun y => [(0, .func yf [] []), (1, .rptr 1 1 (fun _ => [pP p]) 0 0), (2, .rptr 1 4 (fun _ => mkC s u) 0 0), (4, .func (.func 130) [pP p] []), (17, i64 p.fs.length), (18, i64 y.1)]) (fun y => y.2) (fun y => p.fs.length - y.1) (0, H) ⟨by omega, hit⟩ ?_ (HSub.refl _) fun y hy => ?_
 ·simp only [vsAll, argFr, Nat.reduceEqDiff, ↓reduceIte, reduceCtorEq, eq_self, Int.natCast_zero]
 ·obtain ⟨f, H'⟩ := y
  obtain ⟨hf, hy⟩ := hy
  simp only [] at hf hy
  simp only [vsAll, binA, binLitA, intA, opA, dstOk, Nat.reduceLT, Nat.reduceEqDiff, ↓reduceIte, reduceCtorEq, eq_self]
  refine condD (fun hd => ?_) (fun hd => ?_)
  ·have hfs : f < p.fs.length := by omega
   rw [restF_next hfs] at hy
   simp only [vsAll, loadA, loadRow, partA, partOk, fieldAddrA, nilCheckA, opA, dstOk, nilSliceOp, Nat.reduceLT, Nat.reduceEqDiff, ↓reduceIte, reduceCtorEq, eq_self, wtAll, eH]
   refine vs_loop (σ := Nat × Hp) (fun y => y.1 ≤ p.H ∧ Iter Tryz.prog (.func yf [] []) Pre (nextW p s u (rowR p f y.1 ++ restF p (f + 1))) y.2 K)
    (fun y => [(0, .func yf [] []), (1, .rptr 1 1 (fun _ => [pP p]) 0 0), (2, .rptr 1 4 (fun _ => mkC s u) 0 0), (4, .func (.func 130) [pP p] []), (17, i64 p.fs.length), (18, i64 f), (5, i64 f), (25, i64 p.H), (26, i64 y.1)]) (fun y => y.2) (fun y => p.H - y.1) (0, H') ⟨by omega, hy⟩ ?_ (HSub.refl _) fun y hy => ?_
   ·simp only [vsAll, Nat.reduceEqDiff, ↓reduceIte, reduceCtorEq, eq_self, Int.natCast_zero]
   ·obtain ⟨h, H2⟩ := y
    obtain ⟨hh, hy⟩ := hy
    simp only [] at hh hy
    simp only [vsAll, binA, binLitA, intA, opA, dstOk, Nat.reduceLT, Nat.reduceEqDiff, ↓reduceIte, reduceCtorEq, eq_self]
    refine condD (fun hd2 => ?_) (fun hd2 => ?_)
    ·have hhs : h < p.H := by omega
     have htl := tk_lt p s h
     have hbf := hu.2 f (by omega)
     have hm := mk_at s u f (by omega)
     rw [rowR_next hhs, List.cons_append, nextW_cons] at hy
     have ego : goB p s u ((f : Int), (h : Int)) = !(meet (tkN p s h) (u.getD f 0) || !decide (alR p s ((f : Int), (h : Int)) = 0)) := by
      unfold goB
      simp only [Int.toNat_natCast]
      rw [Bool.not_or, Bool.not_not]
     rw [ego] at hy
     simp only [vsAll, loadA, loadRow, partA, partOk, fieldAddrA, cellA, cellsA, fillA, okParts, okAll, stAll, opsA, partsA, partsOk, opA, allocA, newCells, okCells, storeObj, dstOk, nilSliceOp, Nat.reduceAdd, Nat.reduceLT, Nat.reduceLeDiff, Nat.reduceEqDiff, ↓reduceIte, reduceCtorEq, eq_self, wtAll]
     intro i7 hh_i7; (try simp only [Hp.set_none, ite_none] at hh_i7)
     rw [Hp.set_set]
     refine callK_pure (takes_tri p s h _ k hs hhs) ?_
     simp only [vsAll, loadA, loadRow, partA, partOk, fieldAddrA, indexAddrA, okAll, stAll, opsA, opA, dstOk, nilSliceOp, Nat.reduceLT, Nat.reduceEqDiff, ↓reduceIte, reduceCtorEq, eq_self, wtAll, hm]
     refine ⟨⟨by ((try clear hh_i7); omega), by ((try clear hh_i7); omega)⟩, by ((try clear hh_i7); omega), callK_pure (meets_tri (tkN p s h) (u.getD f 0) _ (by ((try clear hh_i7); omega)) (by ((try clear hh_i7); omega))) ?_⟩
     simp only [vsAll, loadA, loadRow, partA, partOk, fieldAddrA, opA, guardV, dstOk, Nat.reduceLT, Nat.reduceEqDiff, ↓reduceIte, reduceCtorEq, implies_true, eq_self, wtAll]
     refine gcall _ (fun g => ⟨by simp only [vsAll, opA, Nat.reduceEqDiff, ↓reduceIte, eq_self, g], by simp only [vsAll, okAll, opsA, opA, Nat.reduceEqDiff, ↓reduceIte, eq_self, g], tri_bound (alone_tri p s f h _ k hs hfs hhs)⟩) ?_
     simp only [vsAll, unA, pickA, opA, guardV, dstOk, Nat.reduceLT, Nat.reduceEqDiff, ↓reduceIte, implies_true, eq_self]
     refine condV (fun hc => ?_) (fun hc => ?_)
     ·rw [hc, if_neg (by decide)] at hy
      simp only [vsAll, binA, binLitA, intA, opA, dstOk, Nat.reduceLT, Nat.reduceEqDiff, ↓reduceIte, reduceCtorEq, eq_self]
      refine ⟨by simp only [InR_i64]; ((try clear hh_i7); omega), loop_next (h + 1, H2) ⟨by simp only []; ((try clear hh_i7); omega), hy⟩ (by simp only []; ((try clear hh_i7); omega)) ?_ (by (repeat (first | exact HSub_rfl | refine HSub_put_eq (by simp only [vsAll, ↓reduceIte, eq_self, reduceCtorEq, Nat.reduceEqDiff, hh_i7]) ?_ | refine HSub_drop2 (by simp only [eq_self, hh_i7]) ?_ | refine HSub_keep_eq (by simp only [vsAll, ↓reduceIte, eq_self, reduceCtorEq, Nat.reduceEqDiff, hh_i7]) ?_)))⟩
      simp only [vsAll, Nat.reduceEqDiff, ↓reduceIte, reduceCtorEq, eq_self, Int.natCast_add, Int.natCast_one]
     ·rw [hc, Bool.not_false, if_pos rfl] at hy
      simp only [Int.toNat_natCast] at hy
      simp only [vsAll, binA, binLitA, intA, loadA, loadRow, partA, partOk, fieldAddrA, indexAddrA, cellA, cellsA, okParts, buildSliceA, partIdx, elemsA, lensA, okAll, stAll, opsA, partsA, partsOk, opA, allocA, newCells, okCells, storeObj, dstOk, Nat.reduceAdd, Nat.reduceMul, Nat.reduceLT, Nat.reduceLeDiff, Nat.reduceEqDiff, ↓reduceIte, reduceCtorEq, eq_self, wtAll]
      intro i9 hh_i9; (try simp only [ite_none] at hh_i9)
      rw [Hp.set_set]
      simp only [vsAll, eq_self, hm]
      refine ⟨by simp only [InR_i64]; ((try clear hh_i7 hh_i9); omega), ⟨by ((try clear hh_i7 hh_i9); omega), by ((try clear hh_i7 hh_i9); omega)⟩, by ((try clear hh_i7 hh_i9); omega), callK_pure (joined_tri (u.getD f 0) (tkN p s h) _ (by ((try clear hh_i7 hh_i9); omega)) (by ((try clear hh_i7 hh_i9); omega))) ?_⟩
      simp only [vsAll, loadA, loadRow, partA, partOk, fieldAddrA, indexAddrA, cellA, cellsA, okAll, stAll, opsA, opA, newCells, okCells, storeObj, dstOk, Nat.reduceLT, Nat.reduceLeDiff, Nat.reduceEqDiff, ↓reduceIte, reduceCtorEq, eq_self, wtAll, hh_i9]
      refine ⟨⟨by ((try clear hh_i7 hh_i9); omega), by ((try clear hh_i7 hh_i9); omega)⟩, by ((try clear hh_i7 hh_i9); omega), ?_⟩
      rw [mk_set ((s : Int) + 1) u hu.1 f _ (by ((try clear hh_i7 hh_i9); omega))]
      refine callK (Tri.less (by (repeat (first | exact HSub_rfl | refine HSub_put_eq (by simp only [vsAll, ↓reduceIte, eq_self, reduceCtorEq, Nat.reduceEqDiff, hh_i7, hh_i9]) ?_ | refine HSub_drop2 (by simp only [eq_self, hh_i7, hh_i9]) ?_ | refine HSub_keep_eq (by simp only [vsAll, ↓reduceIte, eq_self, reduceCtorEq, Nat.reduceEqDiff, hh_i7, hh_i9]) ?_))) hy.2) ?_
      rintro r H'' (⟨rfl, hr⟩ | ⟨rfl, hr⟩)
      ·simp only [vsAll, binA, binLitA, intA, unA, opA, dstOk, Nat.reduceLT, Nat.reduceEqDiff, ↓reduceIte, reduceCtorEq, eq_self]
       refine ⟨by simp only [InR_i64]; ((try clear hh_i7 hh_i9); omega), loop_next (h + 1, H'') ⟨by simp only []; ((try clear hh_i7 hh_i9); omega), hr⟩ (by simp only []; ((try clear hh_i7 hh_i9); omega)) ?_ (HSub.refl _)⟩
       simp only [vsAll, Nat.reduceEqDiff, ↓reduceIte, reduceCtorEq, eq_self, Int.natCast_add, Int.natCast_one]
      ·simp only [vsAll, unA, opA, dstOk, resA, retA.eq_2, Nat.reduceLT, ↓reduceIte, eq_self, Tryz.results129]
       exact ⟨⟨_, rfl⟩, hr⟩
    ·have eh : h = p.H := by omega
     subst eh
     rw [rowR_end, List.nil_append] at hy
     simp only [vsAll, binA, binLitA, intA, opA, dstOk, Nat.reduceLT, Nat.reduceEqDiff, ↓reduceIte, reduceCtorEq, eq_self]
     refine ⟨by simp only [InR_i64]; omega, loop_next (f + 1, H2) ⟨by simp only []; omega, hy⟩ (by simp only []; omega) ?_ (HSub.refl _)⟩
     simp only [vsAll, Nat.reduceEqDiff, ↓reduceIte, reduceCtorEq, eq_self, Int.natCast_add, Int.natCast_one]
  ·have ef : f = p.fs.length := by omega
   subst ef
   rw [restF_end] at hy
   simp only [vsAll, resA, retA.eq_2, ↓reduceIte, eq_self, Tryz.results129]
   exact ⟨⟨_, rfl⟩, hy⟩
end Go.Proofs.YtdopkbldjagmlaaGreat
end
section
set_option linter.unusedVariables false
set_option linter.unusedSimpArgs false
namespace Go.V
set_option linter.unusedSectionVars false
variable [Inhabited GivT]
theorem kl_int {P : Program} {d : Nat} {T : TypeId} {q : IntKind} {n : Int} (hu : P.underlying T = some (.int q)) (hw : (Lit.int q n).wf = true) : P.keyLits (d + 1) T [.int q n] = some [.int q n] := by
 simp [Program.keyLits, hu, hw]
theorem kl_arr3 {P : Program} {d : Nat} {T e : TypeId} {q : IntKind} {a b c : Int} (hu : P.underlying T = some (.array 3 e)) (he : P.underlying e = some (.int q)) (hc : P.cellsOf T = 3) (hce : P.cellsOf e = 1)
  (ha : (Lit.int q a).wf = true) (hb : (Lit.int q b).wf = true) (hd : (Lit.int q c).wf = true) : P.keyLits (d + 2) T [.int q a, .int q b, .int q c] = some [.int q a, .int q b, .int q c] := by
 rw [Program.keyLits]
 rotate_left 3
 ·exact hu
 rw [if_pos (by simp [hc]), hce, show List.range 3 = [0, 1, 2] from rfl]
 simp only [List.mapM_cons, List.mapM_nil, Nat.zero_mul, Nat.one_mul, List.drop_zero, List.take_succ_cons, List.take_zero, List.drop_succ_cons, kl_int he ha, kl_int he hb, kl_int he hd]
 rfl
theorem kl_two {P : Program} {d : Nat} {T : TypeId} {fs : Array Field} {f0 f1 : Field} {v0 : Value} {r : List Value} {L0 L1 : List Lit} (hu : P.underlying T = some (.struct fs)) (hf : fs.toList = [f0, f1]) (hn : f0.name ≠ "_" ∧ f1.name ≠ "_") (hc : P.cellsOf T = r.length + 1)
  (h0 : f0.offset = 0 ∧ P.cellsOf f0.type = 1) (h1 : f1.offset = 1 ∧ P.cellsOf f1.type = r.length) (k0 : P.keyLits d f0.type [v0] = some L0) (k1 : P.keyLits d f1.type r = some L1) :
  P.keyLits (d + 1) T (v0 :: r) = some (L0 ++ L1) := by
 have hall : fs.all (fun f => f.name != "_") = true := by
  rw [Array.all_eq_true_iff_forall_mem]
  intro f hf'
  have : f ∈ fs.toList := by simpa using hf'
  rw [hf] at this
  rcases List.mem_cons.1 this with rfl | this
  ·simpa using hn.1
  ·have := List.mem_singleton.1 this
   subst this; simpa using hn.2
 simp only [Program.keyLits, hu, List.length_cons, hc, hall, and_self, if_true, hf, List.mapM_cons, List.mapM_nil, h0.1, h0.2, h1.1, h1.2, List.drop_zero, List.take_succ_cons, List.take_zero, List.drop_succ_cons, List.take_length, k0, k1]
 simp
theorem wf_u64 {a : Int} (h : InR .u64 a) : (Lit.int .u64 a).wf = true := by
 simp only [InR, IntKind.min, IntKind.max, IntKind.signed, IntKind.bits] at h
 simp [Lit.wf, IntKind.min, IntKind.max, IntKind.signed, IntKind.bits] at h ⊢
 omega
end Go.V
end
section
set_option linter.unusedVariables false
set_option linter.unusedSimpArgs false
set_option maxHeartbeats 4000000
set_option maxRecDepth 100000
namespace Go.Proofs.YtdopkbldjagmlaaGreat
open Go.V
theorem mapZ184q : mapZ Tryz.prog 184 = some (.agg #[.int .i64 0, .bool false]) := by kernel_rfl
theorem und184q : Program.underlying Tryz.prog 184 = some (.map 168 186) := by kernel_rfl
theorem key168q : Maps.Keyed Tryz.prog 168 := Maps.Keyed.of_law (deep_law_laid (by kernel_rfl) (m := 10) (by decide) (by decide +kernel) (by kernel_rfl) (by kernel_rfl))
/-- A mark, as a key. -/
abbrev mkV (s a b c : Int) : Value := .agg #[.int .i64 s, .int .u64 a, .int .u64 b, .int .u64 c]
abbrev mkU (s : Nat) (u : List Nat) : Value := mkV s (u.getD 0 0 : Nat) (u.getD 1 0 : Nat) (u.getD 2 0 : Nat)
theorem mkK (s a b c : Int) (h0 : 0 ≤ s ∧ s ≤ 1000) (h1 : 0 ≤ a ∧ a ≤ 4096) (h2 : 0 ≤ b ∧ b ≤ 4096) (h3 : 0 ≤ c ∧ c ≤ 4096) : ∃ l, keyOf Tryz.prog 168 (mkV s a b c) = some l := by
 have hsz : Tryz.prog.types.size + 1 = (Tryz.prog.types.size - 2) + 3 := by
  have : 2 ≤ Tryz.prog.types.size := by decide +kernel
  omega
 have hsz2 : (Tryz.prog.fieldsOf 168).toList.length = 2 := by decide +kernel
 have hu : Program.underlying Tryz.prog 168 = some (.struct (Tryz.prog.fieldsOf 168)) := by kernel_rfl
 obtain ⟨f0, e0⟩ : ∃ f0, f0 = (Tryz.prog.fieldsOf 168).toList[0]'(by rw [hsz2]; decide) := ⟨_, rfl⟩
 obtain ⟨f1, e1⟩ : ∃ f1, f1 = (Tryz.prog.fieldsOf 168).toList[1]'(by rw [hsz2]; decide) := ⟨_, rfl⟩
 have hf : (Tryz.prog.fieldsOf 168).toList = [f0, f1] := by
  rw [e0, e1]
  generalize (Tryz.prog.fieldsOf 168).toList = L at hsz2 ⊢
  match L, hsz2 with
  | [x, y], _ => rfl
 have hn : f0.name ≠ "_" ∧ f1.name ≠ "_" := by
  have h : (Tryz.prog.fieldsOf 168).toList.map (fun f => decide (f.name ≠ "_")) = [true, true] := by decide +kernel
  rw [hf] at h
  simpa using h
 have t0 : f0.type = 3 := by rw [e0]; kernel_rfl
 have t1 : f1.type = 166 := by rw [e1]; kernel_rfl
 have o0 : f0.offset = 0 := by rw [e0]; kernel_rfl
 have o1 : f1.offset = 1 := by rw [e1]; kernel_rfl
 have k0 : Tryz.prog.keyLits (Tryz.prog.types.size - 2 + 2) f0.type [.int .i64 s] = some [.int .i64 s] := by
  rw [t0]; exact kl_int (by kernel_rfl) (wf_i64 (by simp only [InR_i64]; omega))
 have k1 : Tryz.prog.keyLits (Tryz.prog.types.size - 2 + 2) f1.type [.int .u64 a, .int .u64 b, .int .u64 c] = some [.int .u64 a, .int .u64 b, .int .u64 c] := by
  rw [t1]
  exact kl_arr3 (e := 156) (by kernel_rfl) (by kernel_rfl) (by kernel_rfl) (by kernel_rfl) (wf_u64 (by simp only [InR_u64]; omega)) (wf_u64 (by simp only [InR_u64]; omega)) (wf_u64 (by simp only [InR_u64]; omega))
 have hk := kl_two hu hf hn (r := [.int .u64 a, .int .u64 b, .int .u64 c]) (by kernel_rfl) ⟨o0, by rw [t0]; kernel_rfl⟩ ⟨o1, by rw [t1]; kernel_rfl⟩ k0 k1
 unfold keyOf
 rw [hu]
 have hg : (Tryz.prog.keyType 168 && (mkV s a b c).formed Tryz.prog 168) = true := by kernel_rfl
 simp only [hg, if_true, hsz, Value.cells, List.toList_toArray]
 rw [hk]
 exact ⟨_, rfl⟩
theorem mkKU {s : Nat} {u : List Nat} (hs : s ≤ 4) (hu : Bd u) : ∃ l, keyOf Tryz.prog 168 (mkU s u) = some l := by
 have h0 := hu.2 0 (by omega)
 have h1 := hu.2 1 (by omega)
 have h2 := hu.2 2 (by omega)
 exact mkK _ _ _ _ (by omega) (by omega) (by omega) (by omega)
end Go.Proofs.YtdopkbldjagmlaaGreat
end
section
set_option linter.unusedVariables false
set_option linter.unusedSimpArgs false
set_option maxHeartbeats 4000000
set_option maxRecDepth 100000
namespace Go.Proofs.YtdopkbldjagmlaaGreat
open Go.V
/-- What is known: a number, and whether there is a plan. -/
abbrev knV (o : Option Int) : Value := .agg #[.int .i64 (o.getD 0), .bool o.isSome]
abbrev knA (o : Option Int) : AV := .tuple [i64 (o.getD 0), boo o.isSome]
section
variable (p : Pt) (e0 : Int) (more : Nat → Int × Int → Int → Int) (join : Int → Int → Int)
/-- What is kept of what was told. -/
def memT : Value → Value → Prop := fun k v => ∃ (s : Nat) (u : List Nat), s ≤ p.ps.length ∧ Bd u ∧ k = mkU s u ∧ v = knV (tl p e0 more join (p.ps.length - s) s u)
/-- A teller, and what its functions do. -/
structure Tel (fm fj : Fn) (cm cj : List AV) where
 V : Nat → Nat → Int → Prop
 vd : Vd p e0 more join V
 tM : ∀ (n k s : Nat) (x : Int × Int) (r : Int) (H : Hp), n < 5 → k ≤ 2000000 → s < p.ps.length → x ∈ places p → V n k r → PTri Tryz.prog (.func fm [] cm) [i64 (s : Nat), plA x, i64 r] H (i64 (more s x r))
 tJ : ∀ (n j k : Nat) (a b : Int) (H : Hp), n ≤ 5 → j + k ≤ 2000000 → V n j a → V n k b → PTri Tryz.prog (.func fj [] cj) [i64 a, i64 b] H (i64 (join a b))
abbrev talA (fm fj : Fn) (cm cj : List AV) : AV := .agg [i64 e0, .func fm [] cm, .func fj [] cj]
abbrev onF (fm fj : Fn) (cm cj : List AV) (i5 i6 : Nat) : AV := .func (.func 128) [] [.rptr 1 1 (fun _ => [pP p]) 0 0, .rptr 1 3 (fun _ => [i64 e0, .func fm [] cm, .func fj [] cj]) 0 0, .ref i5 0 1 0 0, .ref i6 0 1 0 0]
end
theorem memT_key {p : Pt} {e0 : Int} {more : Nat → Int × Int → Int → Int} {join : Int → Int → Int} {k v : Value} (kp : p.ps.length ≤ 4) (h : memT p e0 more join k v) : ∃ l, keyOf Tryz.prog 168 k = some l := by
 obtain ⟨s, u, hs, hu, rfl, _⟩ := h
 exact mkKU (by omega) hu
theorem next_get {p : Pt} {s : Nat} {u : List Nat} {i : Nat} {v : List AV} (h : (nextL p s u)[i]? = some v) :
  i < (nxt p s u).length ∧ v = [plA ((nxt p s u).getD i ((0, 0), [])).1, .agg (mkC (s + 1) ((nxt p s u).getD i ((0, 0), [])).2)] := by
 rw [nextL_eq, List.getElem?_map] at h
 cases hq : (nxt p s u)[i]? with
 | none => rw [hq] at h; cases h
 | some q =>
   rw [hq] at h
   simp only [Option.map_some, Option.some.injEq] at h
   subst h
   refine ⟨(List.getElem?_eq_some_iff.1 hq).1, ?_⟩
   rw [List.getD_eq_getElem?_getD, hq]; rfl
theorem next_pair {p : Pt} {s : Nat} {u : List Nat} : ∀ v ∈ nextL p s u, v.length = (#[41, 42] : Array Nat).size := by
 intro v hv
 rw [nextL_eq] at hv
 obtain ⟨q, _, rfl⟩ := List.mem_map.1 hv
 rfl
theorem nxt_bd {p : Pt} (k : Ok p) {s : Nat} {u : List Nat} {q : (Int × Int) × List Nat} (h : q ∈ nxt p s u) (hu : Bd u) : Bd q.2 := by
 obtain ⟨h1, _, h3⟩ := nxt_mem h
 rw [h3]
 rw [mem_places] at h1
 have := k.nF
 have h4 := pow12 k.H_eq.2
 have htl := tk_lt p s q.1.2.toNat
 exact hu.or (by omega) (by omega)
theorem bd_ext {u v : List Nat} (hu : Bd u) (hv : Bd v) (h0 : u.getD 0 0 = v.getD 0 0) (h1 : u.getD 1 0 = v.getD 1 0) (h2 : u.getD 2 0 = v.getD 2 0) : u = v := by
 match u, v, hu.1, hv.1 with
 | [a, b, c], [d, e, f], _, _ =>
   simp only [List.getD_cons_zero, List.getD_cons_succ] at h0 h1 h2
   rw [h0, h1, h2]
theorem on_tri {p : Pt} {e0 : Int} {more : Nat → Int × Int → Int → Int} {join : Int → Int → Int} {fm fj : Fn} {cm cj : List AV} {i5 i6 im : Nat} (k : Ok p) (T : Tel p e0 more join fm fj cm cj) :
  ∀ (n s : Nat) (u : List Nat) (H : Hp), s + n = p.ps.length → Bd u → H i5 = some (.box 1 1 fun _ => [.map im]) → H i6 = some (.box 1 1 fun _ => [onF p e0 fm fj cm cj i5 i6]) → H im = some (.memo (memT p e0 more join)) →
    PTri Tryz.prog (onF p e0 fm fj cm cj i5 i6) [.agg (mkC s u)] H (knA (tl p e0 more join n s u)) := by
 have nP := k.nP
 have hFH : p.fs.length * p.H ≤ 3 * 12 := Nat.mul_le_mul k.nF k.H_eq.2
 intro n
 induction n with
 | zero =>
   intro s u H hs hu h5 h6 hm
   refine Tri.drop ?_
   refine tri_m (m := fun _ => false) Tryz.func128 (by kernel_rfl) rfl (by simp only [List.length_append, List.length_cons, List.length_nil, Tryz.ntmps128]; decide) ?_
   have es : s = p.ps.length := by omega
   subst es
   simp only [vsAll, boxA, boxZ, opA, dstOk, nilSliceOp, argFr, Nat.reduceAdd, Nat.reduceLT, eq_self, wtAll, Tryz.ntmps128]
   refine vs_draw2 [0, 0, 0, 0, 0, 0, 0, 0, 0] [] [0, 1, 2, 3, 4, 5, 6, 7, 8] (by decide +kernel) ?_
   simp only [vsAll, binA, binLitA, intA, loadA, loadRow, partA, partOk, fieldAddrA, lenA, nilCheckA, opA, dstOk, nilSliceOp, resA, argFr, retA.eq_2, Nat.reduceLT, Nat.reduceEqDiff, ↓reduceIte, eq_self, wtAll, Tryz.results128]
   exact dropR_pure rfl (HSub.refl _)
 | succ n ih =>
   intro s u H hs hu h5 h6 hm
   refine Tri.unpack hm fun es ck hes hpw => ?_
   have hkey : ∃ l, keyOf Tryz.prog 168 (mkU s u) = some l := mkKU (by omega) hu
   obtain ⟨o, hfo, hst, hcase⟩ := found_of und184q key168q hkey (fun e he => memT_key nP (hes e he)) hpw
   have hback : Go.V.HSub (H.set im (.raw (.map es ck))) H := HSub_set' hm (memo_le hes hpw)
   have n5 : ¬ i5 = im := fun q => by rw [q, hm] at h5; cases h5
   have n6 : ¬ i6 = im := fun q => by rw [q, hm] at h6; cases h6
   have n5' : ¬ im = i5 := fun q => n5 q.symm
   have n6' : ¬ im = i6 := fun q => n6 q.symm
   have n56 : ¬ i5 = i6 := fun q => by
    rw [q, h6] at h5
    simp only [Option.some.injEq, Obj.box.injEq, true_and] at h5
    have := congrFun h5 0
    simp at this
   have n65 : ¬ i6 = i5 := fun q => n56 q.symm
   refine Tri.drop ?_
   refine tri_m (m := fun _ => false) Tryz.func128 (by kernel_rfl) rfl (by simp only [List.length_append, List.length_cons, List.length_nil, Tryz.ntmps128]; decide) ?_
   skip
   simp only [vsAll, boxA, boxZ, opA, dstOk, nilSliceOp, argFr, Nat.reduceAdd, Nat.reduceLT, eq_self, wtAll, Tryz.ntmps128]
   refine vs_draw2 [0, 0, 0, 0, 0, 0, 0, 0, 0] [] [0, 1, 2, 3, 4, 5, 6, 7, 8] (by decide +kernel) ?_
   simp only [vsAll, binA, binLitA, intA, loadA, loadRow, partA, partOk, fieldAddrA, lenA, nilCheckA, opA, dstOk, argFr, Nat.reduceLT, Nat.reduceEqDiff, ↓reduceIte, eq_self, wtAll]
   refine condV (fun hc => ?_) (fun hc => ?_)
   ·simp only [decide_eq_true_eq] at hc; ((try clear h5 h6 hm n5 n6 n5' n6' n56 n65); omega)
   ·simp only [vsAll, loadA, loadRow, partA, partOk, extractA, cellsA, opA, allocA, newCells, storeObj, lookA, dstOk, nilSliceOp, argFr, Nat.reduceAdd, Nat.reduceMul, Nat.reduceLT, Nat.reduceEqDiff, ↓reduceIte, eq_self, wtAll, h5, n5, mapZ184q]
    refine ⟨o, hfo _, ?_⟩
    rcases hcase with ⟨rfl, hno⟩ | ⟨j, en, rfl, hj, hkn⟩
    ·simp only [vsAll, loadA, loadRow, partA, partOk, cellA, okAll, stAll, opsA, opA, allocA, okCells, dstOk, argFr, Nat.reduceAdd, Nat.reduceLT, Nat.reduceEqDiff, ↓reduceIte, eq_self, wtAll]
     intro i8 hh_i8; (try simp only [ite_none] at hh_i8)
     intro i10 hh_i10; (try simp only [ite_none] at hh_i10)
     rw [Hp.set_set]
     have a1 := ne_some hh_i8.2 h5
     have a2 := ne_some hh_i8.2 h6
     have a3 := ne_some hh_i8.2 hm
     have a4 := ne_some hh_i10.2.2.2 h5
     have a5 := ne_some hh_i10.2.2.2 h6
     have a6 := ne_some hh_i10.2.2.2 hm
     skip
     refine callK_pure (steps_tri p s u _) ?_
     simp only [vsAll]
     have hlen := nxt_len (p := p) s u
     generalize hN : nxt p s u = N at hlen
     generalize hf : tl p e0 more join n (s + 1) = f
     have hV : ∀ q ∈ N, ∀ r, f q.2 = some r → T.V n (36 ^ n) r := fun q _ r hr => T.vd.up _ _ _ _ (Nat.pow_le_pow_left hFH n) (tl_V T.vd n (s + 1) q.2 r (by rw [hf]; exact hr))
     have htl : tl p e0 more join (n + 1) s u = tlP more join f s N := by rw [tl_succ, hf, hN]
     have hlt : ∀ q ∈ N, q.1 ∈ places p := fun q hq => (nxt_mem (p := p) (s := s) (u := u) (by rw [hN]; exact hq)).1
     have hpow : 36 ^ n ≤ 36 ^ 3 := Nat.pow_le_pow_right (by decide) (by ((try clear h5 h6 hm n5 n6 n5' n6' n56 n65 hh_i8 hh_i10 a1 a2 a3 a4 a5 a6); omega))
     generalize hpv : (fun i => tlP more join f s (N.take i)) = pv
     refine vs_rangeS (σ := Unit) (nextL p s u) (fun _ _ => True)
      (fun i _ => H.set i10 (.box 2 1 fun _ => [i64 ((pv i).getD 0), boo (pv i).isSome])) () (fun _ => True) Tryz.func129 (by kernel_rfl) rfl (by simp only [vsAll, opA, ↓reduceIte, eq_self]) (by simp only [vsAll, opA, ↓reduceIte, eq_self]) (by decide) next_pair
      (fun yf H K hi => steps1_tri p s u k (by ((try clear h5 h6 hm n5 n6 n5' n6' n56 n65 hh_i8 hh_i10 a1 a2 a3 a4 a5 a6); omega)) hu yf H _ K hi) trivial ?_ ?_ ?_ ?_ ?_
     ·have e0 : pv 0 = none := by rw [← hpv]; rfl
      simp only [e0, Option.getD_none, Option.isSome_none]
      exact HSub.set (HSub.drop hback (by rw [Hp.set_ne _ _ hh_i8.1.1]; exact hh_i8.2)) (.refl _)
     ·intro i _ _ q hq; simp only [Hp.set_none] at hq ⊢; exact hq
     ·intros; trivial
     ·rintro i v ⟨⟩ hv _ lid did l lo h1 h2 h3
      simp only [Hp.set_none] at h1 h2
      have h4 : ¬ did = lid := fun e => h3 e.symm
      have b1 := ne_some h1.2 h5
      have b2 := ne_some h1.2 h6
      have b3 := ne_some h1.2 hm
      have b4 := ne_some h2.2 h5
      have b5 := ne_some h2.2 h6
      have b6 := ne_some h2.2 hm
      skip
      obtain ⟨hi, rfl⟩ := next_get hv
      rw [hN] at hi ⊢
      have hmem : N.getD i ((0, 0), []) ∈ N := mem_getD N i _ hi
      have hpn : pv (i + 1) = comb join (pv i) ((f (N.getD i ((0, 0), [])).2).map (more s (N.getD i ((0, 0), [])).1)) := by
       rw [← hpv]; exact tlP_next more join f s N i hi
      have hmem2 : N.getD i ((0, 0), []) ∈ nxt p s u := by rw [hN]; exact hmem
      have hgiv := nxt_bd k hmem2 hu
      have hpl := hlt _ hmem
      clear hmem2
      generalize N.getD i ((0, 0), []) = q at hmem hpn hgiv hpl ⊢
      obtain ⟨x, y⟩ := q
      simp only [] at hgiv hpn hpl ⊢
      have ih' := fun H => ih (s + 1) y H (by ((try clear h5 h6 hm n5 n6 n5' n6' n56 n65 hh_i8 hh_i10 a1 a2 a3 a4 a5 a6 h1 h2 h3 h4 b1 b2 b3 b4 b5 b6); omega)) hgiv
      simp only [hf] at ih'
      simp only [vsAll, loadA, loadRow, partA, partOk, cellA, okAll, stAll, opsA, opA, allocA, newCells, okCells, storeObj, dstOk, quietOk, argFr, Nat.reduceAdd, Nat.reduceLT, Nat.reduceEqDiff, ↓reduceIte, eq_self, wtAll, h6, a5, b2, b5]
      intro i11 hh_i11; (try simp only [ite_none] at hh_i11)
      have c1 := ne_some hh_i11.2.2.2 h5
      have c2 := ne_some hh_i11.2.2.2 h6
      have c3 := ne_some hh_i11.2.2.2 hm
      skip
      intro i12 hh_i12; (try simp only [ite_none] at hh_i12)
      have c4 := ne_some hh_i12.2.2.2.2.2 h5
      have c5 := ne_some hh_i12.2.2.2.2.2 h6
      have c6 := ne_some hh_i12.2.2.2.2.2 hm
      skip
      simp only [vsAll, Nat.reduceLT, ↓reduceIte, eq_self, hh_i11, c2, hh_i12, c5]
      refine callK_pure (ih' _ (by simp only [vsAll, ↓reduceIte, eq_self, h5, a4, b1, b4, c1, c4]) (by simp only [vsAll, ↓reduceIte, eq_self, h6, a5, b2, b5, c2, c5]) (by simp only [vsAll, ↓reduceIte, eq_self, hm, hh_i10, b3, b6, c3, c6])) ?_
      generalize hq : f y = q at hpn
      cases q with
      | none =>
        simp only [Option.map_none, comb_none] at hpn
        simp only [vsAll, unA, extractA, opA, dstOk, quietOk, nilSliceOp, Nat.reduceAdd, Nat.reduceLT, Nat.reduceEqDiff, ↓reduceIte, eq_self]
        refine ⟨⟨_, _, rfl⟩, _, ⟨(), rfl⟩, ?_⟩
        rw [hpn]
        (repeat (first | exact HSub_rfl | refine HSub_put_eq (by simp only [vsAll, ↓reduceIte, eq_self, h1, h2, h4, hh_i11, hh_i12]) ?_ | refine HSub_drop2 (by simp only [eq_self, hh_i10, h1, h2, hh_i11, hh_i12]) ?_ | refine HSub_keep_eq (by simp only [vsAll, ↓reduceIte, eq_self, reduceCtorEq, Nat.reduceEqDiff, h5, h6, hm, n5, n6, n5', n6', n56, n65, hh_i8, hh_i10, a1, a2, a3, a4, a5, a6, h1, h2, h3, h4, b1, b2, b3, b4, b5, b6, hh_i11, c1, c2, c3, hh_i12, c4, c5, c6]) ?_))
      | some r =>
        simp only [Option.map_some] at hpn
        have hr := hV _ hmem r hq
        simp only [vsAll, unA, loadA, loadRow, partA, partOk, fieldAddrA, extractA, okAll, stAll, opsA, opA, dstOk, quietOk, nilSliceOp, argFr, Nat.reduceAdd, Nat.reduceLT, Nat.reduceEqDiff, ↓reduceIte, eq_self, wtAll, hh_i11, hh_i12]
        refine callK_pure (T.tM n (36 ^ n) s x r _ (by ((try clear h5 h6 hm n5 n6 n5' n6' n56 n65 hh_i8 hh_i10 a1 a2 a3 a4 a5 a6 h1 h2 h3 h4 b1 b2 b3 b4 b5 b6 hh_i11 c1 c2 c3 hh_i12 c4 c5 c6); omega)) (by ((try clear h5 h6 hm n5 n6 n5' n6' n56 n65 hh_i8 hh_i10 a1 a2 a3 a4 a5 a6 h1 h2 h3 h4 b1 b2 b3 b4 b5 b6 hh_i11 c1 c2 c3 hh_i12 c4 c5 c6); omega)) (by ((try clear h5 h6 hm n5 n6 n5' n6' n56 n65 hh_i8 hh_i10 a1 a2 a3 a4 a5 a6 h1 h2 h3 h4 b1 b2 b3 b4 b5 b6 hh_i11 c1 c2 c3 hh_i12 c4 c5 c6); omega)) hpl hr) ?_
        cases hpi : pv i with
        | none =>
          rw [hpi] at hpn
          simp only [comb] at hpn
          simp only [vsAll, loadA, loadRow, partA, partOk, fieldAddrA, cellA, cellsA, fillA, okParts, partsA, partsOk, opA, newCells, okCells, storeObj, dstOk, quietOk, nilSliceOp, Nat.reduceAdd, Nat.reduceLT, Nat.reduceLeDiff, Nat.reduceEqDiff, ↓reduceIte, eq_self, wtAll, h1, h2, hh_i11, hh_i12]
          refine ⟨⟨_, _, rfl⟩, _, ⟨(), rfl⟩, ?_⟩
          rw [hpn]
          simp only [Option.getD_some, Option.isSome_some]
          (repeat (first | exact HSub_rfl | refine HSub_put_eq (by simp only [vsAll, ↓reduceIte, eq_self, h1, h2, h4, hh_i11, hh_i12]) ?_ | refine HSub_drop2 (by simp only [eq_self, hh_i10, h1, h2, hh_i11, hh_i12]) ?_ | refine HSub_keep_eq (by simp only [vsAll, ↓reduceIte, eq_self, reduceCtorEq, Nat.reduceEqDiff, h5, h6, hm, n5, n6, n5', n6', n56, n65, hh_i8, hh_i10, a1, a2, a3, a4, a5, a6, h1, h2, h3, h4, b1, b2, b3, b4, b5, b6, hh_i11, c1, c2, c3, hh_i12, c4, c5, c6]) ?_))
        | some z =>
          have hz : T.V (n + 1) (i * 36 ^ n) z := tlP_V T.vd (f := f) (s := s) (l := N) hlt hV i (by ((try clear h5 h6 hm n5 n6 n5' n6' n56 n65 hh_i8 hh_i10 a1 a2 a3 a4 a5 a6 h1 h2 h3 h4 b1 b2 b3 b4 b5 b6 hh_i11 c1 c2 c3 hh_i12 c4 c5 c6); omega)) z (by rw [← hpi, ← hpv])
          have hw : i * 36 ^ n ≤ 36 * 36 ^ 3 := Nat.mul_le_mul (by ((try clear h5 h6 hm n5 n6 n5' n6' n56 n65 hh_i8 hh_i10 a1 a2 a3 a4 a5 a6 h1 h2 h3 h4 b1 b2 b3 b4 b5 b6 hh_i11 c1 c2 c3 hh_i12 c4 c5 c6); omega)) hpow
          rw [hpi] at hpn
          simp only [comb] at hpn
          simp only [vsAll, loadA, loadRow, partA, partOk, fieldAddrA, okAll, stAll, opsA, opA, dstOk, quietOk, nilSliceOp, argFr, Nat.reduceLT, Nat.reduceEqDiff, ↓reduceIte, eq_self, wtAll, h1, h2, hh_i11, hh_i12, Option.getD_some]
          refine callK_pure (T.tJ (n + 1) (i * 36 ^ n) (36 ^ n) z (more s x r) _ (by ((try clear h5 h6 hm n5 n6 n5' n6' n56 n65 hh_i8 hh_i10 a1 a2 a3 a4 a5 a6 h1 h2 h3 h4 b1 b2 b3 b4 b5 b6 hh_i11 c1 c2 c3 hh_i12 c4 c5 c6); omega)) (by ((try clear h5 h6 hm n5 n6 n5' n6' n56 n65 hh_i8 hh_i10 a1 a2 a3 a4 a5 a6 h1 h2 h3 h4 b1 b2 b3 b4 b5 b6 hh_i11 c1 c2 c3 hh_i12 c4 c5 c6); omega)) hz (T.vd.hM n _ s x r hpl hr)) ?_
          simp only [vsAll, fieldAddrA, cellA, cellsA, opA, newCells, okCells, storeObj, dstOk, Nat.reduceLT, Nat.reduceLeDiff, Nat.reduceEqDiff, ↓reduceIte, eq_self, wtAll, h1, h2, hh_i11, hh_i12]
          refine ⟨⟨_, _, rfl⟩, _, ⟨(), rfl⟩, ?_⟩
          rw [hpn]
          simp only [Option.getD_some, Option.isSome_some]
          (repeat (first | exact HSub_rfl | refine HSub_put_eq (by simp only [vsAll, ↓reduceIte, eq_self, h1, h2, h4, hh_i11, hh_i12]) ?_ | refine HSub_drop2 (by simp only [eq_self, hh_i10, h1, h2, hh_i11, hh_i12]) ?_ | refine HSub_keep_eq (by simp only [vsAll, ↓reduceIte, eq_self, reduceCtorEq, Nat.reduceEqDiff, h5, h6, hm, n5, n6, n5', n6', n56, n65, hh_i8, hh_i10, a1, a2, a3, a4, a5, a6, h1, h2, h3, h4, b1, b2, b3, b4, b5, b6, hh_i11, c1, c2, c3, hh_i12, c4, c5, c6]) ?_))
     ·rintro ⟨⟩ _ lid did lo h1 h2 h3
      simp only [Hp.set_none] at h1 h2
      have h4 : ¬ did = lid := fun e => h3 e.symm
      have b1 := ne_some h1.2 h5
      have b2 := ne_some h1.2 h6
      have b3 := ne_some h1.2 hm
      have b4 := ne_some h2.2 h5
      have b5 := ne_some h2.2 h6
      have b6 := ne_some h2.2 hm
      skip
      have el : (nextL p s u).length = N.length := by rw [nextL_eq, hN, List.length_map]
      have epv : pv N.length = tl p e0 more join (n + 1) s u := by rw [htl, ← hpv]; simp only [List.take_length]
      rw [el, epv]
      generalize htv : tl p e0 more join (n + 1) s u = tv
      simp only [vsAll, loadA, loadRow, partA, partOk, opA, mapUpA, dstOk, argFr, Nat.reduceLT, Nat.reduceEqDiff, ↓reduceIte, eq_self, wtAll, h5, hm, hh_i10, a4, h1, h2, b1, b3, b4, b6]
      refine ⟨168, 186, und184q, key168q, hkey, fun q v h => memT_key nP h, ⟨s, u, by ((try clear h5 h6 hm n5 n6 n5' n6' n56 n65 hh_i8 hh_i10 a1 a2 a3 a4 a5 a6 h1 h2 h3 h4 b1 b2 b3 b4 b5 b6); omega), hu, rfl, by rw [show p.ps.length - s = n + 1 by ((try clear h5 h6 hm n5 n6 n5' n6' n56 n65 hh_i8 hh_i10 a1 a2 a3 a4 a5 a6 h1 h2 h3 h4 b1 b2 b3 b4 b5 b6); omega), htv]⟩, ?_⟩
      refine vs_draw2 [0, 0, 0, 0, 1, 3] [([0, 1, 2, 3], [3], 4), ([], [], 5)] [] (by decide +kernel) ?_
      simp only [vsAll, loadA, loadRow, partA, partOk, fieldAddrA, opA, dstOk, nilSliceOp, resA, retA.eq_2, Nat.reduceLT, Nat.reduceEqDiff, ↓reduceIte, eq_self, wtAll, Tryz.results128, h1, h2, h4]
      exact dropR_pure rfl (by (repeat (first | exact HSub_rfl | refine HSub_put_eq (by simp only [vsAll, ↓reduceIte, eq_self, reduceCtorEq, Nat.reduceEqDiff, h5, h6, hm, n5, n6, n5', n6', n56, n65, hh_i8, hh_i10, a1, a2, a3, a4, a5, a6, h1, h2, h3, h4, b1, b2, b3, b4, b5, b6]) ?_ | refine HSub_drop2 (by simp only [eq_self, hh_i10, h1, h2]) ?_ | refine HSub_keep_eq (by simp only [vsAll, ↓reduceIte, eq_self, reduceCtorEq, Nat.reduceEqDiff, h5, h6, hm, n5, n6, n5', n6', n56, n65, hh_i8, hh_i10, a1, a2, a3, a4, a5, a6, h1, h2, h3, h4, b1, b2, b3, b4, b5, b6]) ?_)))
    ·obtain ⟨s', u', h1, h2, h3, h4⟩ := hes en (by
      have := Array.getElem?_eq_some_iff.1 hj
      obtain ⟨hl, rfl⟩ := this
      simp)
     have hval : en.val = knV (tl p e0 more join (n + 1) s u) := by
      rw [hkn] at h3
      simp only [mkU, mkV, Value.agg.injEq, Array.mk.injEq, List.cons.injEq, Value.int.injEq, true_and, and_true] at h3
      obtain ⟨q1, q2, q3, q4⟩ := h3
      have e1 : s' = s := by ((try clear h5 h6 hm n5 n6 n5' n6' n56 n65); omega)
      have e2 : u' = u := bd_ext h2 hu (by ((try clear h5 h6 hm n5 n6 n5' n6' n56 n65); omega)) (by ((try clear h5 h6 hm n5 n6 n5' n6' n56 n65); omega)) (by ((try clear h5 h6 hm n5 n6 n5' n6' n56 n65); omega))
      subst e1 e2
      rw [h4, show p.ps.length - s' = n + 1 by ((try clear h5 h6 hm n5 n6 n5' n6' n56 n65); omega)]
     generalize htl : tl p e0 more join (n + 1) s u = tv at hval
     simp only [vsAll, cellA, okCells, Nat.reduceAdd, eq_self, hval]
     intro i8 hh_i8; (try simp only [ite_none] at hh_i8)
     refine vs_draw2 [0, 0, 0, 0, 1, 3] [([0, 1, 2, 3], [3], 4), ([], [], 5)] [] (by decide +kernel) ?_
     simp only [vsAll, loadA, loadRow, partA, partOk, fieldAddrA, opA, dstOk, nilSliceOp, resA, retA.eq_2, Nat.reduceLT, Nat.reduceEqDiff, ↓reduceIte, eq_self, wtAll, Tryz.results128]
     rw [Hp.set_set]
     exact dropR_pure rfl (HSub.drop hback (by rw [Hp.set_ne _ _ hh_i8.1.1]; exact hh_i8.2))
end Go.Proofs.YtdopkbldjagmlaaGreat
end
section
set_option linter.unusedVariables false
set_option linter.unusedSimpArgs false
set_option maxHeartbeats 4000000
set_option maxRecDepth 100000
namespace Go.Proofs.YtdopkbldjagmlaaGreat
open Go.V
theorem azT184q : azT Tryz.prog 184 = some (1, 1, [.map none]) := by kernel_rfl
theorem azT160q : azT Tryz.prog 160 = some (1, 1, [.nilFunc]) := by kernel_rfl
/-- The heap behind a teller that is made. -/
abbrev telH (p : Pt) (e0 : Int) (more : Nat → Int × Int → Int → Int) (join : Int → Int → Int) (fm fj : Fn) (cm cj : List AV) (H : Hp) (im i5 i6 : Nat) : Hp :=
 ((H.set im (.memo (memT p e0 more join))).set i5 (.box 1 1 fun _ => [.map im])).set i6 (.box 1 1 fun _ => [onF p e0 fm fj cm cj i5 i6])
def tellR (p : Pt) (e0 : Int) (more : Nat → Int × Int → Int → Int) (join : Int → Int → Int) (fm fj : Fn) (cm cj : List AV) (H : Hp) : Res → Hp → Prop := fun r H' =>
 ∃ i5 i6 im, r = .ret (onF p e0 fm fj cm cj i5 i6) ∧ (H im = none ∧ H i5 = none ∧ H i6 = none) ∧ ((¬ i5 = im ∧ ¬ im = i5) ∧ (¬ i6 = im ∧ ¬ im = i6) ∧ ¬ i6 = i5 ∧ ¬ i5 = i6) ∧ H' = telH p e0 more join fm fj cm cj H im i5 i6
theorem tell_tri (p : Pt) (e0 : Int) (more : Nat → Int × Int → Int → Int) (join : Int → Int → Int) (fm fj : Fn) (cm cj : List AV) (H : Hp) :
  Tri Tryz.prog (fnA 108) [pP p, talA e0 fm fj cm cj] H (tellR p e0 more join fm fj cm cj H) := by
 refine Tri.drop ?_
 refine tri_v0 (fun _ => false) Tryz.func108 (by kernel_rfl) rfl (by simp only [List.length_append, List.length_cons, List.length_nil, Tryz.ntmps108]; decide) ?_
 simp only [vsAll, loadA, loadRow, partA, partOk, boxA, boxZ, cellA, cellsA, okAll, stAll, opsA, opA, allocA, newCells, okCells, storeObj, nM, dstOk, nilSliceOp, resA, argFr, retA.eq_1, Nat.reduceAdd, Nat.reduceLT, Nat.reduceEqDiff, ↓reduceIte, eq_self, wtAll, Tryz.ntmps108, Tryz.results108, azT184q, azT160q]
 intro im hh_im; (try simp only [Hp.set_none, ite_none] at hh_im); intro i5 hh_i5; (try simp only [ite_none] at hh_i5); intro i6 hh_i6; (try simp only [ite_none] at hh_i6)
 rw [Hp.set_set, Hp.set_set]
 refine ⟨telH p e0 more join fm fj cm cj H im i5 i6, HSub.set (HSub.set (HSub.set (HSub.refl _) (memo_le (by simp) (by simp))) (.refl _)) (.refl _), i5, i6, im, rfl, ?_, ?_, rfl⟩
 ·refine ⟨?_, ?_, ?_⟩ <;> simp_all
 ·refine ⟨⟨?_, ?_⟩, ⟨?_, ?_⟩, ?_, ?_⟩ <;> simp_all
theorem telH_sub {p : Pt} {e0 : Int} {more : Nat → Int × Int → Int → Int} {join : Int → Int → Int} {fm fj : Fn} {cm cj : List AV} {H : Hp} {im i5 i6 : Nat} (h : H im = none ∧ H i5 = none ∧ H i6 = none) : Go.V.HSub (telH p e0 more join fm fj cm cj H im i5 i6) H := fun q o hq => by
 have h1 : ¬ q = i6 := fun e => by rw [e, h.2.2] at hq; cases hq
 have h2 : ¬ q = i5 := fun e => by rw [e, h.2.1] at hq; cases hq
 have h3 : ¬ q = im := fun e => by rw [e, h.1] at hq; cases hq
 exact ⟨o, by rw [telH, Hp.set_ne _ _ h1, Hp.set_ne _ _ h2, Hp.set_ne _ _ h3]; exact hq, .refl _⟩
/-- What is told of all plans, by a teller that was made just now. -/
theorem told_tri {p : Pt} {e0 : Int} {more : Nat → Int × Int → Int → Int} {join : Int → Int → Int} {fm fj : Fn} {cm cj : List AV} {H : Hp} {im i5 i6 : Nat} (k : Ok p) (T : Tel p e0 more join fm fj cm cj)
  (hd : (¬ i5 = im ∧ ¬ im = i5) ∧ (¬ i6 = im ∧ ¬ im = i6) ∧ ¬ i6 = i5 ∧ ¬ i5 = i6) (n s : Nat) (u : List Nat) (hn : s + n = p.ps.length) (hu : Bd u) :
  PTri Tryz.prog (onF p e0 fm fj cm cj i5 i6) [.agg (mkC s u)] (telH p e0 more join fm fj cm cj H im i5 i6) (knA (tl p e0 more join n s u)) :=
 on_tri k T n s u _ hn hu (by rw [telH, Hp.set_ne _ _ hd.2.2.2, Hp.set_same]) (by rw [telH, Hp.set_same]) (by rw [telH, Hp.set_ne _ _ hd.2.1.2, Hp.set_ne _ _ hd.1.2, Hp.set_same])
theorem rest_tri (s r : Int) (x : Int × Int) (H : Hp) : PTri Tryz.prog (.func (.func 124) [] []) [i64 s, plA x, i64 r] H (i64 r) := by
 refine tri_v0 (fun _ => false) Tryz.func124 (by kernel_rfl) rfl (by simp only [List.length_append, List.length_cons, List.length_nil, Tryz.ntmps124]; decide) ?_
 simp only [vsAll, boxA, boxZ, opA, dstOk, nilSliceOp, resA, argFr, retA.eq_1, Nat.reduceAdd, Nat.reduceLT, Nat.reduceEqDiff, ↓reduceIte, eq_self, wtAll, Tryz.ntmps124, Tryz.results124]
theorem add_tri (a b : Int) (H : Hp) (h : InR .i64 (a + b)) : PTri Tryz.prog (.func (.func 125) [] []) [i64 a, i64 b] H (i64 (a + b)) := by
 refine tri_v0 (fun _ => false) Tryz.func125 (by kernel_rfl) rfl (by simp only [List.length_append, List.length_cons, List.length_nil, Tryz.ntmps125]; decide) ?_
 simp only [vsAll, binA, binLitA, intA, opA, dstOk, nilSliceOp, resA, argFr, retA.eq_1, Nat.reduceLT, Nat.reduceEqDiff, ↓reduceIte, reduceCtorEq, eq_self, Tryz.ntmps125, Tryz.results125]
 exact h
def waysT (p : Pt) : Tel p 1 moreN joinN (.func 124) (.func 125) [] [] where
 V := vN
 vd := vdN p
 tM := fun n k s x r H _ _ _ _ _ => rest_tri s r x H
 tJ := fun n j k a b H _ hk ha hb => by
  obtain ⟨h1, h2⟩ := ha
  obtain ⟨h3, h4⟩ := hb
  exact add_tri a b H (by simp only [InR_i64]; omega)
theorem u0_bd : Bd u0 := ⟨rfl, fun q hq => by have := lt3 hq; rcases this with rfl | rfl | rfl <;> decide⟩
theorem ways_tri (p : Pt) (H : Hp) (k : Ok p) : PTri Tryz.prog (fnA 105) [pP p] H (i64 ((rpl p).length : Nat)) := by
 have e := tlN_len k.nF
 refine Tri.drop ?_
 refine tri_v0 (fun _ => false) Tryz.func105 (by kernel_rfl) rfl (by simp only [List.length_append, List.length_cons, List.length_nil, Tryz.ntmps105]; decide) ?_
 simp only [vsAll, cellA, cellsA, fillA, okParts, okAll, stAll, opsA, partsA, partsOk, opA, dstOk, nilSliceOp, argFr, Nat.reduceAdd, Nat.reduceLT, Nat.reduceLeDiff, Nat.reduceEqDiff, ↓reduceIte, reduceCtorEq, eq_self, wtAll, Tryz.ntmps105]
 refine callK (tell_tri p 1 moreN joinN (.func 124) (.func 125) [] [] _) ?_
 rintro r H' ⟨i5, i6, im, rfl, hfr, hd, rfl⟩
 simp only [vsAll, fillA, okParts, okAll, stAll, opsA, partsA, partsOk, opA, dstOk, Nat.reduceLT, Nat.reduceEqDiff, ↓reduceIte, eq_self, wtAll]
 refine callK_pure (told_tri k (waysT p) hd p.ps.length 0 u0 (by omega) u0_bd) ?_
 have e2 : tl p 1 moreN joinN p.ps.length 0 u0 = tlN p := rfl
 rw [e2]
 simp only [vsAll, extractA, opA, dstOk, nilSliceOp, resA, retA.eq_1, Nat.reduceAdd, Nat.reduceLT, Nat.reduceEqDiff, ↓reduceIte, eq_self, Tryz.results105, e]
 exact dropR_pure rfl (telH_sub hfr)
theorem always_tri (y : AV) (H : Hp) : PTri Tryz.prog (fnA 104) [y] H (boo true) := by
 refine tri_v0 (fun _ => false) Tryz.func104 (by kernel_rfl) rfl (by simp only [List.length_append, List.length_cons, List.length_nil, Tryz.ntmps104]; decide) ?_
 simp only [vsAll, opA, dstOk, nilSliceOp, resA, retA.eq_1, Nat.reduceLT, ↓reduceIte, eq_self, Tryz.ntmps104, Tryz.results104]
theorem wcount_tri (p : Pt) (H : Hp) (kn : Near p) : PTri Tryz.prog (fnA 79) [p.av] H (.tuple [i64 (cntV p : Nat), i64 (cntE p)]) := by
 refine Tri.drop ?_
 refine tri_a (m := fun _ => false) ans102 Tryz.func79 (by kernel_rfl) rfl (by simp only [List.length_append, List.length_cons, List.length_nil, Tryz.ntmps79]; decide) ?_
 simp only [vsAll, loadA, loadRow, partA, partOk, boxA, boxZ, okAll, stAll, opsA, opA, allocA, dstOk, nilSliceOp, argFr, Nat.reduceAdd, Nat.reduceLT, Nat.reduceEqDiff, ↓reduceIte, eq_self, wtAll, Tryz.ntmps79]
 intro i3 hh_i3; (try simp only [Hp.set_none, ite_none] at hh_i3)
 refine open_call (open_tri p (fnA 104) true _ kn trivial rfl (fun k H' => always_tri _ H')) (fun he => ?_) (fun k hv => ?_)
 ·have e : cntE p = errE p true := rfl
  have e2 : cntV p = 0 := if_neg he
  simp only [vsAll]
  refine ⟨errE p true, i3, _, rfl, rfl, by simp only [vsAll, ↓reduceIte, eq_self]; try rfl, ?_⟩
  simp only [vsAll, loadA, loadRow, partA, partOk, resA, retA.eq_2, Nat.reduceLT, Nat.reduceEqDiff, ↓reduceIte, eq_self, wtAll, Tryz.results79]
  refine dropR_pure ?_ (by (repeat (first | exact HSub_rfl | refine HSub_put_eq (by simp only [vsAll, ↓reduceIte, eq_self, reduceCtorEq, Nat.reduceEqDiff, hh_i3]) ?_ | refine HSub_drop2 (by simp only [eq_self, hh_i3]) ?_ | refine HSub_keep_eq (by simp only [vsAll, ↓reduceIte, eq_self, reduceCtorEq, Nat.reduceEqDiff, hh_i3]) ?_)))
  simp only [eq_self, e, e2, Int.natCast_zero]
 ·have he : cntE p = 0 := errE_ok k
  have e2 : cntV p = (rpl p).length := if_pos he
  simp only [vsAll, okAll, stAll, opsA, opA, dstOk, Nat.reduceLT, ↓reduceIte, eq_self]
  refine callK_pure (ways_tri p _ k) ?_
  simp only [vsAll, cellA, cellsA, opA, newCells, okCells, storeObj, dstOk, nilSliceOp, Nat.reduceLT, Nat.reduceEqDiff, ↓reduceIte, eq_self, wtAll]
  refine Ent.ret ⟨i3, _, rfl, by simp only [vsAll, ↓reduceIte, eq_self]; try rfl, ?_⟩
  simp only [vsAll, loadA, loadRow, partA, partOk, resA, retA.eq_2, Nat.reduceLT, Nat.reduceEqDiff, ↓reduceIte, eq_self, wtAll, Tryz.results79]
  refine dropR_pure ?_ (by (repeat (first | exact HSub_rfl | refine HSub_put_eq (by simp only [vsAll, ↓reduceIte, eq_self, reduceCtorEq, Nat.reduceEqDiff, hh_i3]) ?_ | refine HSub_drop2 (by simp only [eq_self, hh_i3]) ?_ | refine HSub_keep_eq (by simp only [vsAll, ↓reduceIte, eq_self, reduceCtorEq, Nat.reduceEqDiff, hh_i3]) ?_)))
  simp only [eq_self, he, e2]
end Go.Proofs.YtdopkbldjagmlaaGreat
end
section
set_option linter.unusedVariables false
set_option linter.unusedSimpArgs false
set_option maxHeartbeats 4000000
set_option maxRecDepth 100000
namespace Go.Proofs.YtdopkbldjagmlaaGreat
open Go.V
/-- A box frozen in what the slots hold. -/
inductive FzB (id st n : Nat) (f : Nat → List AV) : List (Nat × AV) → List (Nat × AV) → Prop
 | nil : FzB id st n f [] []
 | same {t : Nat} {v : AV} {l l' : List (Nat × AV)} : FzB id st n f l l' → FzB id st n f ((t, v) :: l) ((t, v) :: l')
 | hit {t i j : Nat} {l l' : List (Nat × AV)} : FzB id st n f l l' → FzB id st n f ((t, .ref id 0 st i j) :: l) ((t, .rptr n st f i j) :: l')
theorem FzB.frz {id st n : Nat} {f : Nat → List AV} {l l' : List (Nat × AV)} (h : FzB id st n f l l') : ∀ t, Fr.of l' t = Fr.of l t ∨ ∃ i j, Fr.of l t = .ref id 0 st i j ∧ Fr.of l' t = .rptr n st f i j := by
 intro t
 induction h with
 | nil => exact .inl rfl
 | same _ ih =>
   simp only [Fr.of]
   split
   ·exact .inl rfl
   ·exact ih
 | hit _ ih =>
   simp only [Fr.of]
   split
   ·exact .inr ⟨_, _, rfl, rfl⟩
   ·exact ih
theorem FzB.refl {id st n : Nat} {f : Nat → List AV} : ∀ l : List (Nat × AV), FzB id st n f l l
 | [] => .nil
 | (t, v) :: l => .same (FzB.refl l)
theorem azT159q : azT Tryz.prog 159 = some (1, 1, [.nilFunc]) := by kernel_rfl
abbrev ppA (p : Pt) : AV := .rptr 1 1 (fun _ => [pP p]) 0 0
theorem end_tri (p : Pt) (s : Nat) (x : Int × Int) (r : Int) (H : Hp) (k : Ok p) (hs : s < p.ps.length) (hx : x ∈ places p) : PTri Tryz.prog (.func (.func 106) [] [ppA p]) [i64 (s : Nat), plA x, i64 r] H (i64 (moreB p s x r)) := by
 obtain ⟨f, h, rfl, hf, hh⟩ := place_nat hx
 have e : moreB p s ((f : Int), (h : Int)) r = max r (hotV p true s h : Nat) := rfl
 rw [e]
 refine tri_v0 (fun _ => false) Tryz.func106 (by kernel_rfl) rfl (by simp only [List.length_append, List.length_cons, List.length_nil, Tryz.ntmps106]; decide) ?_
 simp only [vsAll, boxA, boxZ, opA, dstOk, nilSliceOp, argFr, Nat.reduceAdd, Nat.reduceLT, eq_self, wtAll, Tryz.ntmps106]
 refine vs_draw2 [0, 0, 0, 0, 0, 0, 0, 0, 0, 0, 0, 0] [] [0, 1, 2, 3, 4, 5, 6, 7, 8, 9, 10, 11] (by decide +kernel) ?_
 simp only [vsAll, loadA, loadRow, partA, partOk, fieldAddrA, nilCheckA, opA, dstOk, argFr, Nat.reduceLT, Nat.reduceEqDiff, ↓reduceIte, reduceCtorEq, eq_self, wtAll]
 refine qcall _ ⟨trivial, by simp only [vsAll, okAll, opsA, opA, Nat.reduceEqDiff, ↓reduceIte, eq_self], hot_tri p s h true _ k hs (by omega)⟩ ?_
 simp only [vsAll, mmA, okAll, stAll, opsA, opA, dstOk, resA, retA.eq_1, Nat.reduceLT, Nat.reduceEqDiff, ↓reduceIte, eq_self, Tryz.results106]
theorem min_tri (a b : Int) (H : Hp) : PTri Tryz.prog (.func (.func 109) [] []) [i64 a, i64 b] H (i64 (min a b)) := by
 refine tri_v0 (fun _ => false) Tryz.func109 (by kernel_rfl) rfl (by simp only [List.length_append, List.length_cons, List.length_nil, Tryz.ntmps109]; decide) ?_
 simp only [vsAll, mmA, okAll, stAll, opsA, opA, dstOk, nilSliceOp, resA, argFr, retA.eq_1, Nat.reduceLT, Nat.reduceEqDiff, ↓reduceIte, reduceCtorEq, eq_self, Tryz.ntmps109, Tryz.results109]
def bestT {p : Pt} (k : Ok p) : Tel p 0 (moreB p) joinB (.func 106) (.func 109) [ppA p] [] where
 V := fun _ _ _ => True
 vd := ⟨fun _ _ _ _ _ _ => trivial, trivial, fun _ _ _ _ _ _ _ => trivial, fun _ _ _ _ _ _ _ => trivial⟩
 tM := fun n _ s x r H _ _ hs hx _ => end_tri p s x r H k hs hx
 tJ := fun n j _ a b H _ _ _ _ => min_tri a b H
abbrev bonF (p : Pt) (i5 i6 : Nat) : AV := onF p 0 (.func 106) (.func 109) [ppA p] [] i5 i6
abbrev bH (p : Pt) (H : Hp) (i4 im i5 i6 : Nat) : Hp := telH p 0 (moreB p) joinB (.func 106) (.func 109) [ppA p] [] (H.set i4 (.box 1 1 fun _ => [i64 0])) im i5 i6
structure BI (p : Pt) (H : Hp) (i4 im i5 i6 : Nat) : Prop where
 k : Ok p
 e : rgtE p true = 0
 h4 : H i4 = none
 hm : H im = none
 h5 : H i5 = none
 h6 : H i6 = none
 d4 : (¬ im = i4 ∧ ¬ i4 = im) ∧ (¬ i5 = i4 ∧ ¬ i4 = i5) ∧ (¬ i6 = i4 ∧ ¬ i4 = i6)
 d5 : (¬ i5 = im ∧ ¬ im = i5) ∧ (¬ i6 = im ∧ ¬ im = i6) ∧ ¬ i6 = i5 ∧ ¬ i5 = i6
/-- What Best gives back: the plan in a row of its own. -/
def wbestR (p : Pt) (H : Hp) : Res → Hp → Prop := fun r H' =>
 (rgtE p true = 0 ∧ ∃ id, H id = none ∧ r = .ret (.tuple [i64 (bestV p), .sl id 2 (bestP p).length, i64 0]) ∧ H' = H.set id (.row 2 (bestP p).length (plF (bestP p)))) ∨
 (¬ rgtE p true = 0 ∧ r = .ret (.tuple [i64 0, nilA, i64 (rgtE p true)]) ∧ H' = H)
theorem find_at {α : Type} {l : List α} {P : α → Bool} {j : Nat} {d x : α} (hj : j < l.length) (hb : ∀ q, q < j → P (l.getD q d) = false) (hx : P x = true) (he : l.getD j d = x) : l.find? P = some x := by
 induction l generalizing j with
 | nil => exact absurd hj (Nat.not_lt_zero _)
 | cons a l ih =>
   cases j with
   | zero =>
     have e : a = x := he
     rw [List.find?_cons, e, hx]
   | succ j =>
     have h0 : P a = false := hb 0 (Nat.succ_pos _)
     rw [List.find?_cons, h0]
     exact ih (Nat.lt_of_succ_lt_succ hj) (fun q hq => hb (q + 1) (Nat.succ_lt_succ hq)) he
theorem wbestM_tri (p : Pt) (H : Hp) (kn : Near p) : Tri Tryz.prog (fnA 80) [p.av] H (wbestR p H) := by
 refine Tri.drop ?_
 refine tri_wam ans102 Tryz.func80 (by kernel_rfl) rfl (by simp only [List.length_append, List.length_cons, List.length_nil, Tryz.ntmps80]; decide) ?_
 refine wps_cutG3 (m := fun _ => false) (σ := Nat) (fun i4 => H i4 = none ∧ Ok p)
  (fun i4 => [(2, i64 0), (3, nilA), (4, .ref i4 0 1 0 0), (5, ppA p)])
  (fun i4 => H.set i4 (.box 1 1 fun _ => [i64 0])) (fun i4 => [.call 102 [.ref i4 0 1 0 0]]) ?_ fun i4 hy => ?_
 ·simp only [vsAll, loadA, loadRow, partA, partOk, boxA, boxZ, okAll, stAll, opsA, opA, allocA, dstOk, nilA, nilSliceOp, argFr, Nat.reduceAdd, Nat.reduceLT, Nat.reduceEqDiff, ↓reduceIte, eq_self, wtAll, Tryz.ntmps80]
  intro i4 hh_i4; (try simp only [Hp.set_none, ite_none] at hh_i4)
  refine open_call (open_tri p (fnA 104) true _ kn trivial rfl (fun k H' => always_tri _ H')) (fun he => ?_) (fun k hv => ?_)
  ·have e : rgtE p true = errE p true := if_neg he
   simp only [vsAll, loadA, loadRow, partA, partOk, resA, retA.eq_2, Nat.reduceEqDiff, ↓reduceIte, eq_self, wtAll, Tryz.results80, CutG_pan]
   refine ⟨errE p true, i4, _, rfl, rfl, by simp only [↓reduceIte, eq_self]; try rfl, ?_⟩
   simp only [vsAll, Nat.reduceLT, ↓reduceIte, eq_self]
   exact ⟨H, by (repeat (first | exact HSub_rfl | refine HSub_put_eq (by simp only [vsAll, ↓reduceIte, eq_self, reduceCtorEq, Nat.reduceEqDiff, hh_i4]) ?_ | refine HSub_drop2 (by simp only [eq_self, hh_i4]) ?_ | refine HSub_keep_eq (by simp only [vsAll, ↓reduceIte, eq_self, reduceCtorEq, Nat.reduceEqDiff, hh_i4]) ?_)), .inr ⟨by rw [e]; exact he, by rw [e], rfl⟩⟩
  ·simp only [vsAll, cellA, cellsA, opA, allocA, newCells, okCells, storeObj, dstOk, Nat.reduceLT, Nat.reduceEqDiff, ↓reduceIte, eq_self, wtAll]
   intro i5 hh_i5; (try simp only [ite_none] at hh_i5)
   refine cutG_ent (Ent.of [(2, i64 0), (3, nilA), (4, .ref i4 0 1 0 0), (5, .ref i5 0 1 0 0)] (by simp only [vsAll, nilA, Nat.reduceEqDiff, ↓reduceIte, eq_self]) (H' := (H.set i4 (.box 1 1 fun _ => [i64 0])).set i5 (.box 1 1 fun _ => [pP p])) (by (repeat (first | exact HSub_rfl | refine HSub_put_eq (by simp only [vsAll, ↓reduceIte, eq_self, hh_i5]) ?_ | refine HSub_drop2 (by simp only [eq_self, hh_i4, hh_i5]) ?_ | refine HSub_keep_eq (by simp only [vsAll, ↓reduceIte, eq_self, reduceCtorEq, Nat.reduceEqDiff, hh_i4, hh_i5]) ?_))) ?_)
   refine cutG_ent (Ent.freezeB (id := i5) (st := 1) (n := 1) (f := fun _ => [pP p]) (s' := Fr.of [(2, i64 0), (3, nilA), (4, .ref i4 0 1 0 0), (5, ppA p)]) (Hp.set_same _ _ _) (FzB.frz (.same (.same (.same (.hit (FzB.refl _)))))) ?_)
   rw [Hp.del_set, Hp.del_none _ _ (by rw [Hp.set_ne _ _ hh_i5.1.1]; exact hh_i5.2)]
   exact cutG_of i4 ⟨hh_i4, k⟩ (by simp only [vsAll, nilA, Nat.reduceEqDiff, ↓reduceIte, eq_self]) rfl HSub_rfl
 ·obtain ⟨h4, k⟩ := hy
  have nP := k.nP
  have eN : errE p true = 0 := errE_ok k
  refine wps_cutG4 (m := fun _ => false) (σ := Nat × Nat × Nat) (fun y => BI p H i4 y.1 y.2.1 y.2.2)
   (fun y => [(2, i64 0), (3, nilA), (4, .ref i4 0 1 0 0), (5, ppA p), (6, .rptr 1 1 (fun _ => [.func (.func 106) [] [ppA p]]) 0 0), (7, .rptr 1 1 (fun _ => [bonF p y.2.1 y.2.2]) 0 0), (8, .rptr 1 1 (fun _ => [i64 (bestV p)]) 0 0)])
   (fun y => bH p H i4 y.1 y.2.1 y.2.2) (fun _ => [.call 102 [.ref i4 0 1 0 0]]) ?_ fun y hy => ?_
  ·skip
   simp only [vsAll, loadA, loadRow, partA, partOk, cellA, cellsA, fillA, okParts, okAll, stAll, opsA, partsA, partsOk, opA, allocA, newCells, okCells, storeObj, dstOk, nilA, Nat.reduceAdd, Nat.reduceLT, Nat.reduceLeDiff, Nat.reduceEqDiff, ↓reduceIte, eq_self, wtAll, Tryz.ntmps80, azT159q]
   intro j6 hh_j6; (try simp only [ite_none] at hh_j6)
   refine callK (tell_tri p 0 (moreB p) joinB (.func 106) (.func 109) [ppA p] [] _) ?_
   rintro r H' ⟨i5, i6, im, rfl, hfr, hd, rfl⟩
   simp only [Hp.set_none] at hfr
   obtain ⟨⟨f1, f2, f3⟩, ⟨f4, f5, f6⟩, f7, f8, f9⟩ := hfr
   obtain ⟨⟨d1, d2⟩, ⟨d3, d4⟩, d5, d6⟩ := hd
   skip
   simp only [vsAll, loadA, loadRow, partA, partOk, cellA, cellsA, fillA, okParts, okAll, stAll, opsA, partsA, partsOk, opA, allocA, newCells, okCells, storeObj, dstOk, Nat.reduceLT, Nat.reduceEqDiff, ↓reduceIte, eq_self, wtAll, azT160q]
   intro j7 hh_j7; (try simp only [ite_none] at hh_j7)
   refine callK_pure (on_tri (i5 := i5) (i6 := i6) (im := im) k (bestT k) p.ps.length 0 u0 _ (by ((try clear h4 hh_j6 f1 f2 f3 f4 f5 f6 f7 f8 f9 d1 d2 d3 d4 d5 d6 hh_j7); omega)) u0_bd (by simp only [vsAll, ↓reduceIte, eq_self, d6, hh_j7]) (by simp only [vsAll, ↓reduceIte, eq_self, hh_j7]) (by simp only [vsAll, ↓reduceIte, eq_self, d2, d4, hh_j7])) ?_
   have e3 : tl p 0 (moreB p) joinB p.ps.length 0 u0 = tlB p p.ps.length 0 u0 := rfl
   have e4 := best_none (p := p) k.nF
   rw [e3]
   simp only [vsAll, extractA, cellA, cellsA, okAll, stAll, opsA, opA, allocA, newCells, okCells, storeObj, dstOk, nilSliceOp, Nat.reduceAdd, Nat.reduceLT, Nat.reduceEqDiff, ↓reduceIte, eq_self, wtAll, e4]
   intro j8 hh_j8; (try simp only [ite_none] at hh_j8)
   refine ask_call (fun hc => ?_) (fun hc => ?_)
   ·have h0 := of_decide_eq_true hc
    have er : rgtE p true = 0 := by rw [rgtE, if_pos eN, if_neg (by ((try clear h4 hh_j6 f1 f2 f3 f4 f5 f6 f7 f8 f9 d1 d2 d3 d4 d5 d6 hh_j7 hh_j8); omega))]
    have eb := (best_eq k.nF er).1
    rw [eb]
    simp only [vsAll, Option.getD_some]
    refine cutG_ent (Ent.of [(2, i64 0), (3, nilA), (4, .ref i4 0 1 0 0), (5, ppA p), (6, .ref j6 0 1 0 0), (7, .ref j7 0 1 0 0), (8, .ref j8 0 1 0 0)] (by simp only [vsAll, nilA, Nat.reduceEqDiff, ↓reduceIte, eq_self]) (H' := (((bH p H i4 im i5 i6).set j6 (.box 1 1 fun _ => [.func (.func 106) [] [ppA p]])).set j7 (.box 1 1 fun _ => [bonF p i5 i6])).set j8 (.box 1 1 fun _ => [i64 (bestV p)])) (by (repeat (first | exact HSub_rfl | refine HSub_put_eq (by simp only [vsAll, ↓reduceIte, eq_self, hh_j6, f1, f3, f4, f6, f7, f9, d2, d4, d6, hh_j7, hh_j8]) ?_ | refine HSub_drop2 (by simp only [eq_self, h4, hh_j6, f3, f6, f9, hh_j7, hh_j8]) ?_ | refine HSub_keep_eq (by simp only [vsAll, ↓reduceIte, eq_self, reduceCtorEq, Nat.reduceEqDiff, h4, hh_j6, f1, f2, f3, f4, f5, f6, f7, f8, f9, d1, d2, d3, d4, d5, d6, hh_j7, hh_j8]) ?_))) ?_)
    refine cutG_ent (Ent.freezeB (id := j8) (st := 1) (n := 1) (f := fun _ => [i64 (bestV p)]) (s' := Fr.of [(2, i64 0), (3, nilA), (4, .ref i4 0 1 0 0), (5, ppA p), (6, .ref j6 0 1 0 0), (7, .ref j7 0 1 0 0), (8, .rptr 1 1 (fun _ => [i64 (bestV p)]) 0 0)]) (Hp.set_same _ _ _) (FzB.frz (.same (.same (.same (.same (.same (.same (.hit (FzB.refl _))))))))) ?_)
    rw [Hp.del_set, Hp.del_none _ _ (by simp only [vsAll, ↓reduceIte, eq_self, hh_j8])]
    refine cutG_ent (Ent.freezeB (id := j7) (st := 1) (n := 1) (f := fun _ => [bonF p i5 i6]) (s' := Fr.of [(2, i64 0), (3, nilA), (4, .ref i4 0 1 0 0), (5, ppA p), (6, .ref j6 0 1 0 0), (7, .rptr 1 1 (fun _ => [bonF p i5 i6]) 0 0), (8, .rptr 1 1 (fun _ => [i64 (bestV p)]) 0 0)]) (Hp.set_same _ _ _) (FzB.frz (.same (.same (.same (.same (.same (.hit (FzB.refl _)))))))) ?_)
    rw [Hp.del_set, Hp.del_none _ _ (by simp only [vsAll, ↓reduceIte, eq_self, hh_j7])]
    refine cutG_ent (Ent.freezeB (id := j6) (st := 1) (n := 1) (f := fun _ => [.func (.func 106) [] [ppA p]]) (s' := Fr.of [(2, i64 0), (3, nilA), (4, .ref i4 0 1 0 0), (5, ppA p), (6, .rptr 1 1 (fun _ => [.func (.func 106) [] [ppA p]]) 0 0), (7, .rptr 1 1 (fun _ => [bonF p i5 i6]) 0 0), (8, .rptr 1 1 (fun _ => [i64 (bestV p)]) 0 0)]) (Hp.set_same _ _ _) (FzB.frz (.same (.same (.same (.same (.hit (FzB.refl _))))))) ?_)
    rw [Hp.del_set, Hp.del_none _ _ (by simp only [vsAll, ↓reduceIte, eq_self, hh_j6, f1, f4, f7])]
    refine cutG_of (im, i5, i6) ⟨k, er, h4, ?_, ?_, ?_, ?_, ?_⟩ (by simp only [vsAll, nilA, Nat.reduceEqDiff, ↓reduceIte, eq_self]) rfl HSub_rfl
    ·simp_all
    ·simp_all
    ·simp_all
    ·refine ⟨⟨?_, ?_⟩, ⟨?_, ?_⟩, ?_, ?_⟩ <;> simp_all
    ·exact ⟨⟨d1, d2⟩, ⟨d3, d4⟩, d5, d6⟩
   ·have h0 := of_decide_eq_false hc
    have er : rgtE p true = 4 := by rw [rgtE, if_pos eN, if_pos (by ((try clear h4 hh_j6 f1 f2 f3 f4 f5 f6 f7 f8 f9 d1 d2 d3 d4 d5 d6 hh_j7 hh_j8); omega))]
    simp only [vsAll, loadA, loadRow, partA, partOk, resA, retA.eq_2, Nat.reduceEqDiff, ↓reduceIte, eq_self, wtAll, Tryz.results80, hh_j6, f3, f6, f9, hh_j7, hh_j8, CutG_pan]
    refine ⟨4, i4, _, rfl, rfl, by simp only [↓reduceIte, eq_self, hh_j6, f3, f6, f9, hh_j7, hh_j8]; try rfl, ?_⟩
    simp only [vsAll, Nat.reduceLT, ↓reduceIte, eq_self]
    refine ⟨H, by (repeat (first | exact HSub_rfl | refine HSub_put_eq (by simp only [vsAll, ↓reduceIte, eq_self, reduceCtorEq, Nat.reduceEqDiff, h4, hh_j6, f1, f2, f3, f4, f5, f6, f7, f8, f9, d1, d2, d3, d4, d5, d6, hh_j7, hh_j8]) ?_ | refine HSub_drop2 (by simp only [eq_self, h4, hh_j6, f3, f6, f9, hh_j7, hh_j8]) ?_ | refine HSub_keep_eq (by simp only [vsAll, ↓reduceIte, eq_self, reduceCtorEq, Nat.reduceEqDiff, h4, hh_j6, f1, f2, f3, f4, f5, f6, f7, f8, f9, d1, d2, d3, d4, d5, d6, hh_j7, hh_j8]) ?_)), .inr ⟨by rw [er]; decide, by rw [er], rfl⟩⟩
  ·obtain ⟨im, i5, i6⟩ := y
   obtain ⟨_, er, _, b1, b2, b3, ⟨⟨c1, c2⟩, ⟨c3, c4⟩, c5, c6⟩, ⟨d1, d2⟩, ⟨d3, d4⟩, d5, d6⟩ := hy
   simp only [] at b1 b2 b3 c1 c2 c3 c4 c5 c6 d1 d2 d3 d4 d5 d6
   obtain ⟨eb, eg⟩ := best_eq k.nF er
   obtain ⟨_, _, h0⟩ := rgtE_zero er
   have hbl : (bestP p).length = p.ps.length := by
    have : bestP p ∈ rpl p := by
     rw [show bestP p = mnG (lastV p) (rpl p) [] (rpl p).length from if_pos er]
     obtain ⟨q, hq, e, _⟩ := mnG_spec (lastV p) (rpl p) [] h0 (rpl p).length (Nat.le_refl _)
     rw [e]; exact mem_getD _ q [] hq
    exact (mem_rpl.1 this).len
   have hex : ∃ t ∈ cont p p.ps.length 0 u0, valT (0 : Int) (moreB p) 0 t ≤ bestV p := tlB_le.1 ⟨_, eb, Int.le_refl _⟩
   generalize hB : bH p H i4 im i5 i6 = B
   have g4 : B i4 = some (.box 1 1 fun _ => [i64 0]) := by rw [← hB]; skip; simp only [vsAll, ↓reduceIte, eq_self, c2, c4, c6]
   have g5 : B i5 = some (.box 1 1 fun _ => [.map im]) := by rw [← hB]; skip; simp only [vsAll, ↓reduceIte, eq_self, d6]
   have g6 : B i6 = some (.box 1 1 fun _ => [bonF p i5 i6]) := by rw [← hB]; skip; simp only [vsAll, ↓reduceIte, eq_self]
   have gm : B im = some (.memo (memT p 0 (moreB p) joinB)) := by rw [← hB]; skip; simp only [vsAll, ↓reduceIte, eq_self, d2, d4]
   have hBH : ∀ o, Go.V.HSub (B.set i4 o) H := fun o => by
    rw [← hB]
    refine HSub_drop2 h4 (HSub.trans (telH_sub ?_) (HSub_drop2 h4 (HSub.refl _)))
    refine ⟨?_, ?_, ?_⟩
    ·rw [Hp.set_ne _ _ c1]; exact b1
    ·rw [Hp.set_ne _ _ c3]; exact b2
    ·rw [Hp.set_ne _ _ c5]; exact b3
   refine wps_vs (m := mset [76]) ?_
   skip
   simp only [vsAll, cellA, fillA, okParts, partsA, partsOk, opA, allocA, newCells, okCells, storeObj, dstOk, nilA, Nat.reduceAdd, Nat.reduceMul, Nat.reduceLT, Nat.reduceEqDiff, ↓reduceIte, eq_self, wtAll, Tryz.ntmps80]
   intro i10 hh_i10; (try simp only [Hp.set_none, ite_none] at hh_i10); intro i11 hh_i11; (try simp only [ite_none] at hh_i11)
   refine vs_loopD (σ := Nat × List Nat × List (Int × Int) × Hp × List Nat)
    (fun y => (y.1 ≤ p.ps.length ∧ Bd y.2.1 ∧ y.2.2.1.length = y.1 ∧ grd p (bestV p) p.ps.length 0 u0 = y.2.2.1 ++ grd p (bestV p) (p.ps.length - y.1) y.1 y.2.1 ∧ ∃ t ∈ cont p (p.ps.length - y.1) y.1 y.2.1, valT (0 : Int) (moreB p) y.1 t ≤ bestV p) ∧
     Mk B y.2.2.2.2 y.2.2.2.1 ∧ y.2.2.2.1 i10 = none ∧ y.2.2.2.1 i11 = none ∧ y.2.2.2.1 i4 = some (.box 1 1 fun _ => [i64 0]) ∧ y.2.2.2.1 i5 = some (.box 1 1 fun _ => [.map im]) ∧ y.2.2.2.1 i6 = some (.box 1 1 fun _ => [bonF p i5 i6]) ∧ y.2.2.2.1 im = some (.memo (memT p 0 (moreB p) joinB)))
    (fun y => [(4, .ref i4 0 1 0 0), (5, ppA p), (6, .rptr 1 1 (fun _ => [.func (.func 106) [] [ppA p]]) 0 0), (7, .rptr 1 1 (fun _ => [bonF p i5 i6]) 0 0), (8, .rptr 1 1 (fun _ => [i64 (bestV p)]) 0 0), (10, .ref i10 0 2 0 0), (11, .ref i11 0 4 0 0)]) (fun y => y.2.2.2.2.map AD.mark ++ [.call 102 [.ref i4 0 1 0 0]])
    (fun y => (y.2.2.2.1.set i10 (.box 2 4 (plF y.2.2.1))).set i11 (.box 4 1 fun _ => mkC y.1 y.2.1)) (fun y => p.ps.length - y.1) (0, u0, [], B, []) ⟨⟨Nat.zero_le _, u0_bd, rfl, by simp, by simpa using hex⟩, Mk.nil B, hh_i10, hh_i11.2.2, g4, g5, g6, gm⟩ ?_ rfl ?_ fun y hy => ?_
   ·simp only [vsAll, Nat.reduceEqDiff, ↓reduceIte, eq_self]
   ·refine HSub.trans (B := (B.set i10 (.box 2 4 fun k => List.take 2 (List.drop (k * 2) [i64 0, i64 0, i64 0, i64 0, i64 0, i64 0, i64 0, i64 0]))).set i11 (.box 4 1 fun _ => [i64 0, u64 0, u64 0, u64 0])) (by (repeat (first | exact HSub_rfl | refine HSub_put_eq (by simp only [vsAll, ↓reduceIte, eq_self, hh_i11]) ?_ | refine HSub_drop2 (by simp only [eq_self, hh_i10, hh_i11]) ?_ | refine HSub_keep_eq (by simp only [vsAll, ↓reduceIte, eq_self, reduceCtorEq, Nat.reduceEqDiff, h4, b1, b2, b3, c1, c2, c3, c4, c5, c6, d1, d2, d3, d4, d5, d6, h4, b1, b2, b3, c1, c2, c3, c4, c5, c6, d1, d2, d3, d4, d5, d6, h4, b1, b2, b3, c1, c2, c3, c4, c5, c6, d1, d2, d3, d4, d5, d6, h4, b1, b2, b3, c1, c2, c3, c4, c5, c6, d1, d2, d3, d4, d5, d6, g4, g5, g6, gm, hh_i10, hh_i11]) ?_))) (HSub.set (HSub.set HSub_rfl (box_ext fun q hq => ?_)) (box_ext fun q hq => rfl))
    have : q = 0 ∨ q = 1 ∨ q = 2 ∨ q = 3 := by ((try clear h4 b1 b2 b3 c1 c2 c3 c4 c5 c6 d1 d2 d3 d4 d5 d6 g4 g5 g6 gm hh_i10 hh_i11); omega)
    rcases this with rfl | rfl | rfl | rfl <;> rfl
   ·obtain ⟨s, u, l, G, lm⟩ := y
    obtain ⟨⟨hs, hbd, hll, hgr, hext⟩, hG, q10, q11, q4, q5, q6, qm⟩ := hy
    simp only [] at hs hbd hll hgr hext hG q10 q11 q4 q5 q6 qm
    have r1 := ne_some q10 q4
    have r2 := ne_some q10 q5
    have r3 := ne_some q10 q6
    have r4 := ne_some q10 qm
    have r5 := ne_some q11 q4
    have r6 := ne_some q11 q5
    have r7 := ne_some q11 q6
    have r8 := ne_some q11 qm
    skip
    simp only [vsAll]
    refine vs_draw2 [0, 0, 0, 0, 0, 0, 0, 0, 0] [] [0, 1, 2, 3, 4, 5, 6, 7, 8] (by decide +kernel) ?_
    simp only [vsAll, binA, binLitA, intA, loadA, loadRow, partA, partOk, fieldAddrA, lenA, nilCheckA, opA, dstOk, Nat.reduceLT, Nat.reduceEqDiff, ↓reduceIte, eq_self, wtAll]
    refine condD (fun hd => ?_) (fun hd => ?_)
    ·have hsN : s < p.ps.length := by ((try clear h4 b1 b2 b3 c1 c2 c3 c4 c5 c6 d1 d2 d3 d4 d5 d6 g4 g5 g6 gm hh_i10 hh_i11 q10 q11 q4 q5 q6 qm r1 r2 r3 r4 r5 r6 r7 r8); omega)
     obtain ⟨n, hn⟩ : ∃ n, p.ps.length - s = n + 1 := ⟨p.ps.length - s - 1, by ((try clear h4 b1 b2 b3 c1 c2 c3 c4 c5 c6 d1 d2 d3 d4 d5 d6 g4 g5 g6 gm hh_i10 hh_i11 q10 q11 q4 q5 q6 qm r1 r2 r3 r4 r5 r6 r7 r8); omega)⟩
     rw [hn] at hgr hext
     simp only [vsAll, loadA, loadRow, partA, partOk, okAll, stAll, opsA, opA, dstOk, Nat.reduceLT, Nat.reduceEqDiff, ↓reduceIte, eq_self, wtAll]
     refine callK_pure (steps_tri p s u _) ?_
     simp only [vsAll]
     generalize hN : nxt p s u = N
     refine vs_rangeS (σ := Unit) (nextL p s u) (fun j _ => ∀ q, q < j → okB p (bestV p) n s (N.getD q ((0, 0), [])) = false)
      (fun _ _ => (G.set i10 (.box 2 4 (plF l))).set i11 (.box 4 1 fun _ => mkC s u)) () (fun _ => True) Tryz.func129 (by kernel_rfl) rfl (by simp only [vsAll, opA, ↓reduceIte, eq_self]) (by simp only [vsAll, opA, ↓reduceIte, eq_self]) (by decide) next_pair
      (fun yf H K hi => steps1_tri p s u k hsN hbd yf H _ K hi) (fun q hq => absurd hq (Nat.not_lt_zero q)) ?_ ?_ ?_ ?_ ?_
     ·(repeat (first | exact HSub_rfl | refine HSub_put_eq (by simp only [vsAll, ↓reduceIte, eq_self, reduceCtorEq, Nat.reduceEqDiff, h4, b1, b2, b3, c1, c2, c3, c4, c5, c6, d1, d2, d3, d4, d5, d6, h4, b1, b2, b3, c1, c2, c3, c4, c5, c6, d1, d2, d3, d4, d5, d6, h4, b1, b2, b3, c1, c2, c3, c4, c5, c6, d1, d2, d3, d4, d5, d6, h4, b1, b2, b3, c1, c2, c3, c4, c5, c6, d1, d2, d3, d4, d5, d6, g4, g5, g6, gm, hh_i10, hh_i11, q10, q11, q4, q5, q6, qm, r1, r2, r3, r4, r5, r6, r7, r8]) ?_ | refine HSub_drop2 (by simp only [vsAll, ↓reduceIte, eq_self, reduceCtorEq, Nat.reduceEqDiff, h4, b1, b2, b3, c1, c2, c3, c4, c5, c6, d1, d2, d3, d4, d5, d6, h4, b1, b2, b3, c1, c2, c3, c4, c5, c6, d1, d2, d3, d4, d5, d6, h4, b1, b2, b3, c1, c2, c3, c4, c5, c6, d1, d2, d3, d4, d5, d6, h4, b1, b2, b3, c1, c2, c3, c4, c5, c6, d1, d2, d3, d4, d5, d6, g4, g5, g6, gm, hh_i10, hh_i11, q10, q11, q4, q5, q6, qm, r1, r2, r3, r4, r5, r6, r7, r8]) ?_ | refine HSub_keep_eq (by simp only [vsAll, ↓reduceIte, eq_self, reduceCtorEq, Nat.reduceEqDiff, h4, b1, b2, b3, c1, c2, c3, c4, c5, c6, d1, d2, d3, d4, d5, d6, h4, b1, b2, b3, c1, c2, c3, c4, c5, c6, d1, d2, d3, d4, d5, d6, h4, b1, b2, b3, c1, c2, c3, c4, c5, c6, d1, d2, d3, d4, d5, d6, h4, b1, b2, b3, c1, c2, c3, c4, c5, c6, d1, d2, d3, d4, d5, d6, g4, g5, g6, gm, hh_i10, hh_i11, q10, q11, q4, q5, q6, qm, r1, r2, r3, r4, r5, r6, r7, r8]) ?_))
     ·intro j _ _ q hq; exact hq
     ·intros; trivial
     ·rintro j w ⟨⟩ hw hbef lid did l' lo h1 h2 h3'
      simp only [Hp.set_none] at h1 h2
      have h4' : ¬ did = lid := fun e => h3' e.symm
      have e1 := ne_some h1.2.2 q4
      have e2 := ne_some h1.2.2 q5
      have e3 := ne_some h1.2.2 q6
      have e4 := ne_some h1.2.2 qm
      have e5 := ne_some h2.2.2 q4
      have e6 := ne_some h2.2.2 q5
      have e7 := ne_some h2.2.2 q6
      have e8 := ne_some h2.2.2 qm
      skip
      obtain ⟨hj, rfl⟩ := next_get hw
      rw [hN] at hj ⊢
      have hmem : N.getD j ((0, 0), []) ∈ N := mem_getD N j _ hj
      have hmem2 : N.getD j ((0, 0), []) ∈ nxt p s u := by rw [hN]; exact hmem
      have hgiv := nxt_bd k hmem2 hbd
      have hpl := (nxt_mem hmem2).1
      generalize hq : N.getD j ((0, 0), []) = q at hmem hgiv hpl ⊢
      obtain ⟨x, y⟩ := q
      simp only [] at hgiv hpl ⊢
      simp only [vsAll, loadA, loadRow, partA, partOk, cellA, okAll, stAll, opsA, opA, allocA, newCells, okCells, storeObj, dstOk, quietOk, Nat.reduceAdd, Nat.reduceLT, Nat.reduceEqDiff, ↓reduceIte, eq_self, wtAll]
      intro i12 hh_i12; (try simp only [ite_none] at hh_i12)
      have m1 := ne_some hh_i12.2.2.2.2 q4
      have m2 := ne_some hh_i12.2.2.2.2 q5
      have m3 := ne_some hh_i12.2.2.2.2 q6
      have m4 := ne_some hh_i12.2.2.2.2 qm
      skip
      intro i13 hh_i13; (try simp only [ite_none] at hh_i13)
      have m5 := ne_some hh_i13.2.2.2.2.2.2 q4
      have m6 := ne_some hh_i13.2.2.2.2.2.2 q5
      have m7 := ne_some hh_i13.2.2.2.2.2.2 q6
      have m8 := ne_some hh_i13.2.2.2.2.2.2 qm
      skip
      simp only [vsAll, Nat.reduceLT, ↓reduceIte, eq_self, hh_i12, hh_i13]
      refine callK_pure (on_tri (i5 := i5) (i6 := i6) (im := im) k (bestT k) n (s + 1) y _ (by ((try clear h4 b1 b2 b3 c1 c2 c3 c4 c5 c6 d1 d2 d3 d4 d5 d6 g4 g5 g6 gm hh_i10 hh_i11 q10 q11 q4 q5 q6 qm r1 r2 r3 r4 r5 r6 r7 r8 h1 h2 h3' h4' e1 e2 e3 e4 e5 e6 e7 e8 hh_i12 m1 m2 m3 m4 hh_i13 m5 m6 m7 m8); omega)) hgiv (by simp only [vsAll, ↓reduceIte, eq_self, q5, r2, r6, e2, e6, m2, m6]) (by simp only [vsAll, ↓reduceIte, eq_self, q6, r3, r7, e3, e7, m3, m7]) (by simp only [vsAll, ↓reduceIte, eq_self, qm, r4, r8, e4, e8, m4, m8])) ?_
      have eok : okB p (bestV p) n s (x, y) = match tl p 0 (moreB p) joinB n (s + 1) y with | some r => decide (moreB p s x r ≤ bestV p) | none => false := rfl
      have nothing : okB p (bestV p) n s (x, y) = false → ∀ q, q < j + 1 → okB p (bestV p) n s (N.getD q ((0, 0), [])) = false := fun h q hq' => by
       by_cases e : q = j
       ·rw [e, hq]; exact h
       ·exact hbef q (by ((try clear h4 b1 b2 b3 c1 c2 c3 c4 c5 c6 d1 d2 d3 d4 d5 d6 g4 g5 g6 gm hh_i10 hh_i11 q10 q11 q4 q5 q6 qm r1 r2 r3 r4 r5 r6 r7 r8 h1 h2 h3' h4' e1 e2 e3 e4 e5 e6 e7 e8 hh_i12 m1 m2 m3 m4 hh_i13 m5 m6 m7 m8); omega))
      generalize htv : tl p 0 (moreB p) joinB n (s + 1) y = tv at eok ⊢
      cases tv with
      | none =>
        simp only [vsAll, extractA, opA, dstOk, nilSliceOp, Nat.reduceAdd, Nat.reduceLT, Nat.reduceEqDiff, Nat.reduceBEq, ↓reduceIte, eq_self]
        refine vs_draw2R [0, 0, 0, 0, 0, 0, 0, 0, 0, 0, 0] [] [0, 1, 2, 3, 4, 5, 6, 7, 8, 9, 10] (by repeat' constructor) (by decide +kernel) ?_
        simp only [vsAll, loadA, loadRow, partA, partOk, fieldAddrA, opA, guardV, dstOk, Nat.reduceLT, Nat.reduceEqDiff, ↓reduceIte, implies_true, eq_self, wtAll, h1, h2, hh_i12, hh_i13]
        refine qgcall (i64 0) (fun h => by cases h) ?_
        simp only [vsAll, binA, binLitA, intA, loadA, loadRow, partA, partOk, pickA, opA, guardV, dstOk, Nat.reduceLT, Nat.reduceEqDiff, ↓reduceIte, implies_true, eq_self, wtAll]
        exact ⟨⟨_, _, rfl⟩, _, ⟨(), nothing eok, rfl⟩, by (repeat (first | exact HSub_rfl | refine HSub_put_eq (by simp only [vsAll, ↓reduceIte, eq_self, hh_i11, h1, h2, h4', hh_i12, hh_i13]) ?_ | refine HSub_drop2 (by simp only [eq_self, q10, q11, h1, h2, hh_i12, hh_i13]) ?_ | refine HSub_keep_eq (by simp only [vsAll, ↓reduceIte, eq_self, reduceCtorEq, Nat.reduceEqDiff, h4, b1, b2, b3, c1, c2, c3, c4, c5, c6, d1, d2, d3, d4, d5, d6, h4, b1, b2, b3, c1, c2, c3, c4, c5, c6, d1, d2, d3, d4, d5, d6, h4, b1, b2, b3, c1, c2, c3, c4, c5, c6, d1, d2, d3, d4, d5, d6, h4, b1, b2, b3, c1, c2, c3, c4, c5, c6, d1, d2, d3, d4, d5, d6, g4, g5, g6, gm, hh_i10, hh_i11, q10, q11, q4, q5, q6, qm, r1, r2, r3, r4, r5, r6, r7, r8, h1, h2, h3', h4', e1, e2, e3, e4, e5, e6, e7, e8, hh_i12, m1, m2, m3, m4, hh_i13, m5, m6, m7, m8]) ?_))⟩
      | some r =>
        simp only [] at eok
        simp only [vsAll, extractA, opA, dstOk, nilSliceOp, Nat.reduceAdd, Nat.reduceLT, Nat.reduceEqDiff, Nat.reduceBEq, ↓reduceIte, eq_self, Option.getD_some]
        refine vs_draw2R [0, 0, 0, 0, 0, 0, 0, 0, 0, 0, 0] [] [0, 1, 2, 3, 4, 5, 6, 7, 8, 9, 10] (by repeat' constructor) (by decide +kernel) ?_
        simp only [vsAll, loadA, loadRow, partA, partOk, fieldAddrA, opA, guardV, dstOk, Nat.reduceLT, Nat.reduceEqDiff, ↓reduceIte, eq_self, wtAll, h1, h2, hh_i12, hh_i13]
        refine qgcall (i64 (moreB p s x r)) (fun _ => ⟨by simp only [vsAll, opA, Nat.reduceEqDiff, ↓reduceIte, eq_self], by simp only [vsAll, okAll, opsA, opA, Nat.reduceEqDiff, ↓reduceIte, eq_self], end_tri p s x r _ k hsN hpl⟩) ?_
        simp only [vsAll, binA, binLitA, intA, loadA, loadRow, partA, partOk, pickA, opA, guardV, dstOk, Nat.reduceLT, Nat.reduceEqDiff, ↓reduceIte, implies_true, eq_self, wtAll]
        refine condV (fun hc => ?_) (fun hc => ?_)
        ·rw [← eok] at hc
         simp only [vsAll]
         refine vs_draw2R [0, 0, 0, 0, 0, 1, 3] [([0, 1, 2, 3, 4], [3], 5), ([], [], 6)] [] (by repeat' constructor) (by decide +kernel) ?_
         simp only [vsAll, loadA, loadRow, partA, partOk, fieldAddrA, indexAddrA, cellA, opA, newCells, okCells, storeObj, dstOk, Nat.reduceAdd, Nat.reduceLT, Nat.reduceEqDiff, ↓reduceIte, eq_self, wtAll, hh_i11, h1, h2, hh_i12, hh_i13]
         have hfd : (nxt p s u).find? (okB p (bestV p) n s) = some (x, y) := by
          rw [hN]
          refine find_at hj (fun q hq' => ?_) hc hq
          exact hbef q hq'
         have hgs : grd p (bestV p) (n + 1) s u = x :: grd p (bestV p) n (s + 1) y := by
          show (match (nxt p s u).find? (okB p (bestV p) n s) with | some q => q.1 :: grd p (bestV p) n (s + 1) q.2 | none => []) = _
          rw [hfd]
         have hne := okB_iff.1 hc
         have nPl := k.nP
         have hx0 : updF 4 s (plF l) (i64 x.1 :: i64 x.2 :: List.drop 2 (plF l s)) = plF (l ++ [x]) := by
          funext q
          show (if q = s then _ else plF l q) = _
          by_cases e : q = s
          ·subst e
           rw [if_pos rfl, ← hll]
           simp [plF]
          ·rw [if_neg e]
           simp only [plF]
           by_cases e' : q < l.length
           ·rw [List.getD_eq_getElem?_getD, List.getD_eq_getElem?_getD, List.getElem?_append_left e']
           ·rw [List.getD_eq_getElem?_getD, List.getD_eq_getElem?_getD, List.getElem?_eq_none (by ((try clear h4 b1 b2 b3 c1 c2 c3 c4 c5 c6 d1 d2 d3 d4 d5 d6 g4 g5 g6 gm hh_i10 hh_i11 q10 q11 q4 q5 q6 qm r1 r2 r3 r4 r5 r6 r7 r8 h1 h2 h3' h4' e1 e2 e3 e4 e5 e6 e7 e8 hh_i12 m1 m2 m3 m4 hh_i13 m5 m6 m7 m8); omega)), List.getElem?_eq_none (by simp; ((try clear h4 b1 b2 b3 c1 c2 c3 c4 c5 c6 d1 d2 d3 d4 d5 d6 g4 g5 g6 gm hh_i10 hh_i11 q10 q11 q4 q5 q6 qm r1 r2 r3 r4 r5 r6 r7 r8 h1 h2 h3' h4' e1 e2 e3 e4 e5 e6 e7 e8 hh_i12 m1 m2 m3 m4 hh_i13 m5 m6 m7 m8); omega))]
         refine ⟨⟨by ((try clear h4 b1 b2 b3 c1 c2 c3 c4 c5 c6 d1 d2 d3 d4 d5 d6 g4 g5 g6 gm hh_i10 hh_i11 q10 q11 q4 q5 q6 qm r1 r2 r3 r4 r5 r6 r7 r8 h1 h2 h3' h4' e1 e2 e3 e4 e5 e6 e7 e8 hh_i12 m1 m2 m3 m4 hh_i13 m5 m6 m7 m8); omega), by ((try clear h4 b1 b2 b3 c1 c2 c3 c4 c5 c6 d1 d2 d3 d4 d5 d6 g4 g5 g6 gm hh_i10 hh_i11 q10 q11 q4 q5 q6 qm r1 r2 r3 r4 r5 r6 r7 r8 h1 h2 h3' h4' e1 e2 e3 e4 e5 e6 e7 e8 hh_i12 m1 m2 m3 m4 hh_i13 m5 m6 m7 m8); omega)⟩, by ((try clear h4 b1 b2 b3 c1 c2 c3 c4 c5 c6 d1 d2 d3 d4 d5 d6 g4 g5 g6 gm hh_i10 hh_i11 q10 q11 q4 q5 q6 qm r1 r2 r3 r4 r5 r6 r7 r8 h1 h2 h3' h4' e1 e2 e3 e4 e5 e6 e7 e8 hh_i12 m1 m2 m3 m4 hh_i13 m5 m6 m7 m8); omega), ⟨_, _, rfl⟩, loopD_next (s + 1, y, l ++ [x], G.set did dfO, did :: lm)
          ⟨⟨by simp only []; ((try clear h4 b1 b2 b3 c1 c2 c3 c4 c5 c6 d1 d2 d3 d4 d5 d6 g4 g5 g6 gm hh_i10 hh_i11 q10 q11 q4 q5 q6 qm r1 r2 r3 r4 r5 r6 r7 r8 h1 h2 h3' h4' e1 e2 e3 e4 e5 e6 e7 e8 hh_i12 m1 m2 m3 m4 hh_i13 m5 m6 m7 m8); omega), hgiv, by simp [hll], ?_, ?_⟩, hG.cons h2.2.2, by simp only [vsAll, ↓reduceIte, eq_self, q10, h2], by simp only [vsAll, ↓reduceIte, eq_self, q11, h2], by simp only [vsAll, ↓reduceIte, eq_self, q4, e5], by simp only [vsAll, ↓reduceIte, eq_self, q5, e6], by simp only [vsAll, ↓reduceIte, eq_self, q6, e7], by simp only [vsAll, ↓reduceIte, eq_self, qm, e8]⟩ (by simp only []; ((try clear h4 b1 b2 b3 c1 c2 c3 c4 c5 c6 d1 d2 d3 d4 d5 d6 g4 g5 g6 gm hh_i10 hh_i11 q10 q11 q4 q5 q6 qm r1 r2 r3 r4 r5 r6 r7 r8 h1 h2 h3' h4' e1 e2 e3 e4 e5 e6 e7 e8 hh_i12 m1 m2 m3 m4 hh_i13 m5 m6 m7 m8); omega)) ?_ rfl ?_⟩
         ·simp only []
          rw [hgr, hgs, show p.ps.length - (s + 1) = n by ((try clear h4 b1 b2 b3 c1 c2 c3 c4 c5 c6 d1 d2 d3 d4 d5 d6 g4 g5 g6 gm hh_i10 hh_i11 q10 q11 q4 q5 q6 qm r1 r2 r3 r4 r5 r6 r7 r8 h1 h2 h3' h4' e1 e2 e3 e4 e5 e6 e7 e8 hh_i12 m1 m2 m3 m4 hh_i13 m5 m6 m7 m8); omega), List.append_assoc]
          rfl
         ·simp only []
          rw [show p.ps.length - (s + 1) = n by ((try clear h4 b1 b2 b3 c1 c2 c3 c4 c5 c6 d1 d2 d3 d4 d5 d6 g4 g5 g6 gm hh_i10 hh_i11 q10 q11 q4 q5 q6 qm r1 r2 r3 r4 r5 r6 r7 r8 h1 h2 h3' h4' e1 e2 e3 e4 e5 e6 e7 e8 hh_i12 m1 m2 m3 m4 hh_i13 m5 m6 m7 m8); omega)]
          obtain ⟨t, ht, hle⟩ := hne
          refine ⟨t, ht, ?_⟩
          simp only [valT, moreB] at hle ⊢
          ((try clear h4 b1 b2 b3 c1 c2 c3 c4 c5 c6 d1 d2 d3 d4 d5 d6 g4 g5 g6 gm hh_i10 hh_i11 q10 q11 q4 q5 q6 qm r1 r2 r3 r4 r5 r6 r7 r8 h1 h2 h3' h4' e1 e2 e3 e4 e5 e6 e7 e8 hh_i12 m1 m2 m3 m4 hh_i13 m5 m6 m7 m8); omega)
         ·simp only [vsAll, Nat.reduceEqDiff, ↓reduceIte, eq_self]
         ·simp only [hx0]; (repeat (first | exact HSub_rfl | refine HSub_put_eq (by simp only [vsAll, ↓reduceIte, eq_self, hh_i11, h1, h2, h4', hh_i12, hh_i13]) ?_ | refine HSub_drop2 (by simp only [eq_self, q10, q11, h1, h2, hh_i12, hh_i13]) ?_ | refine HSub_keep_eq (by simp only [vsAll, ↓reduceIte, eq_self, reduceCtorEq, Nat.reduceEqDiff, h4, b1, b2, b3, c1, c2, c3, c4, c5, c6, d1, d2, d3, d4, d5, d6, h4, b1, b2, b3, c1, c2, c3, c4, c5, c6, d1, d2, d3, d4, d5, d6, h4, b1, b2, b3, c1, c2, c3, c4, c5, c6, d1, d2, d3, d4, d5, d6, h4, b1, b2, b3, c1, c2, c3, c4, c5, c6, d1, d2, d3, d4, d5, d6, g4, g5, g6, gm, hh_i10, hh_i11, q10, q11, q4, q5, q6, qm, r1, r2, r3, r4, r5, r6, r7, r8, h1, h2, h3', h4', e1, e2, e3, e4, e5, e6, e7, e8, hh_i12, m1, m2, m3, m4, hh_i13, m5, m6, m7, m8]) ?_))
        ·rw [← eok] at hc
         simp only [vsAll, ↓reduceIte, eq_self]
         exact ⟨⟨_, _, rfl⟩, _, ⟨(), nothing hc, rfl⟩, by (repeat (first | exact HSub_rfl | refine HSub_put_eq (by simp only [vsAll, ↓reduceIte, eq_self, hh_i11, h1, h2, h4', hh_i12, hh_i13]) ?_ | refine HSub_drop2 (by simp only [eq_self, q10, q11, h1, h2, hh_i12, hh_i13]) ?_ | refine HSub_keep_eq (by simp only [vsAll, ↓reduceIte, eq_self, reduceCtorEq, Nat.reduceEqDiff, h4, b1, b2, b3, c1, c2, c3, c4, c5, c6, d1, d2, d3, d4, d5, d6, h4, b1, b2, b3, c1, c2, c3, c4, c5, c6, d1, d2, d3, d4, d5, d6, h4, b1, b2, b3, c1, c2, c3, c4, c5, c6, d1, d2, d3, d4, d5, d6, h4, b1, b2, b3, c1, c2, c3, c4, c5, c6, d1, d2, d3, d4, d5, d6, g4, g5, g6, gm, hh_i10, hh_i11, q10, q11, q4, q5, q6, qm, r1, r2, r3, r4, r5, r6, r7, r8, h1, h2, h3', h4', e1, e2, e3, e4, e5, e6, e7, e8, hh_i12, m1, m2, m3, m4, hh_i13, m5, m6, m7, m8]) ?_))⟩
     ·rintro ⟨⟩ hbef lid did lo h1 h2 h3'
      exfalso
      obtain ⟨t, ht, hle⟩ := hext
      simp only [cont, List.mem_flatMap, List.mem_map] at ht
      obtain ⟨q, hqm, t', ht', rfl⟩ := ht
      rw [hN] at hqm
      obtain ⟨j, hj, rfl⟩ := getD_mem ((0, 0), []) hqm
      have := hbef j (by rw [nextL_eq, hN, List.length_map]; exact hj)
      rw [okB_iff.2 ⟨t', ht', hle⟩] at this
      cases this
    ·have es : s = p.ps.length := by ((try clear h4 b1 b2 b3 c1 c2 c3 c4 c5 c6 d1 d2 d3 d4 d5 d6 g4 g5 g6 gm hh_i10 hh_i11 q10 q11 q4 q5 q6 qm r1 r2 r3 r4 r5 r6 r7 r8); omega)
     subst es
     simp only [vsAll, loadA, loadRow, partA, partOk, fieldAddrA, lenA, nilCheckA, cellA, cellsA, makeSliceA, opA, newCells, okCells, storeObj, sliceA, boundsA, opO, okO, copyA, dstOk, nilSliceOp, Nat.reduceSub, Nat.reduceLT, Nat.reduceEqDiff, Nat.reduceBEq, ↓reduceIte, eq_self, wtAll, hh_i11, q4, r1, r5]
     refine ⟨by ((try clear h4 b1 b2 b3 c1 c2 c3 c4 c5 c6 d1 d2 d3 d4 d5 d6 g4 g5 g6 gm hh_i10 hh_i11 q10 q11 q4 q5 q6 qm r1 r2 r3 r4 r5 r6 r7 r8); omega), by ((try clear h4 b1 b2 b3 c1 c2 c3 c4 c5 c6 d1 d2 d3 d4 d5 d6 g4 g5 g6 gm hh_i10 hh_i11 q10 q11 q4 q5 q6 qm r1 r2 r3 r4 r5 r6 r7 r8); omega), by ((try clear h4 b1 b2 b3 c1 c2 c3 c4 c5 c6 d1 d2 d3 d4 d5 d6 g4 g5 g6 gm hh_i10 hh_i11 q10 q11 q4 q5 q6 qm r1 r2 r3 r4 r5 r6 r7 r8); omega), ?_⟩
     intro io hh_io; (try simp only [ite_none] at hh_io)
     simp only [vsAll, ↓reduceIte, eq_self, hh_io]
     refine ⟨fun q hq => ⟨rfl, rfl, trivial⟩, ?_⟩
     have ecp : cpF 0 (min 4 p.ps.length) (fun x => [i64 0, i64 0]) 0 (fun i => plF l i) = plF l := by
      funext q
      simp only [cpF, Nat.zero_add, Nat.sub_zero, Nat.zero_le, true_and]
      split
      ·rfl
      ·simp only [plF]
       rw [List.getD_eq_getElem?_getD, List.getElem?_eq_none (by have := k.nP; ((try clear h4 b1 b2 b3 c1 c2 c3 c4 c5 c6 d1 d2 d3 d4 d5 d6 g4 g5 g6 gm hh_i10 hh_i11 q10 q11 q4 q5 q6 qm r1 r2 r3 r4 r5 r6 r7 r8 hh_io); omega))]
       rfl
     have el : l = bestP p := by
      rw [← eg, hgr, Nat.sub_self]
      simp [grd]
     rw [ecp]
     have u0' := ne_some hh_io.2.2 q4
     skip
     simp only [vsAll, Nat.reduceLT, ↓reduceIte, eq_self, u0']
     refine popM_many (H := (B.set io (.row 2 p.ps.length (plF l))).set i4 (.box 1 1 fun _ => [i64 0])) hG.nodup (fun d hd' => ?_) (fun d hd' => ?_) ?_ (fun B K' => rfl) (fun B' hB' hs => ?_)
     ·have hp := hG.at' d hd'
      have z1 : ¬ d = i10 := fun e => by rw [e, q10] at hp; cases hp
      have z2 : ¬ d = i11 := fun e => by rw [e, q11] at hp; cases hp
      have z3 : ¬ d = i4 := fun e => by rw [e, q4] at hp; cases hp
      have z4 : ¬ d = io := fun e => by rw [e, hh_io.2.2] at hp; cases hp
      simp only [vsAll, ↓reduceIte, eq_self, z1, z2, z3, z4, hp]
     ·have hp := hG.at' d hd'
      have z3 : ¬ d = i4 := fun e => by rw [e, q4] at hp; cases hp
      have z4 : ¬ d = io := fun e => by rw [e, hh_io.2.2] at hp; cases hp
      rw [Hp.set_ne _ _ z3, Hp.set_ne _ _ z4]
      exact hG.base d hd'
     ·rw [Hp.set_set]
      refine HSub.set (HSub.set ?_ (.refl _)) (.refl _)
      exact HSub_drop2 (hG.no q11) (HSub_drop2 (hG.no q10) hG.sub)
     ·have hio : B io = none := hG.no hh_io.2.2
      have hioH : H io = none := by
       cases e : H io with
       | none => rfl
       | some o =>
         obtain ⟨o', e1, _⟩ := hBH (.box 1 1 fun _ => [i64 0]) io o e
         rw [Hp.set_ne _ _ u0'.1, hio] at e1
         cases e1
      have v4 : B' i4 = some (.box 1 1 fun _ => [i64 0]) := hB' i4 _ (Hp.set_same _ _ _) (by simp)
      simp only [vsAll, loadA, loadRow, partA, partOk, resA, retA.eq_2, Nat.reduceLT, Nat.reduceEqDiff, ↓reduceIte, eq_self, wtAll, Tryz.results80, v4]
      refine ⟨i4, _, rfl, v4, H.set io (.row 2 p.ps.length (plF l)), ?_, .inl ⟨er, io, hioH, by rw [hbl], by rw [hbl, el]⟩⟩
      refine HSub.trans hs ?_
      have ec : (B.set io (.row 2 p.ps.length (plF l))).set i4 (.box 1 1 fun _ => [i64 0]) = (B.set i4 (.box 1 1 fun _ => [i64 0])).set io (.row 2 p.ps.length (plF l)) := by
       funext q
       by_cases e1 : q = i4
       ·subst e1
        rw [Hp.set_same, Hp.set_ne _ _ u0'.2, Hp.set_same]
       ·rw [Hp.set_ne _ _ e1]
        by_cases e2 : q = io
        ·subst e2; rw [Hp.set_same, Hp.set_same]
        ·rw [Hp.set_ne _ _ e2, Hp.set_ne _ _ e2, Hp.set_ne _ _ e1]
      rw [ec]
      exact HSub.set (hBH _) (.refl _)
/-- The plan that the program's Best gives, frozen. -/
theorem wbest_tri (p : Pt) (H : Hp) (kn : Near p) : PTri Tryz.prog (fnA 80) [p.av] H (.tuple [i64 (bestV p), bestA p, i64 (rgtE p true)]) := by
 refine Tri.thawD (wbestM_tri p H kn) fun r H' hr => ?_
 rcases hr with ⟨he, id, hid, rfl, rfl⟩ | ⟨hn, rfl, rfl⟩
 ·right
  refine ⟨_, .tuple [i64 (bestV p), bestA p, i64 (rgtE p true)], id, 2, (bestP p).length, plF (bestP p), rfl, Hp.set_same _ _ _, ?_, rfl, set_del hid⟩
  rw [bestA, if_pos he, he]
  refine .tuple rfl fun q hq => ?_
  match q, hq with
  | 0, _ => exact .same _
  | 1, _ => exact .hit fun i hi => rfl
  | 2, _ => exact .same _
 ·refine .inl ⟨?_, rfl⟩
  rw [bestA, bestV, if_neg hn, if_neg hn]
end Go.Proofs.YtdopkbldjagmlaaGreat
end
section
set_option linter.unusedVariables false
set_option linter.unusedSimpArgs false
set_option maxHeartbeats 4000000
set_option maxRecDepth 100000
namespace Go.Proofs.YtdopkbldjagmlaaGreat
open Go.V
abbrev gT : RefT := ⟨121, false⟩
theorem gwithin_tri (n low high : Int) (H : Hp) : PTri Tryz.prog (fnA 53) [i64 n, i64 low, i64 high] H (boo (decide (low ≤ n) && decide (n ≤ high))) := by
 refine tri_v0 (fun _ => false) Tryz.func53 (by kernel_rfl) rfl (by simp only [List.length_append, List.length_cons, List.length_nil, Tryz.ntmps53]; decide) ?_
 simp only [vsAll, binA, binLitA, intA, pickA, opA, guardV, dstOk, nilSliceOp, resA, argFr, retA.eq_1, Nat.reduceLT, Nat.reduceEqDiff, ↓reduceIte, reduceCtorEq, implies_true, eq_self, Tryz.ntmps53, Tryz.results53]
/-- Gangs that are looked at; what is last is when seams are ready. -/
abbrev gC (g : Gg) (a : AV) : List AV := [smAV g.sm, cwAV g.cw, i64 g.pt.hr, i64 g.pt.fro, i64 g.pt.per, intsAV g.pt.fs, psAV g.pt.ps, a]
abbrev gQ (g : Gg) (a : AV) : AV := .rptr 1 8 (fun _ => gC g a) 0 0
theorem wseam_tri (g : Gg) (id : Nat) (n : Int) (H : Hp) (k : NearG g) (ho : H id = some (.box 8 1 fun _ => gC g nilA)) : PTri Tryz.prog (fnA 39) [.ref id 0 8 0 0, i64 n] H (boo (isSm g n)) := by
 have := k.nS
 refine tri_v0 (fun _ => false) Tryz.func39 (by kernel_rfl) rfl (by simp only [List.length_append, List.length_cons, List.length_nil, Tryz.ntmps39]; decide) ?_
 skip
 simp only [vsAll, binA, binLitA, intA, loadA, loadRow, partA, partOk, fieldAddrA, lenA, nilCheckA, okAll, stAll, opsA, opA, dstOk, nilA, nilSliceOp, argFr, Nat.reduceLT, Nat.reduceEqDiff, ↓reduceIte, reduceCtorEq, eq_self, wtAll, Tryz.ntmps39, ho]
 refine ⟨by simp only [InR_i64]; ((try clear ho); omega), callK_pure (gwithin_tri _ _ _ _) ?_⟩
 simp only [vsAll, opA, dstOk, nilSliceOp, resA, retA.eq_1, Nat.reduceLT, ↓reduceIte, eq_self, Tryz.results39]
 rfl
theorem wcrew_tri (g : Gg) (id : Nat) (n : Int) (H : Hp) (k : NearG g) (ho : H id = some (.box 8 1 fun _ => gC g nilA)) : PTri Tryz.prog (fnA 52) [.ref id 0 8 0 0, i64 n] H (boo (isCw g n)) := by
 have := k.nC
 refine tri_v0 (fun _ => false) Tryz.func52 (by kernel_rfl) rfl (by simp only [List.length_append, List.length_cons, List.length_nil, Tryz.ntmps52]; decide) ?_
 skip
 simp only [vsAll, binA, binLitA, intA, loadA, loadRow, partA, partOk, fieldAddrA, lenA, nilCheckA, okAll, stAll, opsA, opA, dstOk, nilA, nilSliceOp, argFr, Nat.reduceLT, Nat.reduceEqDiff, ↓reduceIte, reduceCtorEq, eq_self, wtAll, Tryz.ntmps52, ho]
 refine ⟨by simp only [InR_i64]; ((try clear ho); omega), callK_pure (gwithin_tri _ _ _ _) ?_⟩
 simp only [vsAll, opA, dstOk, nilSliceOp, resA, retA.eq_1, Nat.reduceLT, ↓reduceIte, eq_self, Tryz.results52]
 rfl
theorem with_tri (a n : Nat) (H : Hp) (ha : a < 2 ^ 60) (hn : n < 60) : PTri Tryz.prog (fnA 65) [u64 (a : Nat), i64 n] H (u64 ((a ||| 2 ^ n : Nat) : Int)) := by
 have hp : 2 ^ n ≤ 2 ^ 59 := Nat.pow_le_pow_right (by decide) (by omega)
 have ep : (1 : Int) * 2 ^ n = ((2 ^ n : Nat) : Int) := by rw [Int.one_mul]; simp
 refine tri_v0 (fun _ => false) Tryz.func65 (by kernel_rfl) rfl (by simp only [List.length_append, List.length_cons, List.length_nil, Tryz.ntmps65]; decide) ?_
 simp only [vsAll, binA, binLitA, intA, opA, dstOk, nilSliceOp, resA, argFr, retA.eq_1, Nat.reduceLT, Nat.reduceEqDiff, ↓reduceIte, reduceCtorEq, eq_self, Tryz.ntmps65, Tryz.results65, ep]
 clear ep
 generalize 2 ^ n = p at hp ⊢
 refine ⟨⟨by omega, by omega, by simp only [InR_u64]; omega⟩, by omega, by omega, by simp only [InR_u64]; omega, by simp only [InR_u64]; omega⟩
theorem ghas_tri (a n : Nat) (H : Hp) (ha : a < 2 ^ 60) (hn : n < 60) : PTri Tryz.prog (fnA 95) [u64 (a : Nat), i64 n] H (boo (a.testBit n)) := by
 refine tri_v0 (fun _ => false) Tryz.func95 (by kernel_rfl) rfl (by simp only [List.length_append, List.length_cons, List.length_nil, Tryz.ntmps95]; decide) ?_
 simp only [vsAll, binA, binLitA, intA, opA, dstOk, nilSliceOp, resA, argFr, retA.eq_1, Nat.reduceLT, Nat.reduceEqDiff, Int.reduceLE, Int.reduceToNat, ↓reduceIte, reduceCtorEq, eq_self, Tryz.ntmps95, Tryz.results95]
 have h1 : (a : Int) / 2 ^ n = ((a / 2 ^ n : Nat) : Int) := by simp
 have h2 : a / 2 ^ n ≤ a := Nat.div_le_self _ _
 refine ⟨⟨by omega, by omega, rfl⟩, ?_, congrArg _ (congrArg _ (congrArg _ (bit_eq a n)))⟩
 rw [h1]
 generalize a / 2 ^ n = q at *
 simp only [InR_u64]
 omega
theorem without_tri (a b : Nat) (H : Hp) (ha : a < 2 ^ 60) (hb : b < 2 ^ 60) : PTri Tryz.prog (fnA 72) [u64 (a : Nat), u64 (b : Nat)] H (u64 (dif a b : Nat)) := by
 refine tri_v0 (fun _ => false) Tryz.func72 (by kernel_rfl) rfl (by simp only [List.length_append, List.length_cons, List.length_nil, Tryz.ntmps72]; decide) ?_
 simp only [vsAll, binA, binLitA, intA, opA, dstOk, nilSliceOp, resA, argFr, retA.eq_1, Nat.reduceLT, Nat.reduceEqDiff, ↓reduceIte, reduceCtorEq, eq_self, Tryz.ntmps72, Tryz.results72]
 exact ⟨⟨by omega, by omega, by simp only [InR_u64]; omega, by simp only [InR_u64]; omega⟩, rfl⟩
theorem every_tri (n : Nat) (H : Hp) (hn : n ≤ 5) : PTri Tryz.prog (fnA 63) [i64 n] H (u64 ((2 ^ n - 1 : Nat) : Int)) := by
 refine tri_v0 (fun _ => false) Tryz.func63 (by kernel_rfl) rfl (by simp only [List.length_append, List.length_cons, List.length_nil, Tryz.ntmps63]; decide) ?_
 simp only [vsAll, binA, binLitA, intA, opA, dstOk, nilSliceOp, resA, argFr, retA.eq_1, Nat.reduceLT, ↓reduceIte, reduceCtorEq, eq_self, Tryz.ntmps63, Tryz.results63]
 have : n = 0 ∨ n = 1 ∨ n = 2 ∨ n = 3 ∨ n = 4 ∨ n = 5 := by omega
 rcases this with rfl | rfl | rfl | rfl | rfl | rfl <;> exact ⟨⟨by decide, by decide, by simp only [InR_u64]; decide⟩, by simp only [InR_u64]; decide, rfl⟩
theorem ssize_tri (s : Nat) (H : Hp) (hs : s < 4096) : PTri Tryz.prog (fnA 99) [u64 s] H (i64 (pop s)) := by
 refine tri_v0 (fun _ => false) Tryz.func99 (by kernel_rfl) rfl (by simp only [List.length_append, List.length_cons, List.length_nil, Tryz.ntmps99]; decide) ?_
 simp only [vsAll, okAll, stAll, opsA, opA, dstOk, nilSliceOp, argFr, Nat.reduceLT, ↓reduceIte, reduceCtorEq, eq_self, Tryz.ntmps99]
 refine callK_pure (onesCount_tri s H hs) ?_
 simp only [vsAll, opA, dstOk, nilSliceOp, resA, retA.eq_1, Nat.reduceLT, ↓reduceIte, eq_self, Tryz.results99]
theorem max2_tri (a b : Int) (H : Hp) : PTri Tryz.prog (fnA 115) [.rsl 2 1 fun i => [[i64 a], [i64 b]].getD i []] H (i64 (max a b)) := by
 refine tri_v0 (fun _ => false) Tryz.func115 (by kernel_rfl) rfl (by simp only [List.length_append, List.length_cons, List.length_nil, Tryz.ntmps115]; decide) ?_
 simp only [vsAll, binA, binLitA, intA, lenA, opA, dstOk, nilSliceOp, argFr, Nat.reduceLT, ↓reduceIte, reduceCtorEq, eq_self, wtAll, Tryz.ntmps115]
 refine condD (fun hd => by omega) fun hd => ?_
 simp only [vsAll, loadA, loadRow, partA, partOk, indexAddrA, opA, dstOk, nilSliceOp, argFr, Nat.reduceLT, Int.reduceLE, Int.reduceToNat, ↓reduceIte, reduceCtorEq, eq_self, wtAll]
 refine ⟨by omega, ?_⟩
 refine vs_loop (σ := Nat) (fun j => 1 ≤ j ∧ j ≤ 2) (fun j => [(0, .rsl 2 1 fun i => [[i64 a], [i64 b]].getD i []), (3, i64 (if j = 1 then a else max a b)), (4, i64 j)]) (fun _ => H) (fun j => 2 - j) 1 ⟨by omega, by omega⟩ ?_ HSub_rfl fun j hj => ?_
 ·simp only [vsAll, argFr, Nat.reduceEqDiff, ↓reduceIte, reduceCtorEq, eq_self, Int.natCast_one]
 ·obtain ⟨hj1, hj2⟩ := hj
  have hj : j = 1 ∨ j = 2 := by omega
  rcases hj with rfl | rfl
  ·simp only [vsAll, binA, binLitA, intA, lenA, opA, dstOk, Nat.reduceLT, Nat.reduceEqDiff, ↓reduceIte, reduceCtorEq, eq_self, wtAll]
   refine condD (fun hd => ?_) (fun hd => by omega)
   simp only [vsAll, binA, binLitA, intA, loadA, loadRow, partA, partOk, indexAddrA, mmA, okAll, stAll, opsA, opA, dstOk, nilSliceOp, Nat.reduceLT, Nat.reduceEqDiff, ↓reduceIte, reduceCtorEq, eq_self, wtAll]
   refine ⟨⟨by omega, by omega⟩, by simp only [InR_i64]; omega, loop_next 2 ⟨by omega, by omega⟩ (by omega) ?_ HSub_rfl⟩
   have e : ((1 : Nat) : Int) + 1 = ((2 : Nat) : Int) := rfl
   have e2 : (if (2 : Nat) = 1 then a else max a b) = max a b := if_neg (by decide)
   rw [e2]
   simp only [vsAll, Nat.reduceEqDiff, ↓reduceIte, reduceCtorEq, eq_self, e]
  ·have e2 : (if (2 : Nat) = 1 then a else max a b) = max a b := if_neg (by decide)
   rw [e2]
   simp only [vsAll, binA, binLitA, intA, lenA, opA, dstOk, Nat.reduceLT, Nat.reduceEqDiff, ↓reduceIte, reduceCtorEq, eq_self, wtAll]
   refine condD (fun hd => by omega) (fun hd => ?_)
   simp only [vsAll, opA, dstOk, nilSliceOp, resA, retA.eq_1, Nat.reduceLT, Nat.reduceEqDiff, ↓reduceIte, reduceCtorEq, eq_self, Tryz.results115]
theorem later_tri (a b : Int) (H : Hp) : PTri Tryz.prog (fnA 82) [.rsl 2 1 fun i => [[i64 a], [i64 b]].getD i []] H (i64 (max a b)) := by
 refine tri_v0 (fun _ => false) Tryz.func82 (by kernel_rfl) rfl (by simp only [List.length_append, List.length_cons, List.length_nil, Tryz.ntmps82]; decide) ?_
 simp only [vsAll, okAll, stAll, opsA, opA, dstOk, nilSliceOp, argFr, Nat.reduceLT, ↓reduceIte, reduceCtorEq, eq_self, Tryz.ntmps82]
 refine callK_pure (max2_tri a b H) ?_
 simp only [vsAll, opA, dstOk, nilSliceOp, resA, retA.eq_1, Nat.reduceLT, ↓reduceIte, eq_self, Tryz.results82]
theorem gask_tri (b : Bool) (e : Int) (H : Hp) : Tri Tryz.prog (fnA 40) [boo b, i64 e] H fun r H' => H' = H ∧ r = if b then .ret (.tuple []) else .pan (.iface 121 (i64 e)) := by
 refine tri_v0 (fun _ => false) Tryz.func40 (by kernel_rfl) rfl (by simp only [List.length_append, List.length_cons, List.length_nil, Tryz.ntmps40]; decide) ?_
 simp only [vsAll, unA, opA, dstOk, argFr, Nat.reduceLT, ↓reduceIte, eq_self, Tryz.ntmps40]
 refine condV (fun hc => ?_) (fun hc => ?_)
 ·simp only [Bool.not_eq_true'] at hc
  subst hc
  simp only [vsAll, ifaceA, opA, dstOk, panA, argFr, Nat.reduceLT, Nat.reduceEqDiff, ↓reduceIte, eq_self, wtAll]
 ·simp only [Bool.not_eq_false'] at hc
  subst hc
  simp only [vsAll, resA, retA.eq_2, ↓reduceIte, eq_self, Tryz.results40]

theorem gask_call {b : Bool} {e : Int} {H : Hp} {K : AV → Hp → Prop} {Kp : AV → Hp → Prop} (h1 : b = true → K (.tuple []) H) (h2 : b = false → Kp (.iface 121 (i64 e)) H) :
  CallK Tryz.prog (fnA 40) [boo b, i64 e] H K Kp := by
 refine ⟨_, gask_tri b e H, ?_⟩
 rintro r H' ⟨rfl, rfl⟩
 cases b
 ·exact h2 rfl
 ·exact h1 rfl


/-- What answer does. -/
-- tri_v0 (fun _ => false) Tryz.func36 (by kernel_rfl) rfl (by simp only [List.length_append, List.length_cons, List.length_nil, Tryz.ntmps36]; decide) ?_
theorem gans : AnsOk Tryz.prog 36 gT := by
 have hn : (1 : Nat) ≤ Tryz.f36.ntmps := by rw [Tryz.ntmps36]; decide
 refine ⟨fun H id f S vs ho hH ha => ?_, fun H id f c S vs ho hH ha => ?_, fun vs w => by kernel_rfl⟩
 ·refine (ansD (args := [.ref id 0 1 0 0]) (t5 := 5) (t2 := 2) (Q := fun H' => H' = H) (u' := .returning) (rv := .lit .nilIface) (cv := .nilIface) Tryz.func36 rfl rfl hn (fun c₀ cs hu => .inr ⟨by simp [recoverD, hu], rfl, rfl⟩) hH ha (.lit _) ?_ (by rw [Tryz.ntmps36]; decide) (by rw [Tryz.ntmps36]; decide)).mono ?_
  ·refine wps_of_vs (m := fun _ => false) ?_
   simp only [vsAll, binA, binLitA, nilA2, isConst, opA, dstOk, Nat.reduceLT, ↓reduceIte, reduceCtorEq, eq_self, wtAll, Tryz.ntmps36]
  ·rintro e u w ⟨h1, h2, S', H', h3, h4, h5, rfl⟩
   exact ⟨h1, h2, S', h3, h4, h5⟩
 ·refine (ansD (args := [.ref id 0 1 0 0]) (t5 := 5) (t2 := 2) (Q := fun H' => H' = H.set id (.box 1 1 fun _ => [i64 c])) (u' := .panicking [{ v := Go.V.refusal gT c, recovered := true }]) (rv := .iface 121 (i64 c)) (cv := Go.V.refusal gT c) Tryz.func36 rfl rfl hn (fun c₀ cs hu => .inl (by simp [recoverD, hu])) hH ha (.iface (.lit _)) ?_ (by rw [Tryz.ntmps36]; decide) (by rw [Tryz.ntmps36]; decide)).mono ?_
  ·refine wps_of_vs (m := fun _ => false) ?_
   obtain ⟨bb, cc, e, q1, q2, q3, q4⟩ := hH.obj id _ ho
   have q5 := q4.2.1 0 (by omega)
   simp only [vsAll, binA, nilA2, unA, extractA, nilCheckA, cellA, cellsA, opA, newCells, okCells, storeObj, taA, dstOk, nilSliceOp, argFr, Nat.reduceAdd, Nat.reduceLT, Nat.reduceEqDiff, ↓reduceIte, reduceCtorEq, eq_self, wtAll, Tryz.ntmps36, ho]
   have : (f 0).drop 1 = [] := List.drop_eq_nil_of_le (by omega)
   rw [this]
  ·rintro e u w ⟨h1, h2, S', H', h3, h4, h5, rfl⟩
   exact ⟨h1, h2, S', h3, h4, h5⟩


end Go.Proofs.YtdopkbldjagmlaaGreat
end
section
set_option linter.unusedVariables false
set_option linter.unusedSimpArgs false
namespace Go.V
set_option linter.unusedSectionVars false
variable [Inhabited GivT]
/-- Yields, one after another, each of which keeps one object more. -/
def IterB (P : Program) (y : AV) (Pre : Hp → Prop) : List (List AV) → Hp → (Hp → Prop) → Prop
 | [], H, K => K H
 | x :: l, H, K => Pre H ∧ ∀ j o, H j = none → Tri P y x (H.set j o) fun r H' => (r = .ret (.lit (.bool true)) ∧ ∃ H1, H1 j = none ∧ H' = H1.set j o ∧ IterB P y Pre l H1 K) ∨ (r = .ret (.lit (.bool false)) ∧ K H')
theorem iter_seqB {P : Program} {y : AV} {Pre : Hp → Prop} {L : List (List AV)} {σ : Type} {inv : Nat → σ → Prop} {G : Nat → σ → Hp} {K : Hp → Prop} {B : Hp}
  (hG : ∀ i x, inv i x → ∀ j, (G i x) j = none ↔ B j = none)
  (h : ∀ i v x, L[i]? = some v → inv i x → Pre (G i x) ∧ ∀ j o, B j = none → Tri P y v ((G i x).set j o) fun r H' => (r = .ret (.lit (.bool true)) ∧ ∃ x', inv (i + 1) x' ∧ H' = (G (i + 1) x').set j o) ∨ (r = .ret (.lit (.bool false)) ∧ K H'))
  (hK : ∀ x, inv L.length x → K (G L.length x)) (x0 : σ) (h0 : inv 0 x0) : IterB P y Pre L (G 0 x0) K := by
 have key : ∀ (l : List (List AV)) (j : Nat) (x : σ), L.drop j = l → j ≤ L.length → inv j x → IterB P y Pre l (G j x) K := by
  intro l
  induction l with
  | nil =>
    intro j x hl hj hi
    have : j = L.length := by
     have := congrArg List.length hl
     simp at this; omega
    subst this; exact hK x hi
  | cons v l ih =>
    intro j x hl hj hi
    have hx : L[j]? = some v := by
     have := congrArg (fun q => q[0]?) hl
     simpa using this
    have hj' : j < L.length := (List.getElem?_eq_some_iff.1 hx).1
    obtain ⟨h1, h2⟩ := h j v x hx hi
    refine ⟨h1, fun q o hq => (h2 q o ((hG j x hi q).1 hq)).mono ?_⟩
    rintro r H' (⟨rfl, x', hi', rfl⟩ | ⟨rfl, hk⟩)
    ·refine .inl ⟨rfl, _, (hG (j + 1) x' hi' q).2 ((hG j x hi q).1 hq), rfl, ih (j + 1) x' ?_ hj' hi'⟩
     rw [← List.drop_drop, hl]; rfl
    ·exact .inr ⟨rfl, hk⟩
 exact key L 0 x0 rfl (Nat.zero_le _) h0
theorem Hp.set_comm (H : Hp) {i j : Nat} (o o' : Obj) (h : i ≠ j) : (H.set i o).set j o' = (H.set j o').set i o := by
 funext k
 simp only [Hp.set]
 by_cases e1 : k = j
 ·subst e1; rw [if_pos rfl, if_neg (fun e => h e.symm), if_pos rfl]
 ·rw [if_neg e1]
  by_cases e2 : k = i
  ·subst e2; rw [if_pos rfl, if_pos rfl]
  ·rw [if_neg e2, if_neg e2, if_neg e1]
section
variable {P : Program} {m : Option Tmp → Bool} {n : Nat} {k : List It} {s : Fr} {ds : List AD} {H : Hp} {Q : Post}
theorem vs_rangeB {g : Operand} {ps : Array Tmp} {assign body : Code} {f : FuncId} {fn : Func} {c : Code} {caps : List AV} {σ : Type} (L : List (List AV)) (inv : Nat → σ → Prop) (hp : Nat → σ → Hp) (x0 : σ) (Pre : Hp → Prop)
  (hf : P.funcs[f]? = some fn) (hname : (fn.name == "runtime.NumGoroutine") = false) (hb : fn.body = some c)
  (hg : (opA s g).ok) (hgv : (opA s g).st = .func (.func f) [] caps) (hps : ∀ t ∈ ps.toList, t < n) (hpl : ∀ x ∈ L, x.length = ps.size)
  (hit : ∀ yf H K, Pre H → IterB P (.func yf [] []) Pre L H K → Tri P (.func (.func f) [] caps) [.func yf [] []] H fun r H' => (∃ v, r = .ret v) ∧ K H')
  (h0 : inv 0 x0) (hH : Go.V.HSub H (hp 0 x0)) (hfr : ∀ i x, inv i x → ∀ id, hp i x id = none ↔ hp 0 x0 id = none)
  (hpre : ∀ i x, inv i x → ∀ lid did o1 o2, hp 0 x0 lid = none → hp 0 x0 did = none → Pre (((hp i x).set did o1).set lid o2))
  (round : ∀ j o i v x, L[i]? = some v → inv i x → hp 0 x0 j = none → ∀ lid did l (lo : LoopState → Option Code → Obj), hp 0 x0 lid = none → hp 0 x0 did = none → lid ≠ did → ¬ j = lid → ¬ j = did →
   VS (some l) P m n [.code assign] (putAll s ps.toList v) [] ((((hp i x).set j o).set did (.raw (.deferred (some [])))).set lid (lo .ready none)) (AsgS P m n l body k Q (fun nx => ∃ x', inv (i + 1) x' ∧ nx = (hp (i + 1) x').set j o) s ds lid did lo))
  (fin : ∀ x, inv L.length x → ∀ lid did (lo : LoopState → Option Code → Obj), hp 0 x0 lid = none → hp 0 x0 did = none → lid ≠ did →
   VS none P m n k s (.mark did :: ds) (((hp L.length x).set did (.raw (.deferred (some [])))).set lid (lo .exhausted none)) Q) :
  VS none P m n (.code (.rangeFunc g ps assign body) :: k) s ds H Q := by
 show WPS none P n (.rangeFunc g ps assign body) s ds H (TK none P m n k Q)
 refine wps_ent (Ent.weak (s' := s) (fun t => AV.Le.refl _) hH ?_)
 refine wps_range hg hgv hf hname hb fun lid did l h1 h2 h3 => ?_
 let lo : LoopState → Option Code → Obj := fun st pd => .loop l n s ps assign body st pd did
 let G : Nat → σ → Hp := fun i x => ((hp i x).set did (.raw (.deferred (some [])))).set lid (lo .ready none)
 let K : Hp → Prop := fun H' => ∃ st pend, H' lid = some (lo st pend) ∧ st ≠ .busy ∧ jumpQ pend fun x => VX none P m n k x s (.mark did :: ds) (H'.set lid (lo .exhausted pend)) Q
 refine ⟨_, hit (.yield l) _ K (hpre 0 x0 h0 lid did _ _ h1 h2) ?_, ?_⟩
 ·refine iter_seqB (G := G) (inv := inv) (B := G 0 x0) (fun i x hi q => ?_) (fun i v x hv hi => ⟨hpre i x hi lid did _ _ h1 h2, fun j o hj => ?_⟩) (fun x hi => ⟨.ready, none, Hp.set_same _ _ _, by simp, ?_⟩) x0 h0
  ·simp only [G, Hp.set]
   by_cases e1 : q = lid
   ·simp [e1]
   ·rw [if_neg e1, if_neg e1]
    by_cases e2 : q = did
    ·simp [e2]
    ·rw [if_neg e2, if_neg e2]; exact hfr i x hi q
  ·have n1 : ¬ j = lid := fun e => by
    rw [e] at hj
    simp only [G, Hp.set_same] at hj
    cases hj
   have n2 : ¬ j = did := fun e => by
    rw [e] at hj
    have : G 0 x0 did = some (.raw (.deferred (some []))) := by
     simp only [G]
     rw [Hp.set_ne _ _ (fun e => h3 e.symm), Hp.set_same]
    rw [this] at hj
    cases hj
   have hj0 : hp 0 x0 j = none := by
    simp only [G] at hj
    rw [Hp.set_ne _ _ n1, Hp.set_ne _ _ n2] at hj
    exact hj
   have ec : ∀ (A : Hp) X Y, ((A.set did X).set lid Y).set j o = ((A.set j o).set did X).set lid Y := fun A X Y => by
    rw [Hp.set_comm _ _ _ (fun e => n1 e.symm), Hp.set_comm A _ _ (fun e => n2 e.symm)]
   have eG : (G i x).set j o = (((hp i x).set j o).set did (.raw (.deferred (some [])))).set lid (lo .ready none) := ec _ _ _
   rw [eG]
   refine Tri.drop ?_
   refine tri_yield (lid := lid) (n := n) (s := s) (ps := ps) (assign := assign) (body := body) (did := did) (Hp.set_same _ _ _) (hpl v (List.mem_of_getElem? hv)) hps ?_
   refine (vcC_sound assign (round j o i v x hv hi hj0 lid did l lo h1 h2 h3 n1 n2)).mono ?_
   intro x1 s1 ds1 H1 hq
   cases x1 with
   | normal =>
     obtain ⟨q1, q2⟩ := hq
     refine ⟨rfl, q1, (vcC_sound body q2).mono ?_⟩
     intro x2 s2 ds2 H2 hq2
     cases x2 with
     | normal =>
       obtain ⟨⟨st, pd, ho⟩, nx, ⟨x', hi', rfl⟩, hsub⟩ := hq2
       exact ⟨st, pd, ho, _, HSub.reset hsub, .inl ⟨rfl, x', hi', (ec _ _ _).symm⟩⟩
     | ret => obtain ⟨⟨st, pd, ho⟩, hv⟩ := hq2; exact ⟨st, pd, ho, _, HSub.refl _, .inr ⟨rfl, .done, some .ret, Hp.set_same _ _ _, by simp, by rw [Hp.set_set]; exact hv⟩⟩
     | exit j => obtain ⟨⟨st, pd, ho⟩, hv⟩ := hq2; exact ⟨st, pd, ho, _, HSub.refl _, .inr ⟨rfl, .done, some (.exit j), Hp.set_same _ _ _, by simp, by rw [Hp.set_set]; exact hv⟩⟩
     | pan v => exact hq2.elim
   | _ => exact hq.elim
  ·simp only [jumpQ, G, Hp.set_set]
   exact fin x hi lid did lo h1 h2 h3
 ·rintro r H' ⟨⟨v, rfl⟩, st, pend, ho, hst, hj⟩
  exact ⟨st, pend, ho, hst, hj⟩
end
end Go.V
end
section
set_option linter.unusedVariables false
set_option linter.unusedSimpArgs false
set_option maxHeartbeats 4000000
set_option maxRecDepth 100000
namespace Go.Proofs.YtdopkbldjagmlaaGreat
open Go.V
theorem ret_freezeB {P : Program} {fn : Func} {R : Res → Hp → Prop} {s : Fr} {H : Hp} {t id st n i j : Nat} {f : Nat → List AV} (hr : fn.results.toList = [.tmp t]) (hs : s t = .ref id 0 st i j)
  (ho : H id = some (.box st n f)) (h : R (.ret (.rptr n st f i j)) (H.del id)) : FnPost P fn R .ret s [] H := by
 refine Ent.freezeB (s' := put s (some t) (.rptr n st f i j)) ho (fun u => ?_) ?_
 ·simp only [put]
  split
  ·rename_i e; subst e; exact .inr ⟨i, j, hs, rfl⟩
  ·exact .inl rfl
 ·rw [hr]
  refine ⟨rfl, ?_⟩
  simp only [resA, put, if_pos]
  exact ⟨trivial, h⟩
def errG (g : Gg) (v : Bool) : Int := if OkG g then if v = true then 0 else 2 else 1
theorem errG_no {g : Gg} (h : ¬ OkG g) (v : Bool) : errG g v = 1 := if_neg h
theorem errG_bad {g : Gg} (k : OkG g) : errG g false = 2 := by rw [errG, if_pos k, if_neg (by decide)]
theorem errG_ok {g : Gg} (k : OkG g) : errG g true = 0 := by rw [errG, if_pos k, if_pos rfl]
/-- When the first seams are ready. -/
def redN (g : Gg) (i : Nat) : List Int := (List.range i).map (redV g)
def redL (g : Gg) : List Int := redN g g.N
theorem redN_len (g : Gg) (i : Nat) : (redN g i).length = i := by simp [redN]
theorem redN_succ (g : Gg) (i : Nat) : redN g (i + 1) = redN g i ++ [redV g i] := by simp [redN, List.range_succ]
theorem redL_at (g : Gg) {i : Nat} (h : i < g.N) : (redL g).getD i 0 = redV g i := by simp [redL, redN, List.getD_eq_getElem?_getD, h]
abbrev gP (g : Gg) : AV := gQ g (intsAV (redL g))
theorem bestA_ok (p : Pt) : (bestA p).ok = True := by unfold bestA; split <;> rfl
theorem bestA_st (p : Pt) : (bestA p).st = bestA p := by unfold bestA; split <;> rfl
def openG (g : Gg) (v : Bool) (H : Hp) : Res → Hp → Prop := fun r H' =>
 H' = H ∧ r = if errG g v = 0 then .ret (gP g) else .pan (.iface 121 (i64 (errG g v)))
theorem openG_tri (g : Gg) (fv : AV) (v : Bool) (H : Hp) (kn : NearG g) (hfv : fv.ok) (hst : fv.st = fv)
  (hq : OkG g → ∀ (H' : Hp) (id : Nat), H' id = some (.box 8 1 fun _ => gC g nilA) → PTri Tryz.prog fv [.ref id 0 8 0 0] H' (boo v)) : Tri Tryz.prog (fnA 37) [g.av, fv] H (openG g v H) := by
 have nS := kn.nS
 have nC := kn.nC
 have nP := kn.p.nP
 refine tri_vs (m := mset [113]) Tryz.func37 (by kernel_rfl) rfl (by simp only [List.length_append, List.length_cons, List.length_nil, Tryz.ntmps37]; decide) ?_
 have no : ∀ {r}, ¬ OkG g → r = .pan (.iface 121 (i64 1)) → openG g v H r H := fun hno e => ⟨rfl, by rw [errG_no hno, if_neg (by decide)]; exact e⟩
 have ec : ∀ b : Bool, cntE g.pt = 0 ↔ Ok g.pt := fun b => by
  unfold cntE errE
  constructor
  ·intro h
   refine Classical.byContradiction fun hk => ?_
   rw [if_neg hk] at h
   cases h
  ·intro h; rw [if_pos h, if_pos rfl]
 have ec := ec true
 simp only [vsAll, loadA, loadRow, partA, partOk, fieldAddrA, boxA, boxZ, okAll, stAll, opsA, opA, dstOk, nilSliceOp, argFr, Nat.reduceAdd, Nat.reduceLT, Nat.reduceEqDiff, Nat.reduceBEq, Int.reduceNeg, ↓reduceIte, eq_self, wtAll, Tryz.ntmps37]
 refine callK_pure (wcount_tri g.pt _ kn.p) ?_
 simp only [vsAll, binA, binLitA, intA, loadA, loadRow, partA, partOk, fieldAddrA, extractA, lenA, pickA, okAll, stAll, opsA, opA, guardV, dstOk, nilSliceOp, Nat.reduceAdd, Nat.reduceLT, Nat.reduceEqDiff, Nat.reduceBEq, Int.reduceNeg, ↓reduceIte, implies_true, eq_self, wtAll]
 refine gask_call (fun hb => ?_) (fun hb => ?_)
 case refine_2 =>
  have hno : ¬ OkG g := fun k => by
   have h1 := ec.2 k.p; have h2 := k.nS; have h3 := k.nC
   simp only [Bool.and_eq_false_iff, decide_eq_false_iff_not] at hb
   omega
  simp only [vsAll, Int.reduceNeg, eq_self]
  exact ⟨H, HSub_rfl, no hno rfl⟩
 have hN : Ok g.pt ∧ g.sm.length ≤ 5 ∧ g.cw.length ≤ 3 := by
  simp only [Bool.and_eq_true, decide_eq_true_eq] at hb
  exact ⟨ec.1 hb.1.1, by omega, by omega⟩
 simp only [vsAll, loadA, loadRow, partA, partOk, fieldAddrA, lenA, opA, dstOk, Nat.reduceLT, Nat.reduceEqDiff, Int.reduceNeg, ↓reduceIte, eq_self, wtAll]
 refine vs_loop (σ := Nat) (fun i => i ≤ g.sm.length ∧ ∀ j, j < i → okS g (g.sm.getD j sm0)) (fun i => [(1, fv), (2, gptr g), (42, smAV g.sm), (43, i64 g.sm.length), (44, i64 i)]) (fun _ => H) (fun i => g.sm.length - i) 0 ⟨Nat.zero_le _, fun j hj => absurd hj (by omega)⟩ ?_ HSub_rfl fun i hi => ?_
 ·simp only [vsAll, argFr, Nat.reduceEqDiff, ↓reduceIte, eq_self, Int.natCast_zero]
 ·obtain ⟨hi, hall⟩ := hi
  simp only [vsAll, binA, binLitA, intA, opA, dstOk, Nat.reduceLT, Nat.reduceEqDiff, Int.reduceNeg, ↓reduceIte, eq_self]
  refine condD (fun hd => ?_) (fun hd => ?_)
  ·have hio : i < g.sm.length := by omega
   simp only [vsAll, loadA, loadRow, partA, partOk, fieldAddrA, indexAddrA, cellA, okAll, stAll, opsA, opA, allocA, newCells, okCells, storeObj, dstOk, Nat.reduceAdd, Nat.reduceLT, Nat.reduceEqDiff, Int.reduceNeg, ↓reduceIte, eq_self, wtAll, smF_at]
   refine ⟨⟨by omega, by omega⟩, hio, ?_⟩
   intro i8 hh_i8; (try simp only [Hp.set_none, ite_none] at hh_i8)
   have hle : ∀ x : Sm, okS g x ↔ ((decide (1 ≤ x.fa) && decide (x.fa ≤ 60)) && (decide (0 ≤ x.dr) && decide (x.dr ≤ 24)) && (decide (0 ≤ x.fl) && decide (x.fl ≤ 24)) && (decide (-1 ≤ x.po) && decide (x.po ≤ (g.pt.ps.length : Int) - 1))) = true := fun x => by
    unfold okS
    simp only [Bool.and_eq_true, decide_eq_true_eq]
    ((try clear hh_i8); omega)
   have hle := hle (g.sm.getD i sm0)
   have hnx : okS g (g.sm.getD i sm0) → ∀ j, j < i + 1 → okS g (g.sm.getD j sm0) := fun h j hj => by
    by_cases e : j = i
    ·rw [e]; exact h
    ·exact hall j (by ((try clear hh_i8); omega))
   have hno : ¬ okS g (g.sm.getD i sm0) → ¬ OkG g := fun h k => h (k.s i hio)
   generalize g.sm.getD i sm0 = x at *
   refine callK_pure (gwithin_tri _ _ _ _) ?_
   simp only [vsAll, loadA, loadRow, partA, partOk, fieldAddrA, opA, guardV, dstOk, Nat.reduceLT, Nat.reduceEqDiff, Int.reduceNeg, ↓reduceIte, implies_true, eq_self, wtAll]
   refine gcall _ (fun g' => ⟨by simp only [vsAll, opA], by simp only [vsAll, okAll, opsA, opA, ↓reduceIte, eq_self, g'], gwithin_tri x.dr 0 24 _⟩) ?_
   simp only [vsAll, loadA, loadRow, partA, partOk, fieldAddrA, pickA, opA, guardV, dstOk, Nat.reduceLT, Nat.reduceEqDiff, Int.reduceNeg, ↓reduceIte, implies_true, eq_self, wtAll]
   refine gcall _ (fun g' => ⟨by simp only [vsAll, opA], by simp only [vsAll, okAll, opsA, opA, ↓reduceIte, eq_self, g'], gwithin_tri x.fl 0 24 _⟩) ?_
   simp only [vsAll, binA, binLitA, intA, loadA, loadRow, partA, partOk, fieldAddrA, lenA, pickA, opA, guardV, dstOk, Nat.reduceAdd, Nat.reduceLT, Nat.reduceEqDiff, Int.reduceNeg, ↓reduceIte, implies_true, eq_self, wtAll]
   refine ⟨fun g0 => ⟨g0, by simp only [InR_i64]; ((try clear hh_i8); omega)⟩, ?_⟩
   refine gcall _ (fun g' => ⟨by simp only [vsAll, opA], by simp only [vsAll, okAll, opsA, opA, Nat.reduceEqDiff, Int.reduceNeg, ↓reduceIte, eq_self, g'], gwithin_tri x.po (-1) ((g.pt.ps.length : Int) - 1) _⟩) ?_
   simp only [vsAll, pickA, okAll, stAll, opsA, opA, dstOk, Nat.reduceLT, Nat.reduceEqDiff, Int.reduceNeg, ↓reduceIte, implies_true, eq_self]
   refine gask_call (fun hc => ?_) (fun hc => ?_)
   case refine_2 =>
    have hn := hno (fun q => by rw [hle.1 q] at hc; cases hc)
    simp only [vsAll, Int.reduceNeg, eq_self]
    exact ⟨H, by (repeat (first | exact HSub_rfl | refine HSub_put_eq (by simp only [vsAll, ↓reduceIte, eq_self, reduceCtorEq, Nat.reduceEqDiff, hh_i8]) ?_ | refine HSub_drop2 (by simp only [eq_self, hh_i8]) ?_ | refine HSub_keep_eq (by simp only [vsAll, ↓reduceIte, eq_self, reduceCtorEq, Nat.reduceEqDiff, hh_i8]) ?_)), no hn rfl⟩
   have hk := hle.2 hc
   simp only [vsAll, binA, binLitA, intA, opA, dstOk, Nat.reduceLT, Nat.reduceEqDiff, Int.reduceNeg, ↓reduceIte, eq_self]
   refine ⟨by simp only [InR_i64]; ((try clear hh_i8); omega), loop_next (i + 1) ⟨by ((try clear hh_i8); omega), hnx hk⟩ (by ((try clear hh_i8); omega)) ?_ (by (repeat (first | exact HSub_rfl | refine HSub_put_eq (by simp only [vsAll, ↓reduceIte, eq_self, reduceCtorEq, Nat.reduceEqDiff, hh_i8]) ?_ | refine HSub_drop2 (by simp only [eq_self, hh_i8]) ?_ | refine HSub_keep_eq (by simp only [vsAll, ↓reduceIte, eq_self, reduceCtorEq, Nat.reduceEqDiff, hh_i8]) ?_)))⟩
   ·simp only [vsAll, Nat.reduceEqDiff, Int.reduceNeg, ↓reduceIte, eq_self, Int.natCast_add, Int.natCast_one]
  ·have ei : i = g.sm.length := by omega
   subst ei
   simp only [vsAll, loadA, loadRow, partA, partOk, fieldAddrA, lenA, opA, dstOk, Nat.reduceLT, Nat.reduceEqDiff, Int.reduceNeg, ↓reduceIte, eq_self, wtAll]
   refine vs_loop (σ := Nat) (fun i => i ≤ g.cw.length ∧ ∀ j, j < i → okC g (g.cw.getD j cw0)) (fun i => [(1, fv), (2, gptr g), (74, cwAV g.cw), (75, i64 g.cw.length), (76, i64 i)]) (fun _ => H) (fun i => g.cw.length - i) 0 ⟨Nat.zero_le _, fun j hj => absurd hj (by omega)⟩ ?_ HSub_rfl fun i hi => ?_
   ·simp only [vsAll, Nat.reduceEqDiff, ↓reduceIte, eq_self, Int.natCast_zero]
   ·obtain ⟨hi, hallc⟩ := hi
    simp only [vsAll, binA, binLitA, intA, opA, dstOk, Nat.reduceLT, Nat.reduceEqDiff, ↓reduceIte, eq_self]
    refine condD (fun hd2 => ?_) (fun hd2 => ?_)
    ·have hio : i < g.cw.length := by omega
     simp only [vsAll, loadA, loadRow, partA, partOk, indexAddrA, cellA, opA, allocA, newCells, okCells, storeObj, dstOk, Nat.reduceAdd, Nat.reduceLT, Nat.reduceEqDiff, ↓reduceIte, eq_self, wtAll, cwF_at]
     refine ⟨⟨by omega, by omega⟩, hio, ?_⟩
     intro i10 hh_i10; (try simp only [Hp.set_none, ite_none] at hh_i10)
     have hle : ∀ x : Cw, okC g x ↔ (decide (1 ≤ x.lo) && decide (x.lo ≤ x.hi) && decide (x.hi ≤ 12) && (decide (0 ≤ x.st) && decide (x.st ≤ ((2 ^ g.sm.length : Nat) : Int) - 1))) = true := fun x => by
      unfold okC
      simp only [Bool.and_eq_true, decide_eq_true_eq]
      ((try clear hh_i10); omega)
     have hle := hle (g.cw.getD i cw0)
     have hnx : okC g (g.cw.getD i cw0) → ∀ j, j < i + 1 → okC g (g.cw.getD j cw0) := fun h j hj => by
      by_cases e : j = i
      ·rw [e]; exact h
      ·exact hallc j (by ((try clear hh_i10); omega))
     have hno : ¬ okC g (g.cw.getD i cw0) → ¬ OkG g := fun h k => h (k.c i hio)
     generalize g.cw.getD i cw0 = x at *
     have hpw : 2 ^ g.sm.length ≤ 2 ^ 5 := Nat.pow_le_pow_right (by ((try clear hh_i10); omega)) hN.2.1
     have hp0 : 0 < 2 ^ g.sm.length := Nat.two_pow_pos _
     have ep : (1 : Int) * 2 ^ g.sm.length = ((2 ^ g.sm.length : Nat) : Int) := by rw [Int.one_mul]; simp
     refine vs_draw2 [0, 0, 0, 0, 0, 0, 0, 0, 0, 0, 0, 0, 0, 0, 0, 0, 0, 0, 0, 0, 0, 0, 0, 0, 0, 0, 0, 0, 0, 1] [([0, 1, 2, 3, 4, 5, 6, 7, 8, 9, 10, 11, 12, 13, 14, 15, 16, 17, 18, 19, 20, 21, 22, 23, 24, 25, 26, 27, 28], [], 29)] [] (by decide +kernel) ?_
     simp only [vsAll, binA, binLitA, intA, loadA, loadRow, partA, partOk, fieldAddrA, lenA, pickA, opA, guardV, dstOk, Nat.reduceLT, Nat.reduceEqDiff, ↓reduceIte, implies_true, eq_self, wtAll, ep]
     refine ⟨fun g0 => ⟨g0, by ((try clear hh_i10); omega), by ((try clear hh_i10); omega), by simp only [InR_i64]; ((try clear hh_i10); omega)⟩, fun g0 => ⟨g0, by simp only [InR_i64]; ((try clear hh_i10); omega)⟩, ?_⟩
     refine qgcall _ (fun g' => ⟨by simp only [vsAll, opA], by simp only [vsAll, okAll, opsA, opA, Nat.reduceEqDiff, ↓reduceIte, eq_self, g'], gwithin_tri x.st 0 (((2 ^ g.sm.length : Nat) : Int) - 1) _⟩) ?_
     simp only [vsAll, pickA, okAll, stAll, opsA, opA, dstOk, Nat.reduceLT, Nat.reduceEqDiff, ↓reduceIte, implies_true, eq_self]
     refine gask_call (fun hc => ?_) (fun hc => ?_)
     case refine_2 =>
      have hn := hno (fun q => by rw [hle.1 q] at hc; cases hc)
      simp only [vsAll, eq_self]
      exact ⟨H, by (repeat (first | exact HSub_rfl | refine HSub_put_eq (by simp only [vsAll, ↓reduceIte, eq_self, reduceCtorEq, Nat.reduceEqDiff, hh_i10]) ?_ | refine HSub_drop2 (by simp only [eq_self, hh_i10]) ?_ | refine HSub_keep_eq (by simp only [vsAll, ↓reduceIte, eq_self, reduceCtorEq, Nat.reduceEqDiff, hh_i10]) ?_)), no hn rfl⟩
     have hk := hle.2 hc
     simp only [vsAll, binA, binLitA, intA, opA, dstOk, Nat.reduceLT, Nat.reduceEqDiff, ↓reduceIte, eq_self]
     refine ⟨by simp only [InR_i64]; ((try clear hh_i10); omega), loop_next (i + 1) ⟨by ((try clear hh_i10); omega), hnx hk⟩ (by ((try clear hh_i10); omega)) ?_ (by (repeat (first | exact HSub_rfl | refine HSub_put_eq (by simp only [vsAll, ↓reduceIte, eq_self, reduceCtorEq, Nat.reduceEqDiff, hh_i10]) ?_ | refine HSub_drop2 (by simp only [eq_self, hh_i10]) ?_ | refine HSub_keep_eq (by simp only [vsAll, ↓reduceIte, eq_self, reduceCtorEq, Nat.reduceEqDiff, hh_i10]) ?_)))⟩
     ·simp only [vsAll, Nat.reduceEqDiff, ↓reduceIte, eq_self, Int.natCast_add, Int.natCast_one]
    ·have ei : i = g.cw.length := by omega
     have k : OkG g := (okG_iff g).2 ⟨hN, hall, fun j hj => hallc j (by omega)⟩
     subst ei
     simp only [vsAll, loadA, loadRow, partA, partOk, cellsA, fillA, okParts, okAll, stAll, opsA, partsA, partsOk, opA, boxMutA, dstOk, nilSliceOp, Nat.reduceAdd, Nat.reduceLT, Nat.reduceLeDiff, Nat.reduceEqDiff, Nat.reduceBEq, ↓reduceIte, eq_self, wtAll]
     intro ib hh_ib; (try simp only [Hp.set_none, ite_none] at hh_ib)
     have hO : ∀ a : AV, (H.set ib (.box 8 1 fun _ => gC g a)) ib = some (.box 8 1 fun _ => gC g a) := fun a => Hp.set_same _ _ _
     simp only [vsAll, hfv, hst]
     refine callK_pure (hq k _ ib (hO nilA)) ?_
     simp only [vsAll, okAll, stAll, opsA, opA, dstOk, Nat.reduceLT, ↓reduceIte, eq_self]
     refine gask_call (fun hv => ?_) (fun hv => ?_)
     case refine_2 =>
      subst hv
      simp only [vsAll, eq_self]
      exact ⟨H, by (repeat (first | exact HSub_rfl | refine HSub_put_eq (by simp only [vsAll, ↓reduceIte, eq_self, reduceCtorEq, Nat.reduceEqDiff, hh_ib]) ?_ | refine HSub_drop2 (by simp only [eq_self, hh_ib]) ?_ | refine HSub_keep_eq (by simp only [vsAll, ↓reduceIte, eq_self, reduceCtorEq, Nat.reduceEqDiff, hh_ib]) ?_)), rfl, by rw [errG_bad k, if_neg (by decide)]⟩
     subst hv
     simp only [vsAll, loadA, loadRow, partA, partOk, fieldAddrA, okAll, stAll, opsA, opA, dstOk, Nat.reduceAdd, Nat.reduceLT, Nat.reduceEqDiff, ↓reduceIte, eq_self, wtAll]
     have hbo := bestA_ok g.pt
     have hbs := bestA_st g.pt
     refine callK_pure (wbest_tri g.pt _ kn.p) ?_
     simp only [vsAll, loadA, loadRow, partA, partOk, fieldAddrA, extractA, lenA, opA, dstOk, nilSliceOp, Nat.reduceAdd, Nat.reduceLT, Nat.reduceEqDiff, Nat.reduceBEq, ↓reduceIte, eq_self, wtAll, hbo, hbs]
     refine vs_entL (Ent.nilBox 1 (intF []) (fun id _ => gC g (.sl id 1 0)) (j := ib) (st' := 8) (n' := 1) (g := fun _ => gC g nilA) (Hp.set_same _ _ _) (fun _ _ _ => rfl) (fun id q d hq hd => ?_) fun ir hir => ?_)
     ·match d, hd with
      | 0, _ => exact .rfl
      | 1, _ => exact .rfl
      | 2, _ => exact .rfl
      | 3, _ => exact .rfl
      | 4, _ => exact .rfl
      | 5, _ => exact .rfl
      | 6, _ => exact .rfl
      | 7, _ => exact .hit
     have hne : ¬ ir = ib := fun e => by rw [e, Hp.set_same] at hir; cases hir
     have hne2 : ¬ ib = ir := fun e => hne e.symm
     rw [Hp.set_ne _ _ hne] at hir
     skip
     have hbx : ∀ (A : Hp) (n : Nat) (f : Nat → List AV) (a b : AV), (((H.set ib (.box 8 1 fun _ => gC g a)).set ir (.row 1 n f)).set ib (.box 8 1 fun _ => gC g b)) = ((H.set ir (.row 1 n f)).set ib (.box 8 1 fun _ => gC g b)) := fun _ n f a b => by
      rw [Hp.set_comm H _ _ hne2, Hp.set_set]
     rw [hbx H]
     refine vs_loop (σ := Nat) (fun i => i ≤ g.sm.length) (fun i => [(2, gptr g), (6, i64 (rgtE g.pt true)), (11, .ref ib 0 8 0 0), (13, bestA g.pt), (126, smAV g.sm), (127, i64 g.sm.length), (128, i64 i)]) (fun i => (H.set ir (.row 1 i (intF (redN g i)))).set ib (.box 8 1 fun _ => gC g (.sl ir 1 i))) (fun i => g.sm.length - i) 0 (Nat.zero_le _) ?_ HSub_rfl fun i hi => ?_
     ·simp only [vsAll, Nat.reduceEqDiff, ↓reduceIte, eq_self, Int.natCast_zero]
     ·simp only [vsAll, binA, binLitA, intA, opA, dstOk, Nat.reduceLT, Nat.reduceEqDiff, ↓reduceIte, eq_self]
      refine condD (fun hd3 => ?_) (fun hd3 => ?_)
      ·have hio : i < g.sm.length := by ((try clear hh_ib hne hne2 hir); omega)
       have hok := k.seam hio
       unfold okS at hok
       have eS : g.sm.getD i sm0 = g.seam i := rfl
       have hrl := red_le k hio
       have hlen := redN_len g i
       have stp : ∀ (v : Int) (G : Nat → List AV), v = redV g i → G 0 = [i64 v] → appF i 1 (intF (redN g i)) G = intF (redN g (i + 1)) := fun v G hv hG => by
        have := app_ints (redN g i) v G hG
        rw [hlen] at this
        rw [redN_succ, ← hv]
        exact this
       simp only [vsAll, binA, binLitA, intA, loadA, loadRow, partA, partOk, fieldAddrA, indexAddrA, cellA, opA, allocA, newCells, okCells, storeObj, dstOk, nilSliceOp, Nat.reduceAdd, Nat.reduceLT, Nat.reduceEqDiff, Nat.reduceBEq, ↓reduceIte, eq_self, wtAll, smF_at, eS]
       refine ⟨⟨by ((try clear hh_ib hne hne2 hir); omega), by ((try clear hh_ib hne hne2 hir); omega)⟩, hio, ?_⟩
       intro i15 hh_i15; (try simp only [ite_none] at hh_i15)
       have n15 : H i15 = none := by first | exact hh_i15.2 | exact hh_i15.2.2
       have hA : ∀ (o1 o2 : Go.V.Obj), Go.V.HSub ((((H.set ir (.row 1 i (intF (redN g i)))).set ib (.box 8 1 fun _ => gC g (.sl ir 1 i))).set i15 o1).set i15 o2) H := fun o1 o2 => HSub_drop2 n15 (HSub_drop2 n15 (HSub_drop2 hh_ib (HSub_drop2 hir HSub_rfl)))
       have hfin : ∀ (A : Hp) (v : Int) (G : Nat → List AV), Go.V.HSub A H → v = redV g i → G 0 = [i64 v] → Go.V.HSub ((A.set ir (.row 1 (i + 1) (appF i 1 (intF (redN g i)) G))).set ib (.box 8 1 fun _ => gC g (.sl ir 1 (i + 1)))) ((H.set ir (.row 1 (i + 1) (intF (redN g (i + 1))))).set ib (.box 8 1 fun _ => gC g (.sl ir 1 (i + 1)))) := fun A v G hAH hv hG => by
        rw [stp v G hv hG]
        exact Go.V.HSub.set (Go.V.HSub.set hAH (.refl _)) (.refl _)
       refine condD (fun hp => ?_) (fun hp => ?_)
       ·simp only [vsAll, binA, binLitA, intA, opA, dstOk, nilSliceOp, Nat.reduceLT, Nat.reduceEqDiff, Nat.reduceBEq, ↓reduceIte, eq_self]
        refine condD (fun he => ?_) (fun he => ?_)
        ·have hb : bestA g.pt = plsAV (bestP g.pt) := if_pos he
         rw [hb]
         have hbl := best_len he
         have hpi : (g.seam i).po.toNat < g.pt.ps.length := by ((try clear hh_ib hne hne2 hir hh_i15); omega)
         have hrh := right_hot k.p (best_mem he) hpi
         simp only [vsAll]
         refine vs_draw2 [0, 0, 0, 0, 0, 0, 0, 0, 0, 0, 0, 0, 0, 0, 1, 3, 4] [([0, 1, 2, 3, 4, 5, 6, 7, 8, 9, 10, 11, 12, 13], [1, 3, 6, 9, 10], 14), ([], [], 15)] [16] (by decide +kernel) ?_
         simp only [vsAll, loadA, loadRow, partA, partOk, fieldAddrA, indexAddrA, opA, dstOk, Nat.reduceAdd, Nat.reduceLT, Nat.reduceEqDiff, ↓reduceIte, eq_self, wtAll, plF_at]
         refine ⟨⟨by ((try clear hh_ib hne hne2 hir hh_i15); omega), by ((try clear hh_ib hne hne2 hir hh_i15); omega)⟩, by ((try clear hh_ib hne hne2 hir hh_i15); omega), ?_⟩
         refine qcall _ ⟨trivial, by simp only [vsAll, okAll, opsA, opA, Nat.reduceEqDiff, ↓reduceIte, eq_self], whot_tri g.pt (g.seam i).po _ _ kn.p⟩ ?_
         simp only [vsAll, loadA, loadRow, partA, partOk, fieldAddrA, extractA, cellA, cellsA, okParts, buildSliceA, partIdx, elemsA, lensA, okAll, stAll, opsA, partsA, partsOk, opA, allocA, newCells, okCells, storeObj, dstOk, nilSliceOp, Nat.reduceAdd, Nat.reduceMul, Nat.reduceLT, Nat.reduceLeDiff, Nat.reduceEqDiff, Nat.reduceBEq, ↓reduceIte, eq_self, wtAll]
         intro i18 hh_i18; (try simp only [ite_none] at hh_i18)
         simp only [vsAll, Nat.reduceLT, ↓reduceIte, eq_self, hh_i18]
         have n18 : H i18 = none := by exact hh_i18.2.2.2.2
         have hbl2 : (g.seam i).po.toNat < (bestP g.pt).length := by rw [hbl]; exact hpi
         have hhot : (hotS g.pt (g.seam i).po ((bestP g.pt).getD (g.seam i).po.toNat (0, 0)).2).2 = (hotL g).getD (g.seam i).po.toNat 0 := by
          have hE : hotE g.pt (g.seam i).po ((bestP g.pt).getD (g.seam i).po.toNat (0, 0)).2 = 0 := by
           have e1 : (isPot g.pt (g.seam i).po && isHour g.pt ((bestP g.pt).getD (g.seam i).po.toNat (0, 0)).2) = true := by
            rw [Bool.and_eq_true, isPot_iff, isHour_iff k.p]
            exact ⟨by ((try clear hh_ib hne hne2 hir hh_i15 hh_i18); omega), hrh.1⟩
           unfold hotE
           rw [e1, errE_ok k.p, if_pos rfl, if_pos hrh.2]
          unfold hotS
          rw [if_pos hE, hot_at he hpi]
         have em : max (g.seam i).dr ((hotL g).getD (g.seam i).po.toNat 0) = redV g i := by
          have hl := hot_le k he hpi
          have hbg : begV g i = max (g.seam i).dr ((hotL g).getD (g.seam i).po.toNat 0) := by
           unfold begV
           rw [if_neg (by ((try clear hh_ib hne hne2 hir hh_i15 hh_i18); omega)), if_neg (by rw [hot_len he]; ((try clear hh_ib hne hne2 hir hh_i15 hh_i18); omega))]
          rw [hrl.2.2.2 (by ((try clear hh_ib hne hne2 hir hh_i15 hh_i18); omega)), hbg]
         refine ⟨⟨⟨hbl2, by simp only [vsAll, eq_self, plF_at]⟩, rcall _ ⟨trivial, by simp only [vsAll, okAll, opsA, opA, Nat.reduceEqDiff, ↓reduceIte, eq_self], whot_tri g.pt (g.seam i).po _ _ kn.p⟩ (by simp only [vsAll, Nat.reduceEqDiff, ↓reduceIte, eq_self])⟩, callK_pure (later_tri _ _ _) ?_⟩
         rw [hhot, em]
         simp only [vsAll, binA, binLitA, intA, loadA, loadRow, partA, partOk, fieldAddrA, nilCheckA, cellA, cellsA, okParts, buildSliceA, partIdx, elemsA, lensA, partsA, partsOk, opA, newCells, okCells, storeObj, appendA, dstOk, nilSliceOp, Nat.reduceAdd, Nat.reduceMul, Nat.reduceLT, Nat.reduceLeDiff, Nat.reduceEqDiff, Nat.reduceBEq, ↓reduceIte, eq_self, wtAll, hne, hne2, hh_i15, hh_i18]
         refine ⟨fun q hq => ?_, by ((try clear hh_ib hne hne2 hir hh_i15 hh_i18); omega), by ((try clear hh_ib hne hne2 hir hh_i15 hh_i18); omega), by simp only [InR_i64]; ((try clear hh_ib hne hne2 hir hh_i15 hh_i18); omega), loop_next (i + 1) (by ((try clear hh_ib hne hne2 hir hh_i15 hh_i18); omega)) (by ((try clear hh_ib hne hne2 hir hh_i15 hh_i18); omega)) ?_ ?_⟩
         ·match q, hq with
          | 0, _ => simp [okCells, cellA]
         ·simp only [vsAll, Nat.reduceEqDiff, ↓reduceIte, eq_self, Int.natCast_add, Int.natCast_one]
         ·exact hfin _ _ _ (HSub_drop2 n18 (HSub_drop2 n18 (hA _ _))) rfl rfl
        ·simp only [vsAll, cellA, cellsA, okParts, buildSliceA, partIdx, elemsA, lensA, okAll, stAll, opsA, partsA, partsOk, opA, dstOk, Nat.reduceAdd, Nat.reduceMul, Nat.reduceLT, Nat.reduceLeDiff, Nat.reduceEqDiff, Nat.reduceBEq, ↓reduceIte, eq_self, wtAll]
         refine callK_pure (later_tri _ _ _) ?_
         have ev : redV g i = 10000 := by
          have hbg : begV g i = -1 := by
           unfold begV
           rw [if_neg (by ((try clear hh_ib hne hne2 hir hh_i15); omega)), hot_no he]
           rfl
          unfold redV
          rw [hbg]
          rfl
         have em : max (g.seam i).dr 10000 = redV g i := by ((try clear hh_ib hne hne2 hir hh_i15); omega)
         simp only [vsAll, binA, binLitA, intA, loadA, loadRow, partA, partOk, fieldAddrA, nilCheckA, cellA, cellsA, okParts, buildSliceA, partIdx, elemsA, lensA, partsA, partsOk, opA, newCells, okCells, storeObj, appendA, dstOk, nilSliceOp, Nat.reduceAdd, Nat.reduceMul, Nat.reduceLT, Nat.reduceLeDiff, Nat.reduceEqDiff, Nat.reduceBEq, ↓reduceIte, eq_self, wtAll, hne, hne2, hh_i15, em]
         refine ⟨fun q hq => ?_, by ((try clear hh_ib hne hne2 hir hh_i15); omega), by ((try clear hh_ib hne hne2 hir hh_i15); omega), by simp only [InR_i64]; ((try clear hh_ib hne hne2 hir hh_i15); omega), loop_next (i + 1) (by ((try clear hh_ib hne hne2 hir hh_i15); omega)) (by ((try clear hh_ib hne hne2 hir hh_i15); omega)) ?_ ?_⟩
         ·match q, hq with
          | 0, _ => simp [okCells, cellA]
         ·simp only [vsAll, Nat.reduceEqDiff, ↓reduceIte, eq_self, Int.natCast_add, Int.natCast_one]
         ·exact hfin _ _ _ (hA _ _) rfl rfl
       ·have ev : redV g i = (g.seam i).dr := by
         have : begV g i = (g.seam i).dr := by unfold begV; rw [if_pos (by ((try clear hh_ib hne hne2 hir hh_i15); omega))]
         unfold redV
         rw [this, if_neg (by ((try clear hh_ib hne hne2 hir hh_i15); omega))]
        rw [← ev]
        simp only [vsAll, binA, binLitA, intA, loadA, loadRow, partA, partOk, fieldAddrA, nilCheckA, cellA, cellsA, okParts, buildSliceA, partIdx, elemsA, lensA, partsA, partsOk, opA, newCells, okCells, storeObj, appendA, dstOk, Nat.reduceAdd, Nat.reduceMul, Nat.reduceLT, Nat.reduceLeDiff, Nat.reduceEqDiff, Nat.reduceBEq, ↓reduceIte, eq_self, wtAll, hne, hne2, hh_i15]
        refine ⟨fun q hq => ?_, by ((try clear hh_ib hne hne2 hir hh_i15); omega), by ((try clear hh_ib hne hne2 hir hh_i15); omega), by simp only [InR_i64]; ((try clear hh_ib hne hne2 hir hh_i15); omega), loop_next (i + 1) (by ((try clear hh_ib hne hne2 hir hh_i15); omega)) (by ((try clear hh_ib hne hne2 hir hh_i15); omega)) ?_ ?_⟩
        ·match q, hq with
         | 0, _ => simp [okCells, cellA]
        ·simp only [vsAll, Nat.reduceEqDiff, ↓reduceIte, eq_self, Int.natCast_add, Int.natCast_one]
        ·exact hfin _ _ _ (hA _ _) rfl rfl
      ·have ei : i = g.sm.length := by ((try clear hh_ib hne hne2 hir); omega)
       subst ei
       simp only [vsAll, opA, dstOk, nilSliceOp, Nat.reduceLT, Nat.reduceEqDiff, Nat.reduceBEq, ↓reduceIte, eq_self]
       refine fn_ent (Ent.freezeBox (s' := _) (id := ir) (st := 1) (n := g.sm.length) (f := intF (redN g g.sm.length)) (j := ib) (st' := 8) (n' := 1) (g := fun _ => gC g (.sl ir 1 g.sm.length)) (g' := fun _ => gC g (.rsl g.sm.length 1 (intF (redN g g.sm.length)))) (by simp only [vsAll, ↓reduceIte, eq_self, hne]) (by simp only [vsAll, ↓reduceIte, eq_self]) (fun t => .rfl) (fun _ _ => rfl) (fun q d hq hd => ?_) ?_)
       ·match d, hd with
        | 0, _ => exact .rfl
        | 1, _ => exact .rfl
        | 2, _ => exact .rfl
        | 3, _ => exact .rfl
        | 4, _ => exact .rfl
        | 5, _ => exact .rfl
        | 6, _ => exact .rfl
        | 7, _ => exact .hit
       refine ret_freezeB (by rw [Tryz.results37]) (rfl) (Hp.set_same _ _ _) ?_
       refine ⟨H, ?_, rfl, ?_⟩
       ·exact HSub_del hh_ib (HSub_drop2 hh_ib (HSub_del hir (HSub_drop2 hh_ib (HSub_drop2 hir HSub_rfl))))
       ·rw [errG_ok k, if_pos rfl]
        have : (redL g).length = g.sm.length := redN_len g _
        show Res.ret (gQ g (.rsl g.sm.length 1 (intF (redN g g.sm.length)))) = Res.ret (gQ g (.rsl (redL g).length 1 (intF (redL g))))
        rw [this]
        rfl
end Go.Proofs.YtdopkbldjagmlaaGreat
end
section
set_option linter.unusedVariables false
set_option linter.unusedSimpArgs false
set_option maxHeartbeats 4000000
set_option maxRecDepth 100000
namespace Go.Proofs.YtdopkbldjagmlaaGreat
open Go.V
theorem gopen_call {g : Gg} {fv : AV} {v : Bool} {H : Hp} {K : AV → Hp → Prop} {Kp : AV → Hp → Prop} (ht : Tri Tryz.prog (fnA 37) [g.av, fv] H (openG g v H))
  (h1 : ¬ errG g v = 0 → Kp (.iface 121 (i64 (errG g v))) H) (h2 : OkG g → v = true → K (gP g) H) : CallK Tryz.prog (fnA 37) [g.av, fv] H K Kp := by
 refine ⟨_, ht, ?_⟩
 rintro r H' ⟨rfl, rfl⟩
 by_cases h : errG g v = 0
 ·rw [if_pos h]
  unfold errG at h
  split at h
  ·rename_i k
   split at h
   ·rename_i hv; exact h2 k hv
   ·cases h
  ·cases h
 ·rw [if_neg h]; exact h1 h
/-- What is at the gangs while they are looked at. -/
abbrev opB (id : Nat) (g : Gg) (H : Hp) : Prop := H id = some (.box 8 1 fun _ => gC g nilA)
theorem ready1_tri (g : Gg) (n : Int) (id : Nat) (H : Hp) (k : NearG g) (ho : opB id g H) : PTri Tryz.prog (.func (.func 38) [] [bx n]) [.ref id 0 8 0 0] H (boo (isSm g n)) := by
 refine tri_v0 (fun _ => false) Tryz.func38 (by kernel_rfl) rfl (by simp only [List.length_append, List.length_cons, List.length_nil, Tryz.ntmps38]; decide) ?_
 skip
 simp only [vsAll, loadA, loadRow, partA, partOk, okAll, stAll, opsA, opA, dstOk, nilSliceOp, argFr, Nat.reduceLT, Nat.reduceEqDiff, ↓reduceIte, reduceCtorEq, eq_self, wtAll, Tryz.ntmps38]
 refine callK_pure (wseam_tri g id n _ k ho) ?_
 simp only [vsAll, opA, dstOk, nilSliceOp, resA, retA.eq_1, Nat.reduceLT, ↓reduceIte, eq_self, Tryz.results38]
def readyE (g : Gg) (n : Int) : Int := if errG g (isSm g n) = 0 then if 0 ≤ begV g n.toNat then 0 else 4 else errG g (isSm g n)
def readyV (g : Gg) (n : Int) : Int := if readyE g n = 0 then begV g n.toNat else 0
theorem wready_tri (g : Gg) (n : Int) (H : Hp) (kn : NearG g) : PTri Tryz.prog (fnA 9) [g.av, i64 n] H (.tuple [i64 (readyV g n), i64 (readyE g n)]) := by
 refine Tri.drop ?_
 refine tri_a (m := fun _ => false) gans Tryz.func9 (by kernel_rfl) rfl (by simp only [List.length_append, List.length_cons, List.length_nil, Tryz.ntmps9]; decide) ?_
 simp only [vsAll, boxA, boxZ, cellA, okAll, stAll, opsA, opA, allocA, dstOk, nilSliceOp, argFr, Nat.reduceAdd, Nat.reduceLT, Nat.reduceEqDiff, ↓reduceIte, eq_self, wtAll, Tryz.ntmps9]
 intro i5 hh_i5; (try simp only [Hp.set_none, ite_none] at hh_i5)
 refine vs_draw2 [0, 0, 1, 2, 2, 2, 0, 2, 2, 2] [([0, 1, 6], [6], 2)] [3, 4, 5, 7, 8, 9] (by decide +kernel) ?_
 simp only [vsAll, loadA, loadRow, partA, partOk, okAll, stAll, opsA, opA, dstOk, Nat.reduceLT, Nat.reduceEqDiff, ↓reduceIte, eq_self, wtAll]
 refine gopen_call (openG_tri g _ (isSm g n) _ kn trivial rfl (fun k H' id ho => ready1_tri g n id H' kn ho)) (fun he => ?_) (fun k hv => ?_)
 ·have e : readyE g n = errG g (isSm g n) := if_neg he
  have e2 : readyV g n = 0 := if_neg (by rw [e]; exact he)
  simp only [vsAll]
  refine ⟨errG g (isSm g n), i5, _, rfl, rfl, by simp only [vsAll, ↓reduceIte, eq_self]; try rfl, ?_⟩
  simp only [vsAll, loadA, loadRow, partA, partOk, resA, retA.eq_2, Nat.reduceLT, Nat.reduceEqDiff, ↓reduceIte, eq_self, wtAll, Tryz.results9]
  refine dropR_pure ?_ (by (repeat (first | exact HSub_rfl | refine HSub_put_eq (by simp only [vsAll, ↓reduceIte, eq_self, reduceCtorEq, Nat.reduceEqDiff, hh_i5]) ?_ | refine HSub_drop2 (by simp only [eq_self, hh_i5]) ?_ | refine HSub_keep_eq (by simp only [vsAll, ↓reduceIte, eq_self, reduceCtorEq, Nat.reduceEqDiff, hh_i5]) ?_)))
  simp only [eq_self, e, e2]
 ·have he : errG g (isSm g n) = 0 := by rw [hv]; exact errG_ok k
  rw [isSm_iff] at hv
  obtain ⟨i, rfl⟩ : ∃ i : Nat, n = (i : Int) := ⟨n.toNat, by ((try clear hh_i5); omega)⟩
  have hi : i < g.N := by ((try clear hh_i5); omega)
  have hl := redN_len g g.N
  have hrl := red_le k hi
  have hra := redL_at g hi
  simp only [vsAll, binA, binLitA, intA, loadA, loadRow, partA, partOk, fieldAddrA, indexAddrA, nilCheckA, okAll, stAll, opsA, opA, dstOk, Nat.reduceLT, Nat.reduceEqDiff, ↓reduceIte, eq_self, wtAll, intF_at]
  have hll : (redL g).length = g.N := redN_len g g.N
  refine ⟨⟨by ((try clear hh_i5); omega), by ((try clear hh_i5); omega)⟩, by ((try clear hh_i5); omega), ?_⟩
  rw [hra]
  refine gask_call (fun hc => ?_) (fun hc => ?_)
  ·have h0 : 0 ≤ begV g i := by rw [decide_eq_true_eq] at hc; exact hrl.2.2.1.1 hc
   have e : readyE g i = 0 := by unfold readyE; rw [if_pos he, Int.toNat_natCast, if_pos h0]
   have e2 : readyV g i = redV g i := by unfold readyV; rw [if_pos e, Int.toNat_natCast, hrl.2.2.2 h0]
   simp only [vsAll, cellA, cellsA, opA, newCells, okCells, storeObj, dstOk, nilSliceOp, Nat.reduceLT, Nat.reduceEqDiff, ↓reduceIte, eq_self, wtAll]
   refine Ent.ret ⟨i5, _, rfl, by simp only [vsAll, ↓reduceIte, eq_self]; try rfl, ?_⟩
   simp only [vsAll, loadA, loadRow, partA, partOk, resA, retA.eq_2, Nat.reduceLT, Nat.reduceEqDiff, ↓reduceIte, eq_self, wtAll, Tryz.results9]
   refine dropR_pure ?_ (by (repeat (first | exact HSub_rfl | refine HSub_put_eq (by simp only [vsAll, ↓reduceIte, eq_self, reduceCtorEq, Nat.reduceEqDiff, hh_i5]) ?_ | refine HSub_drop2 (by simp only [eq_self, hh_i5]) ?_ | refine HSub_keep_eq (by simp only [vsAll, ↓reduceIte, eq_self, reduceCtorEq, Nat.reduceEqDiff, hh_i5]) ?_)))
   simp only [eq_self, e, e2]
  ·have h0 : ¬ 0 ≤ begV g i := by rw [decide_eq_false_iff_not] at hc; exact fun h => hc (hrl.2.2.1.2 h)
   have e : readyE g i = 4 := by unfold readyE; rw [if_pos he, Int.toNat_natCast, if_neg h0]
   have e2 : readyV g i = 0 := by unfold readyV; rw [if_neg (by rw [e]; decide)]
   simp only [vsAll]
   refine ⟨4, i5, _, rfl, rfl, by simp only [vsAll, ↓reduceIte, eq_self]; try rfl, ?_⟩
   simp only [vsAll, loadA, loadRow, partA, partOk, resA, retA.eq_2, Nat.reduceLT, Nat.reduceEqDiff, ↓reduceIte, eq_self, wtAll, Tryz.results9]
   refine dropR_pure ?_ (by (repeat (first | exact HSub_rfl | refine HSub_put_eq (by simp only [vsAll, ↓reduceIte, eq_self, reduceCtorEq, Nat.reduceEqDiff, hh_i5]) ?_ | refine HSub_drop2 (by simp only [eq_self, hh_i5]) ?_ | refine HSub_keep_eq (by simp only [vsAll, ↓reduceIte, eq_self, reduceCtorEq, Nat.reduceEqDiff, hh_i5]) ?_)))
   simp only [eq_self, e, e2]
/-- Is a list a row? -/
def rowB (g : Gg) (l : List Int) : Bool := (List.range l.length).all fun i => isSm g (l.getD i 0) && (List.range i).all fun j => !decide (l.getD j 0 = l.getD i 0)
theorem rowB_iff {g : Gg} {l : List Int} : rowB g l = true ↔ (∀ i, i < l.length → 0 ≤ l.getD i 0 ∧ l.getD i 0 < g.N) ∧ ∀ i j, i < j → j < l.length → l.getD i 0 ≠ l.getD j 0 := by
 simp only [rowB, List.all_eq_true, List.mem_range, Bool.and_eq_true, isSm_iff, Bool.not_eq_true', decide_eq_false_iff_not]
 exact ⟨fun h => ⟨fun i hi => (h i hi).1, fun i j hij hj => (h j hj).2 i hij⟩, fun h i hi => ⟨h.1 i hi, fun j hj => h.2 j i hj hi⟩⟩
/-- The set of the first ones of a list. -/
def seenN (l : List Int) : Nat → Nat
 | 0 => 0
 | i + 1 => seenN l i ||| 2 ^ (l.getD i 0).toNat
theorem seenN_bit (l : List Int) (n : Nat) : ∀ i, (seenN l i).testBit n = true ↔ ∃ j, j < i ∧ (l.getD j 0).toNat = n
 | 0 => by simp [seenN]
 | i + 1 => by
   simp only [seenN, Nat.testBit_or, Bool.or_eq_true, seenN_bit l n i, Nat.testBit_two_pow, decide_eq_true_eq]
   constructor
   ·rintro (⟨j, hj, e⟩ | e)
    ·exact ⟨j, by omega, e⟩
    ·exact ⟨i, by omega, e⟩
   ·rintro ⟨j, hj, e⟩
    by_cases e2 : j = i
    ·subst e2; exact .inr e
    ·exact .inl ⟨j, by omega, e⟩
theorem hasI_tri (a : Nat) (x : Int) (H : Hp) (ha : a < 2 ^ 60) (hx : 0 ≤ x ∧ x < 60) : PTri Tryz.prog (fnA 95) [u64 (a : Nat), i64 x] H (boo (a.testBit x.toNat)) := by
 obtain ⟨n, rfl⟩ : ∃ n : Nat, x = (n : Int) := ⟨x.toNat, by omega⟩
 exact ghas_tri a n H ha (by omega)
theorem withI_tri (a : Nat) (x : Int) (H : Hp) (ha : a < 2 ^ 60) (hx : 0 ≤ x ∧ x < 60) : PTri Tryz.prog (fnA 65) [u64 (a : Nat), i64 x] H (u64 ((a ||| 2 ^ x.toNat : Nat) : Int)) := by
 obtain ⟨n, rfl⟩ : ∃ n : Nat, x = (n : Int) := ⟨x.toNat, by omega⟩
 exact with_tri a n H ha (by omega)
theorem isRow_tri (g : Gg) (l : List Int) (id : Nat) (H : Hp) (k : NearG g) (hl : l.length ≤ 1000) (ho : opB id g H) : PTri Tryz.prog (fnA 86) [.ref id 0 8 0 0, intsAV l] H (boo (rowB g l)) := by
 have nS := k.nS
 refine tri_v0 (fun _ => false) Tryz.func86 (by kernel_rfl) rfl (by simp only [List.length_append, List.length_cons, List.length_nil, Tryz.ntmps86]; decide) ?_
 skip
 simp only [vsAll, lenA, opA, dstOk, nilSliceOp, argFr, Nat.reduceLT, Nat.reduceEqDiff, ↓reduceIte, eq_self, wtAll, Tryz.ntmps86]
 refine vs_loop (σ := Nat) (fun i => i ≤ l.length ∧ (∀ j, j < i → 0 ≤ l.getD j 0 ∧ l.getD j 0 < g.N) ∧ (∀ a b, a < b → b < i → l.getD a 0 ≠ l.getD b 0) ∧ seenN l i < 2 ^ 60) (fun i => [(0, .ref id 0 8 0 0), (5, u64 (seenN l i : Nat)), (8, intsAV l), (9, i64 l.length), (10, i64 i)]) (fun _ => H) (fun i => l.length - i) 0 ⟨Nat.zero_le _, fun j hj => by ((try clear ho); omega), fun a b _ hb => by ((try clear ho); omega), by simp [seenN]⟩ ?_ HSub_rfl fun i hi => ?_
 ·simp only [vsAll, argFr, Nat.reduceEqDiff, ↓reduceIte, reduceCtorEq, eq_self, Int.natCast_zero, seenN]
 ·obtain ⟨hi, h1, h2, h3⟩ := hi
  simp only [vsAll, binA, binLitA, intA, opA, dstOk, Nat.reduceLT, Nat.reduceEqDiff, ↓reduceIte, reduceCtorEq, eq_self, ne_eq]
  refine condD (fun hd => ?_) (fun hd => ?_)
  ·have hio : i < l.length := by ((try clear ho); omega)
   simp only [vsAll, loadA, loadRow, partA, partOk, indexAddrA, okAll, stAll, opsA, opA, dstOk, nilSliceOp, Nat.reduceLT, Nat.reduceEqDiff, ↓reduceIte, reduceCtorEq, eq_self, wtAll, intF_at]
   refine ⟨⟨by ((try clear ho); omega), by ((try clear ho); omega)⟩, hio, callK_pure (wseam_tri g id _ _ k ho) ?_⟩
   simp only [vsAll, unA, opA, guardV, dstOk, Nat.reduceLT, Nat.reduceEqDiff, ↓reduceIte, reduceCtorEq, implies_true, eq_self]
   have hN : g.N ≤ 40 := nS
   refine gcall _ (fun hg => ⟨by simp only [vsAll, opA], by simp only [vsAll, okAll, opsA, opA, Nat.reduceEqDiff, ↓reduceIte, eq_self, hg], hasI_tri (seenN l i) (l.getD i 0) _ h3 (by rw [isSm_iff] at hg; ((try clear ho); omega))⟩) ?_
   simp only [vsAll, pickA, opA, dstOk, Nat.reduceLT, Nat.reduceEqDiff, ↓reduceIte, implies_true, eq_self]
   refine condV (fun hc => ?_) (fun hc => ?_)
   ·have hno : rowB g l = false := by
     rw [← Bool.not_eq_true]
     intro h
     rw [rowB_iff] at h
     have h4 := h.1 i hio
     rw [(isSm_iff g _).2 h4] at hc
     simp only [Bool.not_true, Bool.false_or] at hc
     rw [seenN_bit] at hc
     obtain ⟨j, hj, e⟩ := hc
     have h5 := h.1 j (by ((try clear ho); omega))
     exact h.2 j i hj hio (by ((try clear ho); omega))
    simp only [vsAll, opA, dstOk, nilSliceOp, resA, retA.eq_1, Nat.reduceLT, ↓reduceIte, eq_self, Tryz.results86, hno]
   ·rw [Bool.or_eq_false_iff, Bool.not_eq_false'] at hc
    obtain ⟨hc1, hc2⟩ := hc
    rw [isSm_iff] at hc1
    simp only [vsAll, okAll, stAll, opsA, opA, dstOk, Nat.reduceLT, Nat.reduceEqDiff, ↓reduceIte, reduceCtorEq, eq_self]
    refine callK_pure (withI_tri (seenN l i) (l.getD i 0) _ h3 (by ((try clear ho); omega))) ?_
    simp only [vsAll, binA, binLitA, intA, opA, dstOk, nilSliceOp, Nat.reduceLT, Nat.reduceEqDiff, ↓reduceIte, reduceCtorEq, eq_self]
    refine ⟨by simp only [InR_i64]; ((try clear ho); omega), loop_next (i + 1) ⟨by ((try clear ho); omega), fun j hj => ?_, fun a b hab hb => ?_, ?_⟩ (by ((try clear ho); omega)) ?_ HSub_rfl⟩
    ·by_cases e : j = i
     ·rw [e]; exact hc1
     ·exact h1 j (by ((try clear ho); omega))
    ·by_cases e : b = i
     ·subst e
      intro e2
      have : (seenN l b).testBit (l.getD b 0).toNat = true := (seenN_bit _ _ _).2 ⟨a, hab, by rw [e2]⟩
      rw [this] at hc2
      cases hc2
     ·exact h2 a b hab (by ((try clear ho); omega))
    ·simp only [seenN]
     exact Nat.or_lt_two_pow h3 (Nat.pow_lt_pow_right (by decide) (by ((try clear ho); omega)))
    ·simp only [vsAll, Nat.reduceEqDiff, ↓reduceIte, reduceCtorEq, eq_self, Int.natCast_add, Int.natCast_one, seenN]
  ·have ei : i = l.length := by ((try clear ho); omega)
   subst ei
   have hyes : rowB g l = true := rowB_iff.2 ⟨h1, h2⟩
   simp only [vsAll, opA, dstOk, nilSliceOp, resA, retA.eq_1, Nat.reduceLT, ↓reduceIte, eq_self, Tryz.results86, hyes]
end Go.Proofs.YtdopkbldjagmlaaGreat
end
section
set_option linter.unusedVariables false
set_option linter.unusedSimpArgs false
set_option maxHeartbeats 4000000
set_option maxRecDepth 100000
namespace Go.Proofs.YtdopkbldjagmlaaGreat
open Go.V
theorem nil_fast : nilM Tryz.prog 78 "caulkworks/gang.fathoms" := fun v w => by kernel_rfl
theorem nil_slow : nilM Tryz.prog 83 "caulkworks/gang.fathoms" := fun v w => by kernel_rfl
theorem meth_fast : methT Tryz.prog 78 "caulkworks/gang.fathoms" 158 := fun cv vs w => by kernel_rfl
theorem meth_slow : methT Tryz.prog 83 "caulkworks/gang.fathoms" 159 := fun cv vs w => by kernel_rfl
/-- How fast a crew is, in the fastest or the slowest truth. -/
def spd (c : Cw) (b : Bool) : Int := if b = true then c.hi else c.lo
abbrev fastA : AV := .iface 78 (.agg [])
abbrev slowA : AV := .iface 83 (.agg [])
def pcA (b : Bool) : AV := if b = true then fastA else slowA
theorem pcA_ok (b : Bool) : (pcA b).ok = True := by cases b <;> rfl
theorem pcA_st (b : Bool) : (pcA b).st = pcA b := by cases b <;> rfl
theorem fast_tri (c : Cw) (H : Hp) : PTri Tryz.prog (fnA 158) [.agg [], .agg c.cs] H (i64 c.hi) := by
 refine tri_v0 (fun _ => false) Tryz.func158 (by kernel_rfl) rfl (by simp only [List.length_append, List.length_cons, List.length_nil, Tryz.ntmps158]; decide) ?_
 simp only [vsAll, loadA, loadRow, partA, partOk, fieldAddrA, boxA, boxZ, opA, dstOk, nilSliceOp, resA, argFr, retA.eq_1, Nat.reduceAdd, Nat.reduceLT, Nat.reduceEqDiff, ↓reduceIte, eq_self, wtAll, Tryz.ntmps158, Tryz.results158]
theorem slow_tri (c : Cw) (H : Hp) : PTri Tryz.prog (fnA 159) [.agg [], .agg c.cs] H (i64 c.lo) := by
 refine tri_v0 (fun _ => false) Tryz.func159 (by kernel_rfl) rfl (by simp only [List.length_append, List.length_cons, List.length_nil, Tryz.ntmps159]; decide) ?_
 simp only [vsAll, loadA, loadRow, partA, partOk, fieldAddrA, boxA, boxZ, opA, dstOk, nilSliceOp, resA, argFr, retA.eq_1, Nat.reduceAdd, Nat.reduceLT, Nat.reduceEqDiff, ↓reduceIte, eq_self, wtAll, Tryz.ntmps159, Tryz.results159]
theorem pc_tri (c : Cw) (b : Bool) (H : Hp) : PTri Tryz.prog (.func (.method "caulkworks/gang.fathoms") [] []) [pcA b, .agg c.cs] H (i64 (spd c b)) := by
 cases b
 ·exact tri_inv meth_slow (slow_tri c H)
 ·exact tri_inv meth_fast (fast_tri c H)
theorem spd_le {g : Gg} (k : OkG g) {c : Nat} (hc : c < g.cw.length) (b : Bool) : 1 ≤ spd (g.crew c) b ∧ spd (g.crew c) b ≤ 12 := by
 have h := k.crew hc
 unfold okC at h
 unfold spd
 split <;> omega
abbrev stC (S : Nat) (t : Int) : List AV := [u64 (S : Nat), i64 t]
abbrev stA (S : Nat) (t : Int) : AV := .agg (stC S t)
theorem next_tri (g : Gg) (S : Nat) (t : Int) (c n : Nat) (b : Bool) (H : Hp) (k : OkG g) (hS : S < 2 ^ 60) (ht : 0 ≤ t ∧ t ≤ 100000) (hc : c < g.cw.length) (hn : n < g.N) (hb : 0 ≤ begV g n) :
  PTri Tryz.prog (fnA 89) [gP g, stA S t, i64 c, i64 n, pcA b] H (stA (S ||| 2 ^ n) (stT g (spd (g.crew c) b) t n)) := by
 have nS := k.nS
 have nC := k.nC
 have hN : g.N ≤ 5 := nS
 have hNe : g.N = g.sm.length := rfl
 have hpo := pcA_ok b
 have hps := pcA_st b
 have hsp := spd_le k hc b
 have hrl := red_le k hn
 have hra := redL_at g hn
 have hll : (redL g).length = g.N := redN_len g g.N
 have hsm := (k.seam hn).1
 have eS : g.sm.getD n sm0 = g.seam n := rfl
 have eC : g.cw.getD c cw0 = g.crew c := rfl
 obtain ⟨T, ep, hnil⟩ : ∃ T, pcA b = .iface T (.agg []) ∧ nilM Tryz.prog T "caulkworks/gang.fathoms" := by
  cases b
  ·exact ⟨83, rfl, nil_slow⟩
  ·exact ⟨78, rfl, nil_fast⟩
 have hpt := pc_tri (g.crew c) b
 rw [ep] at hpt ⊢
 clear hpo hps
 refine Tri.drop ?_
 refine tri_v0 (fun _ => false) Tryz.func89 (by kernel_rfl) rfl (by simp only [List.length_append, List.length_cons, List.length_nil, Tryz.ntmps89]; decide) ?_
 simp only [vsAll, boxA, boxZ, opA, allocA, dstOk, argFr, Nat.reduceAdd, Nat.reduceLT, eq_self, wtAll, Tryz.ntmps89]
 intro i10 hh_i10; (try simp only [Hp.set_none, ite_none] at hh_i10)
 refine vs_draw2 [0, 0, 0, 0, 0, 0, 0, 0, 0, 0, 0, 0, 0, 0] [] [0, 1, 2, 3, 4, 5, 6, 7, 8, 9, 10, 11, 12, 13] (by decide +kernel) ?_
 simp only [vsAll, loadA, loadRow, partA, partOk, fieldAddrA, indexAddrA, nilCheckA, okAll, stAll, opsA, opA, dstOk, argFr, Nat.reduceLT, Nat.reduceEqDiff, ↓reduceIte, reduceCtorEq, eq_self, wtAll, cwF_at, eC, hnil]
 refine ⟨⟨by ((try clear hh_i10); omega), by ((try clear hh_i10); omega)⟩, by ((try clear hh_i10); omega), ?_⟩
 refine qcall _ ⟨trivial, by simp only [vsAll, okAll, opsA, opA, Nat.reduceEqDiff, ↓reduceIte, eq_self], hpt _⟩ ?_
 generalize spd (g.crew c) b = sp at *
 simp only [vsAll, opA, dstOk, Nat.reduceLT, ↓reduceIte, eq_self]
 refine vs_draw2 [0, 0, 0, 0, 0, 0, 0, 0, 0, 0, 0, 0, 0, 0, 0, 0, 0, 0, 0, 0, 0, 0, 0, 0, 0, 0, 0, 0, 0, 0, 0, 1] [([0, 1, 2, 3, 4, 5, 6, 7, 8, 9, 10, 11, 12, 13, 14, 15, 16, 17, 18, 19, 20, 21, 22, 23, 24, 25, 26, 27, 28, 29, 30], [], 31)] [] (by decide +kernel) ?_
 simp only [vsAll, loadA, loadRow, partA, partOk, fieldAddrA, opA, dstOk, argFr, Nat.reduceLT, Nat.reduceEqDiff, ↓reduceIte, eq_self, wtAll]
 refine qcall _ ⟨trivial, by simp only [vsAll, okAll, opsA, opA, Nat.reduceEqDiff, ↓reduceIte, eq_self], with_tri S n _ hS (by ((try clear hh_i10); omega))⟩ ?_
 simp only [vsAll, loadA, loadRow, partA, partOk, fieldAddrA, indexAddrA, nilCheckA, cellA, cellsA, okParts, buildSliceA, partIdx, elemsA, lensA, partsA, partsOk, opA, dstOk, argFr, Nat.reduceAdd, Nat.reduceMul, Nat.reduceLT, Nat.reduceLeDiff, Nat.reduceEqDiff, ↓reduceIte, reduceCtorEq, eq_self, wtAll, intF_at]
 refine ⟨⟨by ((try clear hh_i10); omega), by ((try clear hh_i10); omega)⟩, by ((try clear hh_i10); omega), ?_⟩
 rw [hra, hrl.2.2.2 hb]
 refine qcall _ ⟨trivial, by simp only [vsAll, okAll, opsA, opA, ↓reduceIte, eq_self], later_tri t (begV g n) _⟩ ?_
 simp only [vsAll, binA, binLitA, intA, loadA, loadRow, partA, partOk, fieldAddrA, indexAddrA, nilCheckA, cellA, cellsA, fillA, okParts, partsA, partsOk, opA, newCells, okCells, storeObj, dstOk, resA, argFr, retA.eq_1, Nat.reduceAdd, Nat.reduceLT, Nat.reduceLeDiff, Nat.reduceEqDiff, ↓reduceIte, reduceCtorEq, eq_self, ne_eq, wtAll, Tryz.results89, smF_at, eS]
 have htk := tk_le k hn hsp
 have hbl := beg_le k hn
 unfold tkG at htk
 have hst : stT g sp t n = max t (begV g n) + ((g.seam n).fa + sp - 1).tdiv sp := rfl
 rw [hst]
 generalize ((g.seam n).fa + sp - 1).tdiv sp = d at *
 simp only [InR_i64]
 refine ⟨⟨by ((try clear hh_i10); omega), by ((try clear hh_i10); omega)⟩, by ((try clear hh_i10); omega), by ((try clear hh_i10); omega), by ((try clear hh_i10); omega), ⟨by ((try clear hh_i10); omega), by ((try clear hh_i10); omega)⟩, by ((try clear hh_i10); omega), dropR_pure rfl (by (repeat (first | exact HSub_rfl | refine HSub_put_eq (by simp only [vsAll, ↓reduceIte, eq_self, reduceCtorEq, Nat.reduceEqDiff, hh_i10]) ?_ | refine HSub_drop2 (by simp only [eq_self, hh_i10]) ?_ | refine HSub_keep_eq (by simp only [vsAll, ↓reduceIte, eq_self, reduceCtorEq, Nat.reduceEqDiff, hh_i10]) ?_)))⟩
end Go.Proofs.YtdopkbldjagmlaaGreat
end
section
set_option linter.unusedVariables false
set_option linter.unusedSimpArgs false
set_option maxHeartbeats 4000000
set_option maxRecDepth 100000
namespace Go.Proofs.YtdopkbldjagmlaaGreat
open Go.V
abbrev ggA (g : Gg) : AV := .rptr 1 1 (fun _ => [gP g]) 0 0
abbrev hasF (g : Gg) (c : Nat) : AV := .func (.func 95) [u64 (((g.crew c).st.toNat : Nat) : Int)] []
abbrev knG (g : Gg) (c : Nat) : AV := .func (.func 119) [] [.rptr 1 1 (fun _ => [hasF g c]) 0 0, ggA g]
theorem st_lt {g : Gg} (k : OkG g) {c : Nat} (hc : c < g.cw.length) : 0 ≤ (g.crew c).st ∧ (g.crew c).st.toNat < 2 ^ g.N ∧ (g.crew c).st.toNat < 32 := by
 have h := (k.crew hc).2.2.2
 have h5 := k.nS
 have hp := lt32 (S := (g.crew c).st.toNat) h5 (by omega)
 exact ⟨h.1, by unfold Gg.N; omega, hp⟩
theorem knows1_tri (g : Gg) (c n : Nat) (H : Hp) (k : OkG g) (hc : c < g.cw.length) (hn : n < g.N) : PTri Tryz.prog (knG g c) [i64 n] H (boo (knB g c n)) := by
 have nS := k.nS
 have hN : g.N ≤ 5 := nS
 have hst := st_lt k hc
 have hrl := red_le k hn
 have hra := redL_at g hn
 have hll : (redL g).length = g.N := redN_len g g.N
 have ek : knB g c n = ((g.crew c).st.toNat.testBit n && decide (redV g n < 10000)) := by
  unfold knB
  congr 1
  exact decide_eq_decide.2 hrl.2.2.1.symm
 rw [ek]
 refine tri_v0 (fun _ => false) Tryz.func119 (by kernel_rfl) rfl (by simp only [List.length_append, List.length_cons, List.length_nil, Tryz.ntmps119]; decide) ?_
 simp only [vsAll, loadA, loadRow, partA, partOk, okAll, stAll, opsA, opA, dstOk, nilSliceOp, argFr, Nat.reduceLT, Nat.reduceEqDiff, ↓reduceIte, reduceCtorEq, eq_self, wtAll, Tryz.ntmps119]
 refine callK_pure (tri_bound (ghas_tri _ n _ (by omega) (by omega))) ?_
 simp only [vsAll, binA, binLitA, intA, loadA, loadRow, partA, partOk, fieldAddrA, indexAddrA, nilCheckA, pickA, opA, guardV, dstOk, nilSliceOp, resA, argFr, retA.eq_1, Nat.reduceLT, Nat.reduceEqDiff, ↓reduceIte, reduceCtorEq, implies_true, eq_self, wtAll, Tryz.results119, intF_at]
 rw [hra]
 exact ⟨fun h => ⟨h, h, by omega, by omega⟩, fun h => ⟨h, by omega⟩, rfl⟩
theorem azT86q : azT Tryz.prog 67 = some (1, 1, [.nilFunc]) := by kernel_rfl
theorem knowsM_tri (g : Gg) (c : Nat) (H : Hp) (k : OkG g) (hc : c < g.cw.length) : Tri Tryz.prog (fnA 87) [gP g, i64 c] H fun r H' => ∃ id, H id = none ∧ r = .ret (.func (.func 119) [] [.ref id 0 1 0 0, ggA g]) ∧ H' = H.set id (.box 1 1 fun _ => [hasF g c]) := by
 have nC := k.nC
 have hst := st_lt k hc
 have eC : g.cw.getD c cw0 = g.crew c := rfl
 have eN : (g.crew c).st = (((g.crew c).st.toNat : Nat) : Int) := by omega
 refine Tri.drop ?_
 refine tri_v0 (fun _ => false) Tryz.func87 (by kernel_rfl) rfl (by simp only [List.length_append, List.length_cons, List.length_nil, Tryz.ntmps87]; decide) ?_
 simp only [vsAll, loadA, loadRow, partA, partOk, fieldAddrA, indexAddrA, nilCheckA, boxA, boxZ, cellA, cellsA, convA, okAll, stAll, opsA, opA, allocA, newCells, okCells, storeObj, dstOk, nilSliceOp, resA, argFr, retA.eq_1, Nat.reduceLT, Nat.reduceEqDiff, ↓reduceIte, eq_self, wtAll, Tryz.ntmps87, Tryz.results87, cwF_at, eC, azT86q]
 rw [eN]
 refine ⟨⟨by omega, by omega⟩, by omega, by simp only [InR_u64]; omega, fun id hid => ⟨_, HSub_rfl, id, hid, rfl, by rw [Hp.set_set]⟩⟩
theorem knows_tri (g : Gg) (c : Nat) (H : Hp) (k : OkG g) (hc : c < g.cw.length) : PTri Tryz.prog (fnA 87) [gP g, i64 c] H (knG g c) := by
 refine Tri.thawX (knowsM_tri g c H k hc) fun r H' hr => ?_
 obtain ⟨id, hid, rfl, rfl⟩ := hr
 refine .inr ⟨_, knG g c, id, 1, 1, fun _ => [hasF g c], rfl, .inl ⟨Hp.set_same _ _ _, ?_⟩, rfl, set_del hid⟩
 refine .func rfl rfl (fun q hq => absurd hq (Nat.not_lt_zero q)) fun q hq => ?_
 match q, hq with
 | 0, _ => exact .leaf ⟨0, 0, rfl, rfl⟩
 | 1, _ => exact .same _
end Go.Proofs.YtdopkbldjagmlaaGreat
end
section
set_option linter.unusedVariables false
set_option linter.unusedSimpArgs false
namespace Go.Proofs.YtdopkbldjagmlaaGreat
open Go.V
def Gg.F (g : Gg) : Nat := 2 ^ g.N - 1
def Gg.A (g : Gg) : Nat := 2 ^ g.cw.length - 1
theorem F_bit (g : Gg) {i : Nat} (h : i < g.N) : g.F.testBit i = true := full_bit _ _ h
theorem A_bit (g : Gg) {c : Nat} (h : c < g.cw.length) : g.A.testBit c = true := full_bit _ _ h
theorem find_congr {α : Type} {p q : α → Bool} : ∀ l : List α, (∀ a ∈ l, p a = q a) → l.find? p = l.find? q
 | [], _ => rfl
 | a :: l, h => by rw [List.find?_cons, List.find?_cons, h a (by simp), find_congr l fun b hb => h b (by simp [hb])]
/-- The first deal that goes on from one, and is done at an hour. -/
def grdD (g : Gg) (m : Int) : Nat → List Int → List Int
 | 0, b => b
 | n + 1, b => match (List.range g.cw.length).find? (fun c : Nat => decide (dO g g.F g.A n (b ++ [(c : Int)]) = some m)) with
   | some c => grdD g m n (b ++ [(c : Int)])
   | none => b
theorem any_dls {g : Gg} {n : Nat} {b : List Int} {m : Int} (hm : ∀ l ∈ dls g g.F g.A n b, m ≤ domI g l) : (dls g g.F g.A n b).any (fun l => decide (domI g l = m)) = decide (dO g g.F g.A n b = some m) := by
 have h := dO_min g g.F g.A n b
 rw [Bool.eq_iff_iff, List.any_eq_true, decide_eq_true_eq]
 constructor
 ·rintro ⟨l, hl, e⟩
  rw [decide_eq_true_eq] at e
  obtain ⟨m', em, hle⟩ := h.le _ ⟨l, hl, e⟩
  obtain ⟨l', hl', e'⟩ := h.is m' em
  have := hm l' hl'
  rw [em]
  congr 1
  omega
 ·intro e
  obtain ⟨l, hl, e'⟩ := h.is m e
  exact ⟨l, hl, by simpa using e'⟩
theorem grdD_find {g : Gg} {m : Int} : ∀ n b, b.length + n = g.N → dO g g.F g.A n b = some m → (dls g g.F g.A n b).find? (fun l => decide (domI g l = m)) = some (grdD g m n b) := by
 intro n
 induction n with
 | zero =>
   intro b _ h
   rw [dO_zero] at h
   have e : domI g b = m := by unfold domI; rw [h]; rfl
   simp [dls, grdD, h, e]
 | succ n ih =>
   intro b hl h
   have hle : ∀ l ∈ dls g g.F g.A (n + 1) b, m ≤ domI g l := fun l hl => by
    obtain ⟨m', em, h2⟩ := (dO_min g g.F g.A (n + 1) b).le _ ⟨l, hl, rfl⟩
    rw [h] at em
    cases em
    exact h2
   have hF := F_bit g (i := b.length) (by omega)
   have hex := any_dls hle
   rw [h, decide_eq_true rfl] at hex
   simp only [dls, if_pos hF] at hle hex ⊢
   rw [find_flat]
   have e : (List.range g.cw.length).find? (fun c : Nat => (if g.A.testBit c = true then dls g g.F g.A n (b ++ [(c : Int)]) else []).any fun l => decide (domI g l = m)) = (List.range g.cw.length).find? (fun c : Nat => decide (dO g g.F g.A n (b ++ [(c : Int)]) = some m)) := by
    refine find_congr _ fun c hc => ?_
    rw [List.mem_range] at hc
    rw [if_pos (A_bit g hc)]
    refine any_dls fun l hl => hle l ?_
    rw [List.mem_flatMap]
    exact ⟨c, List.mem_range.2 hc, by rw [if_pos (A_bit g hc)]; exact hl⟩
   rw [e]
   simp only [grdD]
   cases hf : (List.range g.cw.length).find? (fun c : Nat => decide (dO g g.F g.A n (b ++ [(c : Int)]) = some m)) with
   | none =>
     exfalso
     obtain ⟨l, hl, hm⟩ := List.any_eq_true.1 hex
     rw [List.mem_flatMap] at hl
     obtain ⟨c, hc, hl⟩ := hl
     rw [List.mem_range] at hc
     rw [if_pos (A_bit g hc)] at hl
     rw [List.find?_eq_none] at hf
     refine hf c (List.mem_range.2 hc) ?_
     rw [← any_dls fun l hl => hle l ?_]
     ·exact List.any_eq_true.2 ⟨l, hl, hm⟩
     ·rw [List.mem_flatMap]
      exact ⟨c, List.mem_range.2 hc, by rw [if_pos (A_bit g hc)]; exact hl⟩
   | some c =>
     have hc := List.mem_range.1 (List.mem_of_find?_eq_some hf)
     have hs := List.find?_some hf
     rw [decide_eq_true_eq] at hs
     simp only [if_pos (A_bit g hc)]
     exact ih _ (by simp; omega) hs
/-- The first of the deals that are done soonest. -/
def bstD (g : Gg) : List Int := mnG (domI g) (dlsL g g.F g.A) [] (dlsL g g.F g.A).length
theorem bstD_eq {g : Gg} (h : 0 < (dlsL g g.F g.A).length) : dO g g.F g.A g.N [] = some (domI g (bstD g)) ∧ grdD g (domI g (bstD g)) g.N [] = bstD g ∧ DealOf g g.F g.A (bstD g) := by
 obtain ⟨p, hp, e, h1, h2⟩ := mnG_spec (domI g) (dlsL g g.F g.A) [] h (dlsL g g.F g.A).length (Nat.le_refl _)
 have eb : bstD g = (dlsL g g.F g.A).getD p [] := e
 have hmem : bstD g ∈ dlsL g g.F g.A := by rw [eb]; exact mem_getD _ _ _ hp
 have hm := dO_min g g.F g.A g.N []
 have e0 : dO g g.F g.A g.N [] = some (domI g (bstD g)) := by
  obtain ⟨m, em, hle⟩ := hm.le _ ⟨_, hmem, rfl⟩
  obtain ⟨l, hl, el⟩ := hm.is m em
  obtain ⟨q, hq, eq⟩ := getD_mem [] hl
  have := h1 q hq
  have eq' : (dlsL g g.F g.A).getD q [] = l := eq
  rw [eq', ← eb] at this
  rw [em]
  congr 1
  omega
 refine ⟨e0, ?_, mem_deals.1 hmem⟩
 have hf := grdD_find g.N [] (by simp) e0
 have hf2 : (dlsL g g.F g.A).find? (fun l => decide (domI g l = domI g (bstD g))) = some (bstD g) := by
  rw [List.find?_eq_some_iff_getElem]
  refine ⟨by simp, p, hp, ?_, fun j hj => ?_⟩
  ·rw [eb, List.getD_eq_getElem?_getD, List.getElem?_eq_getElem hp]; rfl
  ·have := h2 j hj
   rw [← eb, List.getD_eq_getElem?_getD, List.getElem?_eq_getElem (by omega)] at this
   simp only [Option.getD_some] at this
   simp only [Bool.not_eq_true', decide_eq_false_iff_not]
   omega
 have : some (grdD g (domI g (bstD g)) g.N []) = some (bstD g) := hf.symm.trans hf2
 exact Option.some.inj this
end Go.Proofs.YtdopkbldjagmlaaGreat
end
section
set_option linter.unusedVariables false
set_option linter.unusedSimpArgs false
namespace Go.Proofs.YtdopkbldjagmlaaGreat
open Go.V
def genB (g : Gg) (C : Nat) : Bool := (dO g g.F C g.N []).isSome
def leaB (g : Gg) (s : Nat) : Bool := (dO g (dif g.F s) g.A g.N []).isSome
theorem genB_iff {g : Gg} {C : Nat} : genB g C = true ↔ ∃ l, DealOf g g.F C l := dO_some
theorem leaB_iff {g : Gg} {s : Nat} : leaB g s = true ↔ ∃ l, DealOf g (dif g.F s) g.A l := dO_some
theorem dif_all (a : Nat) : dif a a = 0 := by
 refine Nat.eq_of_testBit_eq fun i => ?_
 rw [dif_bit, Nat.zero_testBit]
 cases a.testBit i <;> rfl
theorem domN_zero (g : Gg) (f : Nat → Nat) (h : ∀ c, f c = 0) : ∀ n, domN g f n = some 0
 | 0 => rfl
 | n + 1 => by
   simp only [domN]
   rw [domN_zero g f h n, h n, end_zero]
   rfl
/-- All seams can be left. -/
theorem lea_all (g : Gg) : leaB g g.F = true := by
 rw [leaB_iff, dif_all]
 have ha : ∀ i, i < g.N → (List.replicate g.N (-1 : Int)).getD i 0 = -1 := fun i hi => by simp [List.getD_eq_getElem?_getD, hi]
 refine ⟨List.replicate g.N (-1), by simp, fun i hi => ?_, ?_⟩
 ·rw [crOk, Nat.zero_testBit, if_neg (by decide)]
  exact ha i hi
 ·have : ∀ c, crS (List.replicate g.N (-1 : Int)) c = 0 := fun c => by
   refine Nat.eq_of_testBit_eq fun i => ?_
   rw [Nat.zero_testBit, ← Bool.not_eq_true, crS_bit]
   rintro ⟨h1, h2⟩
   rw [List.length_replicate] at h1
   rw [ha i h1] at h2
   omega
  rw [domO, domN_zero g _ this]
  rfl
theorem lea_some {g : Gg} (h : g.N ≤ 8) : ∃ s, fewV (leaB g) g.N = some s ∧ LeastSet (leaB g) g.N s := by
 cases e : fewV (leaB g) g.N with
 | none =>
   have := fewV_none h e g.F (by unfold Gg.F; have := Nat.two_pow_pos g.N; omega)
   rw [lea_all] at this
   cases this
 | some s => exact ⟨s, rfl, fewV_some e⟩
/-- No seam must be left just if there is a deal. -/
theorem lea_zero {g : Gg} (h : g.N ≤ 8) : fewV (leaB g) g.N = some 0 ↔ 0 < (dlsL g g.F g.A).length := by
 have h0 : leaB g 0 = true ↔ 0 < (dlsL g g.F g.A).length := by
  have e : dif g.F 0 = g.F := by
   refine Nat.eq_of_testBit_eq fun i => ?_
   rw [dif_bit, Nat.zero_testBit]
   cases g.F.testBit i <;> rfl
  rw [leaB_iff, e]
  constructor
  ·rintro ⟨l, hl⟩
   exact List.length_pos_of_mem (mem_deals.2 hl)
  ·intro hp
   exact ⟨(dlsL g g.F g.A).getD 0 [], mem_deals.1 (mem_getD _ _ _ hp)⟩
 rw [← h0]
 obtain ⟨s, e, hs⟩ := lea_some h
 rw [e]
 constructor
 ·intro es
  cases es
  exact (outF_lt _ _ _ _ _ e).2
 ·intro hz
  have hz2 : LeastSet (leaB g) g.N 0 := by
   refine ⟨Nat.two_pow_pos _, hz, fun i hi hfi => ?_⟩
   have : pop 0 = 0 := rfl
   omega
  rw [hs.uniq hz2]
end Go.Proofs.YtdopkbldjagmlaaGreat
end
section
set_option linter.unusedVariables false
set_option linter.unusedSimpArgs false
set_option maxHeartbeats 4000000
set_option maxRecDepth 100000
namespace Go.Proofs.YtdopkbldjagmlaaGreat
open Go.V
abbrev rwA (l : List Int) : AV := .rptr 1 1 (fun _ => [intsAV l]) 0 0
def paP (b : Bool) : AV := .rptr 1 1 (fun _ => [pcA b]) 0 0
abbrev runF (g : Gg) (c : Nat) (l : List Int) (b : Bool) : AV := .func (.func 88) [] [rwA l, ggA g, bx c, .rptr 1 1 (fun _ => [pcA b]) 0 0]
def runR (g : Gg) (c : Nat) (l : List Int) (b : Bool) (H : Hp) : Res → Hp → Prop := fun r H' => H' = H ∧ r = if kwnB g c l = true then .ret (runF g c l b) else .pan (.iface 121 (i64 11))
theorem row_nat {g : Gg} {l : List Int} (h : rowB g l = true) {i : Nat} (hi : i < l.length) : ∃ n : Nat, l.getD i 0 = (n : Int) ∧ n < g.N := by
 have := (rowB_iff.1 h).1 i hi
 exact ⟨(l.getD i 0).toNat, by omega, by omega⟩
theorem row_len {g : Gg} (k : OkG g) {l : List Int} (h : rowB g l = true) : l.length ≤ 5 := by
 have hN : g.N ≤ 5 := k.nS
 obtain ⟨h1, h2⟩ := rowB_iff.1 h
 have hr : RowOf g.F l := ⟨fun i hi => by
  obtain ⟨n, e, hn⟩ := row_nat h hi
  exact ⟨n, e, full_bit _ _ hn⟩, h2⟩
 have hF : g.F < 32 := by
  have := Nat.two_pow_pos g.N
  have := Nat.pow_le_pow_right (n := 2) (by decide) hN
  unfold Gg.F
  omega
 have h3 := (rowOf_full hF hr).1
 have h4 : pop g.F = g.N := pop_full g.N (by omega)
 omega
theorem pcA_eq (b : Bool) : ∃ T, pcA b = .iface T (.agg []) := by cases b <;> exact ⟨_, rfl⟩
theorem run_tri (g : Gg) (c : Nat) (l : List Int) (b : Bool) (H : Hp) (k : OkG g) (hc : c < g.cw.length) (hr : rowB g l = true) : Tri Tryz.prog (fnA 46) [gP g, i64 c, intsAV l, pcA b] H (runR g c l b H) := by
 have hl := row_len k hr
 obtain ⟨T, ep⟩ := pcA_eq b
 unfold runR runF
 rw [ep]
 refine tri_vs (m := fun _ => false) Tryz.func46 (by kernel_rfl) rfl (by simp only [List.length_append, List.length_cons, List.length_nil, Tryz.ntmps46]; decide) ?_
 simp only [vsAll, loadA, loadRow, partA, partOk, boxA, boxZ, cellA, okAll, stAll, opsA, opA, dstOk, nilSliceOp, argFr, Nat.reduceLT, Nat.reduceEqDiff, ↓reduceIte, eq_self, wtAll, Tryz.ntmps46]
 refine callK_pure (knows_tri g c _ k hc) ?_
 simp only [vsAll, loadA, loadRow, partA, partOk, lenA, opA, dstOk, nilSliceOp, Nat.reduceLT, Nat.reduceEqDiff, ↓reduceIte, eq_self, wtAll]
 refine vs_loop (σ := Nat) (fun i => i ≤ l.length ∧ ∀ j, j < i → knB g c (l.getD j 0).toNat = true) (fun i => [(4, ggA g), (5, bx c), (6, rwA l), (7, .rptr 1 1 (fun _ => [.iface T (.agg [])]) 0 0), (9, knG g c), (15, intsAV l), (16, i64 l.length), (17, i64 i)]) (fun _ => H) (fun i => l.length - i) 0 ⟨Nat.zero_le _, fun j hj => by omega⟩ ?_ HSub_rfl fun i hi => ?_
 ·simp only [vsAll, Nat.reduceEqDiff, ↓reduceIte, eq_self, Int.natCast_zero]
 ·obtain ⟨hi, hall⟩ := hi
  simp only [vsAll, binA, binLitA, intA, opA, dstOk, Nat.reduceLT, Nat.reduceEqDiff, ↓reduceIte, eq_self]
  refine condD (fun hd => ?_) (fun hd => ?_)
  ·have hio : i < l.length := by omega
   obtain ⟨n, en, hn⟩ := row_nat hr hio
   simp only [vsAll, loadA, loadRow, partA, partOk, indexAddrA, okAll, stAll, opsA, opA, dstOk, nilSliceOp, Nat.reduceLT, Nat.reduceEqDiff, ↓reduceIte, eq_self, wtAll, intF_at, en]
   refine ⟨⟨by omega, by omega⟩, hio, callK_pure (knows1_tri g c n _ k hc hn) ?_⟩
   simp only [vsAll, okAll, stAll, opsA, opA, dstOk, Nat.reduceLT, ↓reduceIte, eq_self]
   refine gask_call (fun hv => ?_) (fun hv => ?_)
   ·simp only [vsAll, binA, binLitA, intA, opA, dstOk, Nat.reduceLT, Nat.reduceEqDiff, ↓reduceIte, eq_self]
    refine ⟨by simp only [InR_i64]; omega, loop_next (i + 1) ⟨by omega, fun j hj => ?_⟩ (by omega) ?_ HSub_rfl⟩
    ·by_cases e : j = i
     ·subst e; rw [en, Int.toNat_natCast]; exact hv
     ·exact hall j (by omega)
    ·simp only [vsAll, Nat.reduceEqDiff, ↓reduceIte, eq_self, Int.natCast_add, Int.natCast_one]
   ·have hno : kwnB g c l = false := by
     rw [← Bool.not_eq_true, kwn_iff]
     intro h
     have := h i hio
     rw [en, Int.toNat_natCast, hv] at this
     cases this
    simp only [vsAll, eq_self]
    exact ⟨H, HSub_rfl, rfl, by rw [hno]; rfl⟩
  ·have ei : i = l.length := by omega
   subst ei
   have hyes : kwnB g c l = true := kwn_iff.2 hall
   simp only [vsAll, okAll, stAll, opsA, opA, dstOk, nilSliceOp, Nat.reduceLT, Nat.reduceEqDiff, ↓reduceIte, eq_self]
   refine ret0 ?_
   simp only [vsAll, resA, retA.eq_1, ↓reduceIte, eq_self, Tryz.results46]
   exact ⟨H, HSub_rfl, rfl, by rw [hyes]; rfl⟩
end Go.Proofs.YtdopkbldjagmlaaGreat
end
section
set_option linter.unusedVariables false
set_option linter.unusedSimpArgs false
set_option maxHeartbeats 4000000
set_option maxRecDepth 100000
namespace Go.Proofs.YtdopkbldjagmlaaGreat
open Go.V
theorem donN_le {g : Gg} (k : OkG g) {sp : Int} (hs : 1 ≤ sp ∧ sp ≤ 12) {l : List Int} (hr : rowB g l = true) : ∀ i, i ≤ l.length → 0 ≤ donN g sp l i ∧ donN g sp l i ≤ 24 + 60 * (i : Int)
 | 0, _ => by simp only [donN]; omega
 | i + 1, h => by
   have ih := donN_le k hs hr i (by omega)
   obtain ⟨n, en, hn⟩ := row_nat hr (show i < l.length by omega)
   have h1 := tk_le k hn hs
   have h2 := beg_le k hn
   simp only [donN, stT, en, Int.toNat_natCast]
   omega
theorem seenN_lt {g : Gg} (k : OkG g) {l : List Int} (hr : rowB g l = true) : ∀ i, i ≤ l.length → seenN l i < 2 ^ 5
 | 0, _ => by simp [seenN]
 | i + 1, h => by
   have ih := seenN_lt k hr i (by omega)
   have hN : g.N ≤ 5 := k.nS
   obtain ⟨n, en, hn⟩ := row_nat hr (show i < l.length by omega)
   simp only [seenN, en, Int.toNat_natCast]
   exact Nat.or_lt_two_pow ih (Nat.pow_lt_pow_right (by decide) (by omega))
def rnL (g : Gg) (sp : Int) (l : List Int) : List (List AV) := (List.range l.length).map fun i : Nat => [i64 (i : Int), stA (seenN l (i + 1)) (donN g sp l (i + 1))]
theorem rnL_drop (g : Gg) (sp : Int) (l : List Int) {i : Nat} (hi : i < l.length) : (rnL g sp l).drop i = [i64 i, stA (seenN l (i + 1)) (donN g sp l (i + 1))] :: (rnL g sp l).drop (i + 1) := by
 rw [List.drop_eq_getElem_cons (by simpa [rnL] using hi)]
 simp [rnL]
theorem run1_tri (g : Gg) (c : Nat) (l : List Int) (b : Bool) (k : OkG g) (hc : c < g.cw.length) (hr : rowB g l = true) (hk : kwnB g c l = true) (yf : Fn) (H : Hp) (Pre K : Hp → Prop)
  (hit : IterB Tryz.prog (.func yf [] []) Pre (rnL g (spd (g.crew c) b) l) H K) :
  Tri Tryz.prog (runF g c l b) [.func yf [] []] H fun r H' => (∃ v, r = .ret v) ∧ K H' := by
 have hll := row_len k hr
 have hsp := spd_le k hc b
 obtain ⟨T, ep⟩ := pcA_eq b
 unfold runF
 have hnx : ∀ (S : Nat) (t : Int) (n : Nat) (H : Hp), S < 2 ^ 60 → (0 ≤ t ∧ t ≤ 100000) → n < g.N → 0 ≤ begV g n → PTri Tryz.prog (fnA 89) [gP g, stA S t, i64 c, i64 n, .iface T (.agg [])] H (stA (S ||| 2 ^ n) (stT g (spd (g.crew c) b) t n)) := fun S t n H h1 h2 h3 h4 => by
  rw [← ep]; exact next_tri g S t c n b H k h1 h2 hc h3 h4
 rw [ep]
 generalize spd (g.crew c) b = sp at *
 refine Tri.drop ?_
 refine tri_v0 (fun _ => false) Tryz.func88 (by kernel_rfl) rfl (by simp only [List.length_append, List.length_cons, List.length_nil, Tryz.ntmps88]; decide) ?_
 simp only [vsAll, loadA, loadRow, partA, partOk, lenA, opA, allocA, dstOk, argFr, Nat.reduceAdd, Nat.reduceLT, Nat.reduceEqDiff, ↓reduceIte, eq_self, wtAll, Tryz.ntmps88]
 intro i6 hh_i6; (try simp only [Hp.set_none, ite_none] at hh_i6)
 have hsl : ∀ i, i ≤ l.length → seenN l i < 2 ^ 60 := fun i hi => Nat.lt_of_lt_of_le (seenN_lt k hr i hi) (by decide)
 refine vs_loop (σ := Nat × Hp) (fun x => x.1 ≤ l.length ∧ x.2 i6 = none ∧ IterB Tryz.prog (.func yf [] []) Pre ((rnL g sp l).drop x.1) x.2 K)
  (fun x => [(0, .func yf [] []), (2, ggA g), (3, bx c), (4, .rptr 1 1 (fun _ => [.iface T (.agg [])]) 0 0), (6, .ref i6 0 2 0 0), (9, intsAV l), (10, i64 l.length), (11, i64 x.1)]) (fun x => x.2.set i6 (.box 2 1 fun _ => stC (seenN l x.1) (donN g sp l x.1))) (fun x => l.length - x.1) (0, H) ⟨Nat.zero_le _, hh_i6, hit⟩ ?_ (HSub.refl _) fun x hx => ?_
 ·simp only [vsAll, argFr, Nat.reduceEqDiff, ↓reduceIte, reduceCtorEq, eq_self, Int.natCast_zero]
 ·obtain ⟨i, H1⟩ := x
  obtain ⟨hi, hn6, hx⟩ := hx
  simp only [] at hi hn6 hx
  simp only [vsAll, binA, binLitA, intA, opA, dstOk, Nat.reduceLT, Nat.reduceEqDiff, ↓reduceIte, reduceCtorEq, eq_self]
  refine condD (fun hd => ?_) (fun hd => ?_)
  ·have his : i < l.length := by ((try clear hh_i6); omega)
   rw [rnL_drop g sp l his] at hx
   obtain ⟨hpre, hx⟩ := hx
   obtain ⟨n, en, hn⟩ := row_nat hr his
   have hkn := kwn_iff.1 hk i his
   rw [en, Int.toNat_natCast] at hkn
   have hbg : 0 ≤ begV g n := by
    unfold knB at hkn
    rw [Bool.and_eq_true, decide_eq_true_eq] at hkn
    exact hkn.2
   have hdl := donN_le k hsp hr i (by ((try clear hh_i6); omega))
   have e1 : seenN l (i + 1) = seenN l i ||| 2 ^ n := by simp only [seenN, en, Int.toNat_natCast]
   have e2 : donN g sp l (i + 1) = stT g sp (donN g sp l i) n := by simp only [donN, en, Int.toNat_natCast]
   skip
   simp only [vsAll, loadA, loadRow, partA, partOk, indexAddrA, okAll, stAll, opsA, opA, dstOk, nilSliceOp, Nat.reduceLT, Nat.reduceEqDiff, ↓reduceIte, reduceCtorEq, eq_self, wtAll, intF_at, en]
   refine ⟨⟨by ((try clear hh_i6 hn6); omega), by ((try clear hh_i6 hn6); omega)⟩, his, ?_⟩
   refine callK_pure (hnx (seenN l i) (donN g sp l i) n _ (hsl i hi) (by ((try clear hh_i6 hn6); omega)) hn hbg) ?_
   rw [← e1, ← e2]
   simp only [vsAll, loadA, loadRow, partA, partOk, cellA, okAll, stAll, opsA, opA, newCells, okCells, storeObj, dstOk, Nat.reduceAdd, Nat.reduceLT, Nat.reduceEqDiff, ↓reduceIte, reduceCtorEq, eq_self, wtAll]
   rw [Hp.set_set]
   refine callK (hx i6 _ hn6) ?_
   rintro r H'' (⟨rfl, H2, hn2, rfl, hr2⟩ | ⟨rfl, hr2⟩)
   ·simp only [vsAll, binA, binLitA, intA, unA, opA, dstOk, Nat.reduceLT, Nat.reduceEqDiff, ↓reduceIte, reduceCtorEq, eq_self]
    refine ⟨by simp only [InR_i64]; ((try clear hh_i6 hn6); omega), loop_next (i + 1, H2) ⟨by simp only []; ((try clear hh_i6 hn6); omega), hn2, hr2⟩ (by simp only []; ((try clear hh_i6 hn6); omega)) ?_ (HSub.refl _)⟩
    simp only [vsAll, Nat.reduceEqDiff, ↓reduceIte, reduceCtorEq, eq_self, Int.natCast_add, Int.natCast_one]
   ·simp only [vsAll, unA, opA, dstOk, resA, retA.eq_2, Nat.reduceLT, ↓reduceIte, eq_self, Tryz.results88]
    exact ⟨_, HSub_rfl, ⟨_, rfl⟩, hr2⟩
  ·have ei : i = l.length := by ((try clear hh_i6); omega)
   subst ei
   have : (rnL g sp l).drop l.length = [] := List.drop_eq_nil_of_le (by simp [rnL])
   rw [this] at hx
   simp only [vsAll, resA, retA.eq_2, ↓reduceIte, eq_self, Tryz.results88]
   exact ⟨H1, HSub_drop2 hn6 HSub_rfl, ⟨_, rfl⟩, hx⟩
end Go.Proofs.YtdopkbldjagmlaaGreat
end
section
set_option linter.unusedVariables false
set_option linter.unusedSimpArgs false
set_option maxHeartbeats 4000000
set_option maxRecDepth 100000
namespace Go.Proofs.YtdopkbldjagmlaaGreat
open Go.V
abbrev isRF (c : Int) (l : List Int) : AV := .func (.func 85) [] [bx c, rwA l]
def vRow (g : Gg) (c : Int) (l : List Int) : Bool := isCw g c && rowB g l
theorem isRF_tri (c : Int) (l : List Int) (H : Hp) : PTri Tryz.prog (fnA 45) [i64 c, intsAV l] H (isRF c l) := by
 refine tri_v0 (fun _ => false) Tryz.func45 (by kernel_rfl) rfl (by simp only [List.length_append, List.length_cons, List.length_nil, Tryz.ntmps45]; decide) ?_
 simp only [vsAll, boxA, boxZ, cellA, okAll, stAll, opsA, opA, dstOk, nilSliceOp, resA, argFr, retA.eq_1, Nat.reduceLT, Nat.reduceEqDiff, ↓reduceIte, eq_self, wtAll, Tryz.ntmps45, Tryz.results45]
theorem isRF1_tri (g : Gg) (c : Int) (l : List Int) (id : Nat) (H : Hp) (k : NearG g) (hl : l.length ≤ 1000) (ho : opB id g H) : PTri Tryz.prog (isRF c l) [.ref id 0 8 0 0] H (boo (vRow g c l)) := by
 refine tri_v0 (fun _ => false) Tryz.func85 (by kernel_rfl) rfl (by simp only [List.length_append, List.length_cons, List.length_nil, Tryz.ntmps85]; decide) ?_
 skip
 simp only [vsAll, loadA, loadRow, partA, partOk, okAll, stAll, opsA, opA, dstOk, nilSliceOp, argFr, Nat.reduceLT, Nat.reduceEqDiff, ↓reduceIte, reduceCtorEq, eq_self, wtAll, Tryz.ntmps85]
 refine callK_pure (wcrew_tri g id c _ k ho) ?_
 simp only [vsAll, loadA, loadRow, partA, partOk, opA, guardV, dstOk, argFr, Nat.reduceLT, Nat.reduceEqDiff, ↓reduceIte, reduceCtorEq, implies_true, eq_self, wtAll]
 refine gcall _ (fun hg => ⟨by simp only [vsAll, opA], by simp only [vsAll, okAll, opsA, opA, Nat.reduceEqDiff, ↓reduceIte, eq_self, hg], isRow_tri g l id _ k hl ho⟩) ?_
 simp only [vsAll, pickA, opA, dstOk, nilSliceOp, resA, retA.eq_1, Nat.reduceLT, Nat.reduceEqDiff, ↓reduceIte, implies_true, eq_self, Tryz.results85]
 rfl
def rowE (g : Gg) (c : Int) (l : List Int) : Int := if errG g (vRow g c l) = 0 then if kwnB g c.toNat l = true then 0 else 11 else errG g (vRow g c l)
def chkE (g : Gg) (c : Int) (l : List Int) : Int := if rowE g c l = 0 then if (latO g c.toNat l).isSome = true then 0 else 4 else rowE g c l
def chkV (g : Gg) (c : Int) (l : List Int) : Int := if chkE g c l = 0 then l.getD ((latO g c.toNat l).getD 0) 0 else 0
end Go.Proofs.YtdopkbldjagmlaaGreat
end
section
set_option linter.unusedVariables false
set_option linter.unusedSimpArgs false
set_option maxHeartbeats 4000000
set_option maxRecDepth 100000
namespace Go.Proofs.YtdopkbldjagmlaaGreat
open Go.V
theorem rnL_get {g : Gg} {sp : Int} {l : List Int} {i : Nat} {v : List AV} (h : (rnL g sp l)[i]? = some v) : i < l.length ∧ v = [i64 i, stA (seenN l (i + 1)) (donN g sp l (i + 1))] := by
 obtain ⟨h1, h2⟩ := List.getElem?_eq_some_iff.1 h
 have h1 : i < l.length := by simpa [rnL] using h1
 refine ⟨h1, ?_⟩
 rw [← h2]
 simp [rnL]
theorem rnL_len (g : Gg) (sp : Int) (l : List Int) : (rnL g sp l).length = l.length := by simp [rnL]
theorem run_call {g : Gg} {c : Nat} {l : List Int} {b : Bool} {H : Hp} {K : AV → Hp → Prop} {Kp : AV → Hp → Prop} (k : OkG g) (hc : c < g.cw.length) (hr : rowB g l = true)
  (h1 : kwnB g c l = false → Kp (.iface 121 (i64 11)) H) (h2 : kwnB g c l = true → K (runF g c l b) H) : CallK Tryz.prog (fnA 46) [gP g, i64 c, intsAV l, pcA b] H K Kp := by
 refine ⟨_, run_tri g c l b H k hc hr, ?_⟩
 rintro r H' ⟨rfl, rfl⟩
 cases h : kwnB g c l with
 | true => exact h2 h
 | false => exact h1 h
theorem wchk_tri (g : Gg) (c : Int) (l : List Int) (H : Hp) (kn : NearG g) (hl : l.length ≤ 1000) : PTri Tryz.prog (fnA 13) [g.av, i64 c, intsAV l] H (.tuple [i64 (chkV g c l), i64 (chkE g c l)]) := by
 refine Tri.drop ?_
 refine tri_am (m := fun _ => false) gans Tryz.func13 (by kernel_rfl) rfl (by simp only [List.length_append, List.length_cons, List.length_nil, Tryz.ntmps13]; decide) ?_
 simp only [vsAll, boxA, boxZ, cellA, okAll, stAll, opsA, opA, allocA, dstOk, argFr, Nat.reduceAdd, Nat.reduceLT, Nat.reduceEqDiff, ↓reduceIte, eq_self, wtAll, Tryz.ntmps13]
 intro i6 hh_i6; (try simp only [Hp.set_none, ite_none] at hh_i6); intro i7 hh_i7; (try simp only [ite_none] at hh_i7)
 refine vs_draw3 [4, 5, 6] [([0, 0, 0, 0, 1, 3, 5], [([0, 1, 2, 3], [], 4), ([], [], 5), ([], [], 6)], []), ([0, 0, 0, 0, 3, 1, 5], [([0, 1, 2, 3], [0, 2, 3], 5), ([], [], 4), ([], [], 6)], [])] (by decide +kernel) ?_
 intro p hp
 simp only [List.mem_cons, List.not_mem_nil, or_false] at hp
 rcases hp with rfl | rfl
 ·simp only [vsAll, loadA, loadRow, partA, partOk, opA, dstOk, argFr, Nat.reduceLT, Nat.reduceEqDiff, ↓reduceIte, eq_self, wtAll]
  refine qcall _ ⟨trivial, by simp only [vsAll, okAll, opsA, opA, Nat.reduceEqDiff, ↓reduceIte, eq_self], isRF_tri c l _⟩ ?_
  simp only [vsAll, okAll, stAll, opsA, opA, dstOk, Nat.reduceLT, Nat.reduceEqDiff, ↓reduceIte, eq_self]
  refine gopen_call (openG_tri g _ (vRow g c l) _ kn trivial rfl (fun k H' id ho => isRF1_tri g c l id H' kn hl ho)) (fun he => ?_) (fun k hv => ?_)
  ·have e : rowE g c l = errG g (vRow g c l) := if_neg he
   have e1 : chkE g c l = errG g (vRow g c l) := by unfold chkE; rw [e, if_neg he]
   have e2 : chkV g c l = 0 := if_neg (by rw [e1]; exact he)
   simp only [vsAll, loadA, loadRow, partA, partOk, resA, retA.eq_2, Nat.reduceEqDiff, ↓reduceIte, eq_self, wtAll, Tryz.results13, hh_i7]
   refine ⟨errG g (vRow g c l), i7, _, rfl, rfl, by simp only [↓reduceIte, eq_self]; try rfl, ?_⟩
   simp only [vsAll, Nat.reduceLT, ↓reduceIte, eq_self, hh_i7]
   refine dropR_pure ?_ (by (repeat (first | exact HSub_rfl | refine HSub_put_eq (by simp only [vsAll, ↓reduceIte, eq_self, reduceCtorEq, Nat.reduceEqDiff, hh_i6, hh_i7]) ?_ | refine HSub_drop2 (by simp only [eq_self, hh_i6, hh_i7]) ?_ | refine HSub_keep_eq (by simp only [vsAll, ↓reduceIte, eq_self, reduceCtorEq, Nat.reduceEqDiff, hh_i6, hh_i7]) ?_)))
   simp only [eq_self, e1, e2]
  ·have he : errG g (vRow g c l) = 0 := by rw [hv]; exact errG_ok k
   have hv0 := hv
   unfold vRow at hv
   rw [Bool.and_eq_true, isCw_iff] at hv
   obtain ⟨⟨hv1, hv2⟩, hr⟩ := hv
   obtain ⟨c, rfl⟩ : ∃ n : Nat, c = (n : Int) := ⟨c.toNat, by ((try clear hh_i6 hh_i7); omega)⟩
   have hc : c < g.cw.length := by ((try clear hh_i6 hh_i7); omega)
   simp only [vsAll, loadA, loadRow, partA, partOk, cellA, cellsA, fillA, okParts, ifaceA, okAll, stAll, opsA, partsA, partsOk, opA, allocA, newCells, okCells, storeObj, dstOk, argFr, Nat.reduceLT, Nat.reduceEqDiff, ↓reduceIte, eq_self, wtAll]
   intro i8 hh_i8; (try simp only [ite_none] at hh_i8)
   refine run_call (b := false) k hc hr (fun hk => ?_) (fun hk => ?_)
   ·have e : rowE g c l = 11 := by unfold rowE; rw [if_pos he, Int.toNat_natCast, if_neg (by rw [hk]; decide)]
    have e1 : chkE g c l = 11 := by unfold chkE; rw [e, if_neg (by decide)]
    have e2 : chkV g c l = 0 := if_neg (by rw [e1]; decide)
    simp only [vsAll, loadA, loadRow, partA, partOk, resA, retA.eq_2, Nat.reduceEqDiff, ↓reduceIte, eq_self, wtAll, Tryz.results13, hh_i7, hh_i8]
    refine ⟨11, i7, _, rfl, rfl, by simp only [↓reduceIte, eq_self, hh_i8]; try rfl, ?_⟩
    simp only [vsAll, Nat.reduceLT, ↓reduceIte, eq_self, hh_i7]
    refine dropR_pure ?_ (by (repeat (first | exact HSub_rfl | refine HSub_put_eq (by simp only [vsAll, ↓reduceIte, eq_self, reduceCtorEq, Nat.reduceEqDiff, hh_i6, hh_i7, hh_i8]) ?_ | refine HSub_drop2 (by simp only [eq_self, hh_i6, hh_i7, hh_i8]) ?_ | refine HSub_keep_eq (by simp only [vsAll, ↓reduceIte, eq_self, reduceCtorEq, Nat.reduceEqDiff, hh_i6, hh_i7, hh_i8]) ?_)))
    simp only [eq_self, e1, e2]
   ·have e : rowE g c l = 0 := by unfold rowE; rw [if_pos he, Int.toNat_natCast, if_pos hk]
    have hll := row_len k hr
    have hsp : spd (g.crew c) false = (g.crew c).lo := rfl
    simp only [vsAll]
    refine vs_rangeB (σ := Unit) (rnL g (spd (g.crew c) false) l) (fun i _ => ∀ j, j < i → ltB g c l j = false)
     (fun _ _ => ((H.set i6 (.box 1 1 fun _ => [i64 0])).set i7 (.box 1 1 fun _ => [i64 0])).set i8 (.box 1 1 fun _ => [gP g])) () (fun _ => True) Tryz.func88 (by kernel_rfl) rfl (by simp only [vsAll, opA, ↓reduceIte, eq_self]) (by simp only [vsAll, opA, ↓reduceIte, eq_self]) (by decide) (fun v hv => by obtain ⟨q, _, rfl⟩ := List.mem_map.1 hv; rfl)
     (fun yf H K _ hi => run1_tri g c l false k hc hr hk yf H (fun _ => True) K hi) (fun q hq => absurd hq (Nat.not_lt_zero _)) ?_ ?_ ?_ ?_ ?_
    ·(repeat (first | exact HSub_rfl | refine HSub_put_eq (by simp only [vsAll, ↓reduceIte, eq_self, hh_i7, hh_i8]) ?_ | refine HSub_drop2 (by simp only [eq_self, hh_i6, hh_i7, hh_i8]) ?_ | refine HSub_keep_eq (by simp only [vsAll, ↓reduceIte, eq_self, reduceCtorEq, Nat.reduceEqDiff, hh_i6, hh_i7, hh_i8]) ?_))
    ·intro i _ _ q
     exact Iff.rfl
    ·intro i x hi lid did o1 o2 h1 h2
     trivial
    ·rintro j o i v ⟨⟩ hv hi hj lid did l' lo h1 h2 h3 h5 h6
     simp only [Hp.set_none] at hj h1 h2
     have h4 : ¬ did = lid := fun e => h3 e.symm
     have h5' : ¬ lid = j := fun e => h5 e.symm
     have h6' : ¬ did = j := fun e => h6 e.symm
     skip
     obtain ⟨his, rfl⟩ := rnL_get hv
     rw [hsp]
     obtain ⟨n, en, hn⟩ := row_nat hr his
     have eS : g.sm.getD n sm0 = g.seam n := rfl
     have hNe : g.N = g.sm.length := rfl
     have elt : ltB g c l i = decide ((g.seam n).fl < donN g (g.crew c).lo l (i + 1)) := by unfold ltB; rw [en, Int.toNat_natCast]
     simp only [vsAll, cellA, opA, allocA, newCells, okCells, storeObj, dstOk, quietOk, nilSliceOp, Nat.reduceAdd, Nat.reduceLT, Nat.reduceEqDiff, ↓reduceIte, eq_self, wtAll]
     intro i10 hh_i10; (try simp only [ite_none] at hh_i10)
     refine ⟨?_, ?_⟩
     ·simp only [↓reduceIte, eq_self, hh_i10]
     refine vs_draw2R [0, 0, 0, 0, 0, 0, 0, 0, 0, 0, 0, 0, 0, 0, 0] [] [0, 1, 2, 3, 4, 5, 6, 7, 8, 9, 10, 11, 12, 13, 14] (by repeat' constructor) (by decide +kernel) ?_
     simp only [vsAll, binA, binLitA, intA, loadA, loadRow, partA, partOk, fieldAddrA, indexAddrA, nilCheckA, opA, dstOk, Nat.reduceLT, Nat.reduceEqDiff, ↓reduceIte, eq_self, wtAll, hj, h1, h2, hh_i10, intF_at, en, smF_at, eS]
     refine ⟨⟨by ((try clear hh_i6 hh_i7 hh_i8 hj h1 h2 h3 h4 h5 h6 h5' h6' hh_i10); omega), by ((try clear hh_i6 hh_i7 hh_i8 hj h1 h2 h3 h4 h5 h6 h5' h6' hh_i10); omega)⟩, his, ⟨by ((try clear hh_i6 hh_i7 hh_i8 hj h1 h2 h3 h4 h5 h6 h5' h6' hh_i10); omega), by ((try clear hh_i6 hh_i7 hh_i8 hj h1 h2 h3 h4 h5 h6 h5' h6' hh_i10); omega)⟩, by ((try clear hh_i6 hh_i7 hh_i8 hj h1 h2 h3 h4 h5 h6 h5' h6' hh_i10); omega), ?_⟩
     refine condD (fun hc2 => ?_) (fun hc2 => ?_)
     ·have eo : latO g c l = some i := by
       unfold latO
       rw [List.find?_range_eq_some]
       exact ⟨by rw [elt]; exact decide_eq_true (by ((try clear hh_i6 hh_i7 hh_i8 hj h1 h2 h3 h4 h5 h6 h5' h6' hh_i10); omega)), List.mem_range.2 his, fun q hq => by rw [hi q hq]; rfl⟩
      have e1 : chkE g c l = 0 := by unfold chkE; rw [if_pos e, Int.toNat_natCast, eo]; rfl
      have e2 : chkV g c l = n := by unfold chkV; rw [if_pos e1, Int.toNat_natCast, eo]; exact en
      simp only [vsAll, loadA, loadRow, partA, partOk, indexAddrA, cellA, cellsA, opA, newCells, okCells, storeObj, dstOk, quietOk, resA, retA.eq_2, Nat.reduceLT, Nat.reduceEqDiff, ↓reduceIte, eq_self, wtAll, Tryz.results13, hh_i7, hh_i8, hj, h1, h2, h4, hh_i10, intF_at, en]
      refine ⟨⟨by ((try clear hh_i6 hh_i7 hh_i8 hj h1 h2 h3 h4 h5 h6 h5' h6' hh_i10); omega), by ((try clear hh_i6 hh_i7 hh_i8 hj h1 h2 h3 h4 h5 h6 h5' h6' hh_i10); omega)⟩, his, ⟨_, _, rfl⟩, i7, _, rfl, by simp only [↓reduceIte, eq_self, h1, h2]; try rfl, ?_⟩
      refine dropR_pure ?_ (by (repeat (first | exact HSub_rfl | refine HSub_put_eq (by simp only [vsAll, ↓reduceIte, eq_self, reduceCtorEq, Nat.reduceEqDiff, hh_i6, hh_i7, hh_i8, hj, h1, h2, h3, h4, h5, h6, h5', h6', hh_i10]) ?_ | refine HSub_drop2 (by simp only [eq_self, hh_i6, hh_i7, hh_i8, hj, h1, h2, hh_i10]) ?_ | refine HSub_keep_eq (by simp only [vsAll, ↓reduceIte, eq_self, reduceCtorEq, Nat.reduceEqDiff, hh_i6, hh_i7, hh_i8, hj, h1, h2, h3, h4, h5, h6, h5', h6', hh_i10]) ?_)))
      simp only [eq_self, e1, e2]
     ·simp only [vsAll, ↓reduceIte, eq_self]
      exact ⟨⟨_, _, rfl⟩, _, ⟨(), fun q hq => by
       rcases Nat.lt_succ_iff_lt_or_eq.1 hq with h | rfl
       ·exact hi q h
       ·rw [elt]; exact decide_eq_false (by ((try clear hh_i6 hh_i7 hh_i8 hj h1 h2 h3 h4 h5 h6 h5' h6' hh_i10); omega)), rfl⟩, by (repeat (first | exact HSub_rfl | refine HSub_put_eq (by simp only [vsAll, ↓reduceIte, eq_self, hh_i7, hh_i8, hj, h1, h2, h4, h5, h6, hh_i10]) ?_ | refine HSub_drop2 (by simp only [eq_self, hh_i6, hh_i7, hh_i8, hj, h1, h2, hh_i10]) ?_ | refine HSub_keep_eq (by simp only [vsAll, ↓reduceIte, eq_self, reduceCtorEq, Nat.reduceEqDiff, hh_i6, hh_i7, hh_i8, hj, h1, h2, h3, h4, h5, h6, h5', h6', hh_i10]) ?_))⟩
    ·rintro ⟨⟩ hi lid did lo h1 h2 h3
     simp only [Hp.set_none] at h1 h2
     have h4 : ¬ did = lid := fun e => h3 e.symm
     skip
     rw [rnL_len] at hi
     have eo : latO g c l = none := by
      unfold latO
      rw [List.find?_eq_none]
      intro q hq
      rw [List.mem_range] at hq
      rw [hi q hq]
      decide
     have e1 : chkE g c l = 4 := by unfold chkE; rw [if_pos e, Int.toNat_natCast, eo]; rfl
     have e2 : chkV g c l = 0 := if_neg (by rw [e1]; decide)
     simp only [vsAll, loadA, loadRow, partA, partOk, cellA, cellsA, opA, newCells, okCells, storeObj, dstOk, resA, retA.eq_2, Nat.reduceLT, Nat.reduceEqDiff, ↓reduceIte, eq_self, wtAll, Tryz.results13, hh_i7, hh_i8, h1, h2, h4]
     refine ⟨i7, _, rfl, by simp only [↓reduceIte, eq_self, h2]; try rfl, ?_⟩
     refine dropR_pure ?_ (by (repeat (first | exact HSub_rfl | refine HSub_put_eq (by simp only [vsAll, ↓reduceIte, eq_self, reduceCtorEq, Nat.reduceEqDiff, hh_i6, hh_i7, hh_i8, h1, h2, h3, h4]) ?_ | refine HSub_drop2 (by simp only [eq_self, hh_i6, hh_i7, hh_i8, h1, h2]) ?_ | refine HSub_keep_eq (by simp only [vsAll, ↓reduceIte, eq_self, reduceCtorEq, Nat.reduceEqDiff, hh_i6, hh_i7, hh_i8, h1, h2, h3, h4]) ?_)))
     simp only [eq_self, e1, e2]

 ·simp only [vsAll, loadA, loadRow, partA, partOk, opA, dstOk, argFr, Nat.reduceLT, Nat.reduceEqDiff, ↓reduceIte, eq_self, wtAll]
  refine qcall _ ⟨trivial, by simp only [vsAll, okAll, opsA, opA, Nat.reduceEqDiff, ↓reduceIte, eq_self], isRF_tri c l _⟩ ?_
  simp only [vsAll, loadA, loadRow, partA, partOk, okAll, stAll, opsA, opA, allocA, dstOk, Nat.reduceLT, Nat.reduceEqDiff, ↓reduceIte, eq_self, wtAll]
  intro i8 hh_i8; (try simp only [ite_none] at hh_i8)
  refine ⟨rcall _ ⟨trivial, by simp only [vsAll, okAll, opsA, opA, Nat.reduceEqDiff, ↓reduceIte, eq_self], isRF_tri c l _⟩ (by simp only [vsAll, ↓reduceIte, eq_self]), ?_⟩
  refine gopen_call (openG_tri g _ (vRow g c l) _ kn trivial rfl (fun k H' id ho => isRF1_tri g c l id H' kn hl ho)) (fun he => ?_) (fun k hv => ?_)
  ·have e : rowE g c l = errG g (vRow g c l) := if_neg he
   have e1 : chkE g c l = errG g (vRow g c l) := by unfold chkE; rw [e, if_neg he]
   have e2 : chkV g c l = 0 := if_neg (by rw [e1]; exact he)
   simp only [vsAll, loadA, loadRow, partA, partOk, resA, retA.eq_2, Nat.reduceEqDiff, ↓reduceIte, eq_self, wtAll, Tryz.results13, hh_i7, hh_i8]
   refine ⟨errG g (vRow g c l), i7, _, rfl, rfl, by simp only [↓reduceIte, eq_self, hh_i8]; try rfl, ?_⟩
   simp only [vsAll, Nat.reduceLT, ↓reduceIte, eq_self, hh_i7]
   refine dropR_pure ?_ (by (repeat (first | exact HSub_rfl | refine HSub_put_eq (by simp only [vsAll, ↓reduceIte, eq_self, reduceCtorEq, Nat.reduceEqDiff, hh_i6, hh_i7, hh_i8]) ?_ | refine HSub_drop2 (by simp only [eq_self, hh_i6, hh_i7, hh_i8]) ?_ | refine HSub_keep_eq (by simp only [vsAll, ↓reduceIte, eq_self, reduceCtorEq, Nat.reduceEqDiff, hh_i6, hh_i7, hh_i8]) ?_)))
   simp only [eq_self, e1, e2]
  ·have he : errG g (vRow g c l) = 0 := by rw [hv]; exact errG_ok k
   have hv0 := hv
   unfold vRow at hv
   rw [Bool.and_eq_true, isCw_iff] at hv
   obtain ⟨⟨hv1, hv2⟩, hr⟩ := hv
   obtain ⟨c, rfl⟩ : ∃ n : Nat, c = (n : Int) := ⟨c.toNat, by ((try clear hh_i6 hh_i7 hh_i8); omega)⟩
   have hc : c < g.cw.length := by ((try clear hh_i6 hh_i7 hh_i8); omega)
   simp only [vsAll, loadA, loadRow, partA, partOk, cellA, cellsA, fillA, okParts, ifaceA, okAll, stAll, opsA, partsA, partsOk, opA, newCells, okCells, storeObj, dstOk, argFr, Nat.reduceLT, Nat.reduceEqDiff, ↓reduceIte, eq_self, wtAll]
   refine run_call (b := false) k hc hr (fun hk => ?_) (fun hk => ?_)
   ·have e : rowE g c l = 11 := by unfold rowE; rw [if_pos he, Int.toNat_natCast, if_neg (by rw [hk]; decide)]
    have e1 : chkE g c l = 11 := by unfold chkE; rw [e, if_neg (by decide)]
    have e2 : chkV g c l = 0 := if_neg (by rw [e1]; decide)
    simp only [vsAll, loadA, loadRow, partA, partOk, resA, retA.eq_2, Nat.reduceEqDiff, ↓reduceIte, eq_self, wtAll, Tryz.results13, hh_i7, hh_i8]
    refine ⟨11, i7, _, rfl, rfl, by simp only [↓reduceIte, eq_self, hh_i8]; try rfl, ?_⟩
    simp only [vsAll, Nat.reduceLT, ↓reduceIte, eq_self, hh_i7]
    refine dropR_pure ?_ (by (repeat (first | exact HSub_rfl | refine HSub_put_eq (by simp only [vsAll, ↓reduceIte, eq_self, reduceCtorEq, Nat.reduceEqDiff, hh_i6, hh_i7, hh_i8]) ?_ | refine HSub_drop2 (by simp only [eq_self, hh_i6, hh_i7, hh_i8]) ?_ | refine HSub_keep_eq (by simp only [vsAll, ↓reduceIte, eq_self, reduceCtorEq, Nat.reduceEqDiff, hh_i6, hh_i7, hh_i8]) ?_)))
    simp only [eq_self, e1, e2]
   ·have e : rowE g c l = 0 := by unfold rowE; rw [if_pos he, Int.toNat_natCast, if_pos hk]
    have hll := row_len k hr
    have hsp : spd (g.crew c) false = (g.crew c).lo := rfl
    simp only [vsAll]
    refine vs_rangeB (σ := Unit) (rnL g (spd (g.crew c) false) l) (fun i _ => ∀ j, j < i → ltB g c l j = false)
     (fun _ _ => ((H.set i6 (.box 1 1 fun _ => [i64 0])).set i7 (.box 1 1 fun _ => [i64 0])).set i8 (.box 1 1 fun _ => [gP g])) () (fun _ => True) Tryz.func88 (by kernel_rfl) rfl (by simp only [vsAll, opA, ↓reduceIte, eq_self]) (by simp only [vsAll, opA, ↓reduceIte, eq_self]) (by decide) (fun v hv => by obtain ⟨q, _, rfl⟩ := List.mem_map.1 hv; rfl)
     (fun yf H K _ hi => run1_tri g c l false k hc hr hk yf H (fun _ => True) K hi) (fun q hq => absurd hq (Nat.not_lt_zero _)) ?_ ?_ ?_ ?_ ?_
    ·(repeat (first | exact HSub_rfl | refine HSub_put_eq (by simp only [vsAll, ↓reduceIte, eq_self, hh_i7, hh_i8]) ?_ | refine HSub_drop2 (by simp only [eq_self, hh_i6, hh_i7, hh_i8]) ?_ | refine HSub_keep_eq (by simp only [vsAll, ↓reduceIte, eq_self, reduceCtorEq, Nat.reduceEqDiff, hh_i6, hh_i7, hh_i8]) ?_))
    ·intro i _ _ q
     exact Iff.rfl
    ·intro i x hi lid did o1 o2 h1 h2
     trivial
    ·rintro j o i v ⟨⟩ hv hi hj lid did l' lo h1 h2 h3 h5 h6
     simp only [Hp.set_none] at hj h1 h2
     have h4 : ¬ did = lid := fun e => h3 e.symm
     have h5' : ¬ lid = j := fun e => h5 e.symm
     have h6' : ¬ did = j := fun e => h6 e.symm
     skip
     obtain ⟨his, rfl⟩ := rnL_get hv
     rw [hsp]
     obtain ⟨n, en, hn⟩ := row_nat hr his
     have eS : g.sm.getD n sm0 = g.seam n := rfl
     have hNe : g.N = g.sm.length := rfl
     have elt : ltB g c l i = decide ((g.seam n).fl < donN g (g.crew c).lo l (i + 1)) := by unfold ltB; rw [en, Int.toNat_natCast]
     simp only [vsAll, cellA, opA, allocA, newCells, okCells, storeObj, dstOk, quietOk, nilSliceOp, Nat.reduceAdd, Nat.reduceLT, Nat.reduceEqDiff, ↓reduceIte, eq_self, wtAll]
     intro i10 hh_i10; (try simp only [ite_none] at hh_i10)
     refine ⟨?_, ?_⟩
     ·simp only [↓reduceIte, eq_self, hh_i10]
     refine vs_draw2R [0, 0, 0, 0, 0, 0, 0, 0, 0, 0, 0, 0, 0, 0, 0] [] [0, 1, 2, 3, 4, 5, 6, 7, 8, 9, 10, 11, 12, 13, 14] (by repeat' constructor) (by decide +kernel) ?_
     simp only [vsAll, binA, binLitA, intA, loadA, loadRow, partA, partOk, fieldAddrA, indexAddrA, nilCheckA, opA, dstOk, Nat.reduceLT, Nat.reduceEqDiff, ↓reduceIte, eq_self, wtAll, hj, h1, h2, hh_i10, intF_at, en, smF_at, eS]
     refine ⟨⟨by ((try clear hh_i6 hh_i7 hh_i8 hj h1 h2 h3 h4 h5 h6 h5' h6' hh_i10); omega), by ((try clear hh_i6 hh_i7 hh_i8 hj h1 h2 h3 h4 h5 h6 h5' h6' hh_i10); omega)⟩, his, ⟨by ((try clear hh_i6 hh_i7 hh_i8 hj h1 h2 h3 h4 h5 h6 h5' h6' hh_i10); omega), by ((try clear hh_i6 hh_i7 hh_i8 hj h1 h2 h3 h4 h5 h6 h5' h6' hh_i10); omega)⟩, by ((try clear hh_i6 hh_i7 hh_i8 hj h1 h2 h3 h4 h5 h6 h5' h6' hh_i10); omega), ?_⟩
     refine condD (fun hc2 => ?_) (fun hc2 => ?_)
     ·have eo : latO g c l = some i := by
       unfold latO
       rw [List.find?_range_eq_some]
       exact ⟨by rw [elt]; exact decide_eq_true (by ((try clear hh_i6 hh_i7 hh_i8 hj h1 h2 h3 h4 h5 h6 h5' h6' hh_i10); omega)), List.mem_range.2 his, fun q hq => by rw [hi q hq]; rfl⟩
      have e1 : chkE g c l = 0 := by unfold chkE; rw [if_pos e, Int.toNat_natCast, eo]; rfl
      have e2 : chkV g c l = n := by unfold chkV; rw [if_pos e1, Int.toNat_natCast, eo]; exact en
      simp only [vsAll, loadA, loadRow, partA, partOk, indexAddrA, cellA, cellsA, opA, newCells, okCells, storeObj, dstOk, quietOk, resA, retA.eq_2, Nat.reduceLT, Nat.reduceEqDiff, ↓reduceIte, eq_self, wtAll, Tryz.results13, hh_i7, hh_i8, hj, h1, h2, h4, hh_i10, intF_at, en]
      refine ⟨⟨by ((try clear hh_i6 hh_i7 hh_i8 hj h1 h2 h3 h4 h5 h6 h5' h6' hh_i10); omega), by ((try clear hh_i6 hh_i7 hh_i8 hj h1 h2 h3 h4 h5 h6 h5' h6' hh_i10); omega)⟩, his, ⟨_, _, rfl⟩, i7, _, rfl, by simp only [↓reduceIte, eq_self, h1, h2]; try rfl, ?_⟩
      refine dropR_pure ?_ (by (repeat (first | exact HSub_rfl | refine HSub_put_eq (by simp only [vsAll, ↓reduceIte, eq_self, reduceCtorEq, Nat.reduceEqDiff, hh_i6, hh_i7, hh_i8, hj, h1, h2, h3, h4, h5, h6, h5', h6', hh_i10]) ?_ | refine HSub_drop2 (by simp only [eq_self, hh_i6, hh_i7, hh_i8, hj, h1, h2, hh_i10]) ?_ | refine HSub_keep_eq (by simp only [vsAll, ↓reduceIte, eq_self, reduceCtorEq, Nat.reduceEqDiff, hh_i6, hh_i7, hh_i8, hj, h1, h2, h3, h4, h5, h6, h5', h6', hh_i10]) ?_)))
      simp only [eq_self, e1, e2]
     ·simp only [vsAll, ↓reduceIte, eq_self]
      exact ⟨⟨_, _, rfl⟩, _, ⟨(), fun q hq => by
       rcases Nat.lt_succ_iff_lt_or_eq.1 hq with h | rfl
       ·exact hi q h
       ·rw [elt]; exact decide_eq_false (by ((try clear hh_i6 hh_i7 hh_i8 hj h1 h2 h3 h4 h5 h6 h5' h6' hh_i10); omega)), rfl⟩, by (repeat (first | exact HSub_rfl | refine HSub_put_eq (by simp only [vsAll, ↓reduceIte, eq_self, hh_i7, hh_i8, hj, h1, h2, h4, h5, h6, hh_i10]) ?_ | refine HSub_drop2 (by simp only [eq_self, hh_i6, hh_i7, hh_i8, hj, h1, h2, hh_i10]) ?_ | refine HSub_keep_eq (by simp only [vsAll, ↓reduceIte, eq_self, reduceCtorEq, Nat.reduceEqDiff, hh_i6, hh_i7, hh_i8, hj, h1, h2, h3, h4, h5, h6, h5', h6', hh_i10]) ?_))⟩
    ·rintro ⟨⟩ hi lid did lo h1 h2 h3
     simp only [Hp.set_none] at h1 h2
     have h4 : ¬ did = lid := fun e => h3 e.symm
     skip
     rw [rnL_len] at hi
     have eo : latO g c l = none := by
      unfold latO
      rw [List.find?_eq_none]
      intro q hq
      rw [List.mem_range] at hq
      rw [hi q hq]
      decide
     have e1 : chkE g c l = 4 := by unfold chkE; rw [if_pos e, Int.toNat_natCast, eo]; rfl
     have e2 : chkV g c l = 0 := if_neg (by rw [e1]; decide)
     simp only [vsAll, loadA, loadRow, partA, partOk, cellA, cellsA, opA, newCells, okCells, storeObj, dstOk, resA, retA.eq_2, Nat.reduceLT, Nat.reduceEqDiff, ↓reduceIte, eq_self, wtAll, Tryz.results13, hh_i7, hh_i8, h1, h2, h4]
     refine ⟨i7, _, rfl, by simp only [↓reduceIte, eq_self, h2]; try rfl, ?_⟩
     refine dropR_pure ?_ (by (repeat (first | exact HSub_rfl | refine HSub_put_eq (by simp only [vsAll, ↓reduceIte, eq_self, reduceCtorEq, Nat.reduceEqDiff, hh_i6, hh_i7, hh_i8, h1, h2, h3, h4]) ?_ | refine HSub_drop2 (by simp only [eq_self, hh_i6, hh_i7, hh_i8, h1, h2]) ?_ | refine HSub_keep_eq (by simp only [vsAll, ↓reduceIte, eq_self, reduceCtorEq, Nat.reduceEqDiff, hh_i6, hh_i7, hh_i8, h1, h2, h3, h4]) ?_)))
     simp only [eq_self, e1, e2]

end Go.Proofs.YtdopkbldjagmlaaGreat
end
section
set_option linter.unusedVariables false
set_option linter.unusedSimpArgs false
set_option maxHeartbeats 4000000
set_option maxRecDepth 100000
namespace Go.Proofs.YtdopkbldjagmlaaGreat
open Go.V
theorem vs_entF {P : Program} {m : Option Tmp → Bool} {n : Nat} {k : List It} {s : Fr} {ds : List AD} {H : Hp} {Q : Post} {g : Operand} {ps : Array Tmp} {assign body : Code} (h : Ent s ds H fun s ds H => VS none P m n (.code (.rangeFunc g ps assign body) :: k) s ds H Q) : VS none P m n (.code (.rangeFunc g ps assign body) :: k) s ds H Q :=
 (wps_ent h : WPS none P n (.rangeFunc g ps assign body) s ds H (TK none P m n k Q))
def spaF (l : List (Int × Int)) : Nat → List AV := fun i => [i64 (l.getD i (0, 0)).1, i64 (l.getD i (0, 0)).2]
theorem spaF_at (l : List (Int × Int)) (i : Nat) : spaF l i = [i64 (l.getD i (0, 0)).1, i64 (l.getD i (0, 0)).2] := rfl
abbrev spaAV (l : List (Int × Int)) : AV := .rsl l.length 2 (spaF l)
theorem app_spa {l : List (Int × Int)} {n : Nat} (hn : l.length = n) (a b : Int) (g : Nat → List AV) (hg : g 0 = [i64 a, i64 b]) : appF n 1 (spaF l) g = spaF (l ++ [(a, b)]) := by
 subst hn
 exact app_lF (fun x : Int × Int => [i64 x.1, i64 x.2]) (0, 0) l (a, b) g hg
/-- What is told of a row: the first ones with both hours. -/
def rwH (g : Gg) (c : Nat) (l : List Int) (a n : Nat) : List (Int × Int) := (List.range n).map fun i => (donN g (g.crew c).hi l (i + 1), if i < a then donN g (g.crew c).lo l (i + 1) else 0)
theorem rwH_len (g : Gg) (c : Nat) (l : List Int) (a n : Nat) : (rwH g c l a n).length = n := by simp [rwH]
theorem rwH_succ (g : Gg) (c : Nat) (l : List Int) (n : Nat) : rwH g c l 0 (n + 1) = rwH g c l 0 n ++ [(donN g (g.crew c).hi l (n + 1), 0)] := by simp [rwH, List.range_succ]
theorem rwH_at (g : Gg) (c : Nat) (l : List Int) (a : Nat) {n i : Nat} (hi : i < n) : (rwH g c l a n).getD i (0, 0) = (donN g (g.crew c).hi l (i + 1), if i < a then donN g (g.crew c).lo l (i + 1) else 0) := by
 simp [rwH, List.getD_eq_getElem?_getD, hi]
theorem rwH_upd (g : Gg) (c : Nat) (l : List Int) {n i : Nat} (hi : i < n) (q : Nat) (hq : q < n) : updF n i (spaF (rwH g c l i n)) (List.take 1 (spaF (rwH g c l i n) i) ++ [i64 (donN g (g.crew c).lo l (i + 1))] ++ List.drop 2 (spaF (rwH g c l i n) i)) q = spaF (rwH g c l (i + 1) n) q := by
 rw [updF_at hi hq]
 by_cases e : q = i
 ·subst e
  simp only [spaF, rwH_at g c l _ hi, Nat.lt_succ_self, if_true]
  simp
 ·simp only [spaF, rwH_at g c l _ hq]
  have : (q < i) = (q < i + 1) := by apply propext; omega
  simp [e, this]
def rowV (g : Gg) (c : Int) (l : List Int) : List (Int × Int) := if rowE g c l = 0 then rwH g c.toNat l l.length l.length else []
def rowRR (g : Gg) (c : Int) (l : List Int) (H : Hp) : Res → Hp → Prop := fun r H' => ∃ id, H id = none ∧ r = .ret (.tuple [.sl id 2 (rowV g c l).length, i64 (rowE g c l)]) ∧ H' = H.set id (.row 2 (rowV g c l).length (spaF (rowV g c l)))
theorem wrowM_tri (g : Gg) (c : Int) (l : List Int) (H : Hp) (kn : NearG g) (hl : l.length ≤ 1000) : Tri Tryz.prog (fnA 11) [g.av, i64 c, intsAV l] H (rowRR g c l H) := by
 refine Tri.drop ?_
 refine tri_am (m := mset [6]) gans Tryz.func11 (by kernel_rfl) rfl (by simp only [List.length_append, List.length_cons, List.length_nil, Tryz.ntmps11]; decide) ?_
 simp only [vsAll, boxA, boxZ, okAll, stAll, opsA, opA, allocA, dstOk, argFr, Nat.reduceAdd, Nat.reduceLT, Nat.reduceBEq, ↓reduceIte, eq_self, wtAll, Tryz.ntmps11, Go.V.nilA]
 intro i6 hh_i6; (try simp only [Hp.set_none, ite_none] at hh_i6); intro i7 hh_i7; (try simp only [ite_none] at hh_i7)
 refine vs_draw2 [0, 0, 0, 0, 1, 2] [([0, 1, 2, 3], [], 4)] [5] (by decide +kernel) ?_
 simp only [vsAll, loadA, loadRow, partA, partOk, opA, dstOk, argFr, Nat.reduceLT, Nat.reduceEqDiff, ↓reduceIte, eq_self, wtAll]
 refine qcall _ ⟨trivial, by simp only [vsAll, okAll, opsA, opA, Nat.reduceEqDiff, ↓reduceIte, eq_self], isRF_tri c l _⟩ ?_
 simp only [vsAll, okAll, stAll, opsA, opA, dstOk, Nat.reduceLT, Nat.reduceEqDiff, ↓reduceIte, eq_self]
 refine gopen_call (openG_tri g _ (vRow g c l) _ kn trivial rfl (fun k H' id ho => isRF1_tri g c l id H' kn hl ho)) (fun he => ?_) (fun k hv => ?_)
 ·have e : rowE g c l = errG g (vRow g c l) := if_neg he
  have e2 : rowV g c l = [] := if_neg (by rw [e]; exact he)
  simp only [vsAll, loadA, loadRow, partA, partOk, resA, retA.eq_2, Nat.reduceEqDiff, ↓reduceIte, eq_self, wtAll, Tryz.results11]
  refine ⟨errG g (vRow g c l), i7, _, rfl, rfl, by simp only [↓reduceIte, eq_self]; try rfl, ?_⟩
  simp only [vsAll, Nat.reduceLT, ↓reduceIte, eq_self]
  refine ⟨_, ?_, i6, hh_i6, by simp only [vsAll, eq_self, e2, e]; try rfl, rfl⟩
  rw [e2]
  refine HSub_put (o' := .row 2 0 fun _ => []) (by simp only [vsAll, ↓reduceIte, eq_self, hh_i7]) (row0_le _ _ _) ?_
  (repeat (first | exact HSub_rfl | refine HSub_put_eq (by simp only [vsAll, ↓reduceIte, eq_self, reduceCtorEq, Nat.reduceEqDiff, hh_i6, hh_i7]) ?_ | refine HSub_drop2 (by simp only [eq_self, hh_i6, hh_i7]) ?_ | refine HSub_keep_eq (by simp only [vsAll, ↓reduceIte, eq_self, reduceCtorEq, Nat.reduceEqDiff, hh_i6, hh_i7]) ?_))
 ·have he : errG g (vRow g c l) = 0 := by rw [hv]; exact errG_ok k
  have hv0 := hv
  unfold vRow at hv
  rw [Bool.and_eq_true, isCw_iff] at hv
  obtain ⟨⟨hv1, hv2⟩, hr⟩ := hv
  obtain ⟨c, rfl⟩ : ∃ n : Nat, c = (n : Int) := ⟨c.toNat, by ((try clear hh_i6 hh_i7); omega)⟩
  have hc : c < g.cw.length := by ((try clear hh_i6 hh_i7); omega)
  simp only [vsAll, fillA, okParts, ifaceA, okAll, stAll, opsA, partsA, partsOk, opA, allocA, dstOk, argFr, Nat.reduceLT, Nat.reduceEqDiff, ↓reduceIte, eq_self, wtAll]
  intro i9 hh_i9; (try simp only [ite_none] at hh_i9)
  refine run_call (b := true) k hc hr (fun hk => ?_) (fun hk => ?_)
  ·have e : rowE g c l = 11 := by unfold rowE; rw [if_pos he, Int.toNat_natCast, if_neg (by rw [hk]; decide)]
   have e2 : rowV g c l = [] := if_neg (by rw [e]; decide)
   simp only [vsAll, loadA, loadRow, partA, partOk, resA, retA.eq_2, Nat.reduceEqDiff, ↓reduceIte, eq_self, wtAll, Tryz.results11, hh_i9]
   refine ⟨11, i7, _, rfl, rfl, by simp only [↓reduceIte, eq_self, hh_i9]; try rfl, ?_⟩
   simp only [vsAll, Nat.reduceLT, ↓reduceIte, eq_self]
   refine ⟨_, ?_, i6, hh_i6, by simp only [vsAll, eq_self, e2, e]; try rfl, rfl⟩
   rw [e2]
   refine HSub_put (o' := .row 2 0 fun _ => []) (by simp only [vsAll, ↓reduceIte, eq_self, hh_i7, hh_i9]) (row0_le _ _ _) ?_
   (repeat (first | exact HSub_rfl | refine HSub_put_eq (by simp only [vsAll, ↓reduceIte, eq_self, reduceCtorEq, Nat.reduceEqDiff, hh_i6, hh_i7, hh_i9]) ?_ | refine HSub_drop2 (by simp only [eq_self, hh_i6, hh_i7, hh_i9]) ?_ | refine HSub_keep_eq (by simp only [vsAll, ↓reduceIte, eq_self, reduceCtorEq, Nat.reduceEqDiff, hh_i6, hh_i7, hh_i9]) ?_))
  ·have e : rowE g c l = 0 := by unfold rowE; rw [if_pos he, Int.toNat_natCast, if_pos hk]
   have hll := row_len k hr
   simp only [vsAll]
   refine vs_entF (Ent.nilBox 2 (spaF []) (fun id _ => [.sl id 2 0]) (j := i9) (st' := 1) (n' := 1) (g := fun _ => [.lit (.slice none 0 0)]) (Hp.set_same _ _ _) (fun _ _ _ => rfl) (fun id q d hq hd => ?_) fun ih hih => ?_)
   ·match d, hd with
    | 0, _ => exact .hit
   simp only [Hp.set_none] at hih
   have hih' := hih
   skip
   have h1e : spd (g.crew c) true = (g.crew c).hi := rfl
   have h2e : spd (g.crew c) false = (g.crew c).lo := rfl
   refine vs_rangeB (σ := Unit) (rnL g (spd (g.crew c) true) l) (fun _ _ => True)
    (fun i _ => (((H.set i6 (.row 2 0 fun _ => [])).set i7 (.box 1 1 fun _ => [i64 0])).set ih (.row 2 i (spaF (rwH g c l 0 i)))).set i9 (.box 1 1 fun _ => [.sl ih 2 i])) () (fun _ => True) Tryz.func88 (by kernel_rfl) rfl (by simp only [vsAll, opA, ↓reduceIte, eq_self]) (by simp only [vsAll, opA, ↓reduceIte, eq_self]) (by decide) (fun v hv => by obtain ⟨q, _, rfl⟩ := List.mem_map.1 hv; rfl)
    (fun yf H K _ hi => run1_tri g c l true k hc hr hk yf H (fun _ => True) K hi) trivial ?_ ?_ ?_ ?_ ?_
   ·show Go.V.HSub _ ((((H.set i6 (.row 2 0 fun _ => [])).set i7 (.box 1 1 fun _ => [i64 0])).set ih (.row 2 0 (spaF []))).set i9 (.box 1 1 fun _ => [.sl ih 2 0]))
    (repeat (first | exact HSub_rfl | refine HSub_put_eq (by simp only [vsAll, ↓reduceIte, eq_self, hh_i7, hh_i9, hih']) ?_ | refine HSub_drop2 (by simp only [eq_self, hh_i6, hh_i7, hh_i9, hih']) ?_ | refine HSub_keep_eq (by simp only [vsAll, ↓reduceIte, eq_self, reduceCtorEq, Nat.reduceEqDiff, hh_i6, hh_i7, hh_i9, hih']) ?_))
   ·intro i _ _ q
    simp only [Hp.set_none]
   ·intro i x hi lid did o1 o2 h1 h2
    trivial
   ·rintro j2 o i v ⟨⟩ hv hi hj2 lid did l' lo h1 h2 h3 h5 h6
    simp only [Hp.set_none] at hj2 h1 h2
    have h4 : ¬ did = lid := fun e => h3 e.symm
    have h5' : ¬ lid = j2 := fun e => h5 e.symm
    have h6' : ¬ did = j2 := fun e => h6 e.symm
    skip
    obtain ⟨his, rfl⟩ := rnL_get hv
    rw [h1e]
    simp only [vsAll, loadA, loadRow, partA, partOk, fieldAddrA, cellA, cellsA, fillA, okParts, buildSliceA, partIdx, elemsA, lensA, partsA, partsOk, opA, allocA, newCells, okCells, storeObj, appendA, dstOk, quietOk, Nat.reduceAdd, Nat.reduceMul, Nat.reduceLT, Nat.reduceLeDiff, Nat.reduceEqDiff, Nat.reduceBEq, ↓reduceIte, eq_self, wtAll, hj2, h1, h2]
    intro i11 hh_i11; (try simp only [ite_none] at hh_i11)
    refine ⟨?_, ?_⟩
    ·simp only [↓reduceIte, eq_self, hh_i11]
    simp only [vsAll, Nat.reduceAdd, Nat.reduceLT, ↓reduceIte, eq_self, hih', hj2, h1, h2, hh_i11]
    rw [app_spa (rwH_len g c l 0 i) (donN g (g.crew c).hi l (i + 1)) 0 _ rfl, ← rwH_succ]
    exact ⟨fun q hq => by (have : q = 0 := by ((try clear hh_i6 hh_i7 hh_i9 hih' hj2 h1 h2 h3 h4 h5 h6 h5' h6' hh_i11); omega)); subst this; exact ⟨rfl, rfl, trivial⟩, by ((try clear hh_i6 hh_i7 hh_i9 hih' hj2 h1 h2 h3 h4 h5 h6 h5' h6' hh_i11); omega), by ((try clear hh_i6 hh_i7 hh_i9 hih' hj2 h1 h2 h3 h4 h5 h6 h5' h6' hh_i11); omega), ⟨_, _, rfl⟩, _, ⟨(), rfl⟩, by (repeat (first | exact HSub_rfl | refine HSub_put_eq (by simp only [vsAll, ↓reduceIte, eq_self, hh_i7, hh_i9, hih', hj2, h1, h2, h4, h5, h6, hh_i11]) ?_ | refine HSub_drop2 (by simp only [eq_self, hh_i6, hh_i7, hh_i9, hih', hj2, h1, h2, hh_i11]) ?_ | refine HSub_keep_eq (by simp only [vsAll, ↓reduceIte, eq_self, reduceCtorEq, Nat.reduceEqDiff, hh_i6, hh_i7, hh_i9, hih', hj2, h1, h2, h3, h4, h5, h6, h5', h6', hh_i11]) ?_))⟩
   ·rintro ⟨⟩ hi lid did lo h1 h2 h3
    simp only [Hp.set_none] at h1 h2
    have h4 : ¬ did = lid := fun e => h3 e.symm
    skip
    rw [rnL_len]
    simp only [vsAll, fillA, okParts, ifaceA, okAll, stAll, opsA, partsA, partsOk, opA, dstOk, argFr, Nat.reduceLT, Nat.reduceEqDiff, ↓reduceIte, eq_self, wtAll]
    refine run_call (b := false) k hc hr (fun hk2 => absurd hk2 (by rw [hk]; decide)) (fun _ => ?_)
    simp only [vsAll]
    refine vs_rangeB (σ := Unit) (rnL g (spd (g.crew c) false) l) (fun _ _ => True)
     (fun i _ => ((((H.set i6 (.row 2 0 fun _ => [])).set i7 (.box 1 1 fun _ => [i64 0])).set ih (.row 2 l.length (spaF (rwH g c l i l.length)))).set i9 (.box 1 1 fun _ => [.sl ih 2 l.length])).set did (.raw (.deferred (some [])))) () (fun _ => True) Tryz.func88 (by kernel_rfl) rfl (by simp only [vsAll, opA, ↓reduceIte, eq_self]) (by simp only [vsAll, opA, ↓reduceIte, eq_self]) (by decide) (fun v hv => by obtain ⟨q, _, rfl⟩ := List.mem_map.1 hv; rfl)
     (fun yf H K _ hi => run1_tri g c l false k hc hr hk yf H (fun _ => True) K hi) trivial ?_ ?_ ?_ ?_ ?_
    ·(repeat (first | exact HSub_rfl | refine HSub_put_eq (by simp only [vsAll, ↓reduceIte, eq_self, hh_i7, hh_i9, hih', h1, h2, h4]) ?_ | refine HSub_drop2 (by simp only [eq_self, hh_i6, hh_i7, hh_i9, hih', h1, h2]) ?_ | refine HSub_keep_eq (by simp only [vsAll, ↓reduceIte, eq_self, reduceCtorEq, Nat.reduceEqDiff, hh_i6, hh_i7, hh_i9, hih', h1, h2, h3, h4]) ?_))
    ·intro i _ _ q
     simp only [Hp.set_none]
    ·intro i x hi lid2 did2 o1 o2 g1 g2
     trivial
    ·rintro j3 o i v ⟨⟩ hv hi hj3 lid2 did2 l' lo2 g1 g2 g3 g5 g6
     simp only [Hp.set_none] at hj3 g1 g2
     have g4 : ¬ did2 = lid2 := fun e => g3 e.symm
     have g5' : ¬ lid2 = j3 := fun e => g5 e.symm
     have g6' : ¬ did2 = j3 := fun e => g6 e.symm
     skip
     obtain ⟨his, rfl⟩ := rnL_get hv
     rw [h2e]
     simp only [vsAll, loadA, loadRow, partA, partOk, fieldAddrA, indexAddrA, cellA, cellsA, opA, allocA, newCells, okCells, storeObj, dstOk, quietOk, nilSliceOp, Nat.reduceAdd, Nat.reduceLT, Nat.reduceEqDiff, Nat.reduceBEq, ↓reduceIte, reduceCtorEq, eq_self, wtAll, h2, hj3, g1, g2]
     intro i13 hh_i13; (try simp only [ite_none] at hh_i13)
     refine ⟨?_, ?_⟩
     ·simp only [↓reduceIte, eq_self, hh_i13]
     simp only [vsAll, cellA, okCells, Nat.reduceAdd, Nat.reduceLT, ↓reduceIte, eq_self, hih', h2, hj3, g1, g2, hh_i13]
     refine ⟨⟨by ((try clear hh_i6 hh_i7 hh_i9 hih' h1 h2 h3 h4 hj3 g1 g2 g3 g4 g5 g6 g5' g6' hh_i13); omega), by ((try clear hh_i6 hh_i7 hh_i9 hih' h1 h2 h3 h4 hj3 g1 g2 g3 g4 g5 g6 g5' g6' hh_i13); omega)⟩, his, ⟨_, _, rfl⟩, _, ⟨(), rfl⟩, ?_⟩
     refine HSub_put_eq (by simp only [vsAll, ↓reduceIte, eq_self, g1]) ?_
     refine HSub_put_eq (by simp only [vsAll, ↓reduceIte, eq_self, g2, g4, hh_i13]) ?_
     refine HSub_put_eq (by simp only [vsAll, ↓reduceIte, eq_self, hj3, g5, g6, hh_i13]) ?_
     refine HSub_put_eq (by simp only [vsAll, ↓reduceIte, eq_self, h2, hj3, g1, g2, hh_i13]) ?_
     refine HSub_put_eq (by simp only [vsAll, ↓reduceIte, eq_self, hih', h2, hj3, g1, g2, hh_i13]) ?_
     refine HSub_put (o' := .row 2 l.length (updF l.length i (spaF (rwH g c l i l.length)) (List.take 1 (spaF (rwH g c l i l.length) i) ++ [i64 (donN g (g.crew c).lo l (i + 1))] ++ List.drop 2 (spaF (rwH g c l i l.length) i)))) (by simp only [vsAll, ↓reduceIte, eq_self]) (row_ext (rwH_upd g c l his)) ?_
     (repeat (first | exact HSub_rfl | refine HSub_put_eq (by simp only [vsAll, ↓reduceIte, eq_self, hh_i7, hh_i9, hih', h2, hj3, g1, g2, hh_i13]) ?_ | refine HSub_drop2 (by simp only [eq_self, hh_i6, hh_i7, hh_i9, hih', h2, hj3, g1, g2, hh_i13]) ?_ | refine HSub_keep_eq (by simp only [vsAll, ↓reduceIte, eq_self, reduceCtorEq, Nat.reduceEqDiff, hh_i6, hh_i7, hh_i9, hih', h1, h2, h3, h4, hj3, g1, g2, g3, g4, g5, g6, g5', g6', hh_i13]) ?_))
    ·rintro ⟨⟩ hi lid2 did2 lo2 g1 g2 g3
     simp only [Hp.set_none] at g1 g2
     have g4 : ¬ did2 = lid2 := fun e => g3 e.symm
     skip
     rw [rnL_len]
     simp only [vsAll, loadA, loadRow, partA, partOk, cellA, cellsA, opA, newCells, okCells, storeObj, dstOk, nilSliceOp, resA, retA.eq_2, Nat.reduceLT, Nat.reduceEqDiff, Nat.reduceBEq, ↓reduceIte, eq_self, wtAll, Tryz.results11, hh_i9, hih', h2, g1, g2, g4]
     have ev : rowV g c l = rwH g c l l.length l.length := by unfold rowV; rw [if_pos e, Int.toNat_natCast]
     have el : (rowV g c l).length = l.length := by rw [ev, rwH_len]
     refine ⟨i7, _, rfl, by simp only [↓reduceIte, eq_self, h2, g2]; try rfl, ?_⟩
     refine ⟨H.set ih (.row 2 (rowV g c l).length (spaF (rowV g c l))), ?_, ih, by simp only [eq_self, hih'], by simp only [eq_self, el, e]; try rfl, rfl⟩
     rw [el, ev]
     (repeat (first | exact HSub_rfl | refine HSub_put_eq (by simp only [vsAll, ↓reduceIte, eq_self, hih', h2, g1, g2]) ?_ | refine HSub_drop2 (by simp only [eq_self, hh_i6, hh_i7, hh_i9, hih', h2, g1, g2]) ?_ | refine HSub_keep_eq (by simp only [vsAll, ↓reduceIte, eq_self, reduceCtorEq, Nat.reduceEqDiff, hh_i6, hh_i7, hh_i9, hih', h1, h2, h3, h4, g1, g2, g3, g4]) ?_))
theorem wrow_tri (g : Gg) (c : Int) (l : List Int) (H : Hp) (kn : NearG g) (hl : l.length ≤ 1000) : PTri Tryz.prog (fnA 11) [g.av, i64 c, intsAV l] H (.tuple [spaAV (rowV g c l), i64 (rowE g c l)]) := by
 refine Tri.thaw (wrowM_tri g c l H kn hl) ?_
 rintro r H' ⟨id, hid, rfl, rfl⟩
 right
 exact ⟨_, id, 2, _, _, 0, rfl, Hp.set_same _ _ _, by simp, rfl, rfl, set_del hid⟩
end Go.Proofs.YtdopkbldjagmlaaGreat
end
section
set_option linter.unusedVariables false
set_option linter.unusedSimpArgs false
set_option maxHeartbeats 4000000
set_option maxRecDepth 100000
namespace Go.Proofs.YtdopkbldjagmlaaGreat
open Go.V
theorem galways_tri (a : AV) (H : Hp) (id : Nat) : PTri Tryz.prog (fnA 61) [.ref id 0 8 0 0] H (boo true) := by
 refine tri_v0 (fun _ => false) Tryz.func61 (by kernel_rfl) rfl (by simp only [List.length_append, List.length_cons, List.length_nil, Tryz.ntmps61]; decide) ?_
 simp only [vsAll, opA, dstOk, nilSliceOp, resA, retA.eq_1, Nat.reduceLT, ↓reduceIte, eq_self, Tryz.ntmps61, Tryz.results61]
theorem sets1_tri (g : Gg) (c : Int) (id : Nat) (H : Hp) (k : NearG g) (ho : opB id g H) : PTri Tryz.prog (.func (.func 57) [] [bx c]) [.ref id 0 8 0 0] H (boo (isCw g c)) := by
 refine tri_v0 (fun _ => false) Tryz.func57 (by kernel_rfl) rfl (by simp only [List.length_append, List.length_cons, List.length_nil, Tryz.ntmps57]; decide) ?_
 skip
 simp only [vsAll, loadA, loadRow, partA, partOk, okAll, stAll, opsA, opA, dstOk, nilSliceOp, argFr, Nat.reduceLT, Nat.reduceEqDiff, ↓reduceIte, reduceCtorEq, eq_self, wtAll, Tryz.ntmps57]
 refine callK_pure (wcrew_tri g id c _ k ho) ?_
 simp only [vsAll, opA, dstOk, nilSliceOp, resA, retA.eq_1, Nat.reduceLT, ↓reduceIte, eq_self, Tryz.results57]
def isSet (g : Gg) (n : Int) : Bool := decide (0 ≤ n) && decide (n ≤ ((2 ^ g.N : Nat) : Int) - 1)
def vCan (g : Gg) (c n : Int) : Bool := isCw g c && isSet g n
theorem can1_tri (g : Gg) (c n : Int) (id : Nat) (H : Hp) (k : OkG g) (ho : opB id g H) : PTri Tryz.prog (.func (.func 51) [] [bx c, bx n]) [.ref id 0 8 0 0] H (boo (vCan g c n)) := by
 have hN : g.sm.length ≤ 5 := k.nS
 have hNe : g.N = g.sm.length := rfl
 have hpw : 2 ^ g.sm.length ≤ 2 ^ 5 := Nat.pow_le_pow_right (by omega) hN
 have hp0 : 0 < 2 ^ g.sm.length := Nat.two_pow_pos _
 have ep : (1 : Int) * 2 ^ g.sm.length = ((2 ^ g.sm.length : Nat) : Int) := by rw [Int.one_mul]; simp
 refine tri_v0 (fun _ => false) Tryz.func51 (by kernel_rfl) rfl (by simp only [List.length_append, List.length_cons, List.length_nil, Tryz.ntmps51]; decide) ?_
 skip
 simp only [vsAll, opA, dstOk, nilSliceOp, Nat.reduceLT, eq_self, Tryz.ntmps51]
 refine vs_draw2 [0, 0, 0, 0, 0, 0, 0, 0, 0, 0, 0, 0, 0, 0, 0, 0] [] [0, 1, 2, 3, 4, 5, 6, 7, 8, 9, 10, 11, 12, 13, 14, 15] (by decide +kernel) ?_
 simp only [vsAll, loadA, loadRow, partA, partOk, opA, dstOk, argFr, Nat.reduceLT, Nat.reduceEqDiff, ↓reduceIte, reduceCtorEq, eq_self, wtAll]
 refine qcall _ ⟨trivial, by simp only [vsAll, okAll, opsA, opA, Nat.reduceEqDiff, ↓reduceIte, eq_self], wcrew_tri g id c _ k.near ho⟩ ?_
 simp only [vsAll, binA, binLitA, intA, loadA, loadRow, partA, partOk, fieldAddrA, lenA, nilCheckA, opA, guardV, dstOk, nilA, argFr, Nat.reduceLT, Nat.reduceEqDiff, ↓reduceIte, reduceCtorEq, implies_true, eq_self, wtAll, ho, ep]
 refine ⟨fun g0 => ⟨g0, by ((try clear ho); omega), by ((try clear ho); omega), by simp only [InR_i64]; ((try clear ho); omega)⟩, fun g0 => ⟨g0, by simp only [InR_i64]; ((try clear ho); omega)⟩, ?_⟩
 refine qgcall _ (fun g' => ⟨by simp only [vsAll, opA], by simp only [vsAll, okAll, opsA, opA, Nat.reduceEqDiff, ↓reduceIte, eq_self, g'], gwithin_tri n 0 (((2 ^ g.sm.length : Nat) : Int) - 1) _⟩) ?_
 simp only [vsAll, pickA, opA, dstOk, resA, retA.eq_1, Nat.reduceLT, Nat.reduceEqDiff, ↓reduceIte, implies_true, eq_self, Tryz.results51]
 rfl
end Go.Proofs.YtdopkbldjagmlaaGreat
end
section
set_option linter.unusedVariables false
set_option linter.unusedSimpArgs false
namespace Go.Proofs.YtdopkbldjagmlaaGreat
open Go.V
/-- The least hour; 10000: the crew cannot do the set. -/
def tabV (g : Gg) (c S : Nat) : Int := (endO g c S).getD 10000
/-- What a seam, done last, gives. -/
def cnd (g : Gg) (c S n : Nat) : Option Int := if S.testBit n = true ∧ knB g c n = true then match endO g c (dif S (2 ^ n)) with
 | some t => if stT g (g.crew c).lo t n ≤ (g.seam n).fl then some (stT g (g.crew c).lo t n) else none
 | none => none else none
def cndN (g : Gg) (c S : Nat) : Nat → Option Int
 | 0 => none
 | i + 1 => comb min (cndN g c S i) (cnd g c S i)
theorem cnd_min (g : Gg) (c S n : Nat) : MinS (cnd g c S n) fun x => S.testBit n = true ∧ knB g c n = true ∧ ∃ t, endO g c (dif S (2 ^ n)) = some t ∧ stT g (g.crew c).lo t n ≤ (g.seam n).fl ∧ x = stT g (g.crew c).lo t n := by
 constructor
 ·rintro x ⟨h1, h2, t, h3, h4, rfl⟩
  refine ⟨_, ?_, Int.le_refl _⟩
  unfold cnd
  rw [if_pos ⟨h1, h2⟩, h3]
  exact if_pos h4
 ·intro m hm
  unfold cnd at hm
  split at hm
  ·rename_i h
   split at hm
   ·rename_i t ht
    split at hm
    ·rename_i hf
     cases hm
     exact ⟨h.1, h.2, t, ht, hf, rfl⟩
    ·cases hm
   ·cases hm
  ·cases hm
theorem cndN_min (g : Gg) (c S : Nat) : ∀ i, MinS (cndN g c S i) fun x => ∃ n, n < i ∧ S.testBit n = true ∧ knB g c n = true ∧ ∃ t, endO g c (dif S (2 ^ n)) = some t ∧ stT g (g.crew c).lo t n ≤ (g.seam n).fl ∧ x = stT g (g.crew c).lo t n
 | 0 => minS_nil.congr fun x => ⟨fun h => h.elim, fun ⟨n, h, _⟩ => by omega⟩
 | i + 1 => (minS_comb (cndN_min g c S i) (cnd_min g c S i)).congr fun x => by
   constructor
   ·rintro (⟨n, h, r⟩ | r)
    ·exact ⟨n, by omega, r⟩
    ·exact ⟨i, by omega, r⟩
   ·rintro ⟨n, h, r⟩
    by_cases e : n = i
    ·subst e; exact .inr r
    ·exact .inl ⟨n, by omega, r⟩
theorem cnd_end {g : Gg} {c S : Nat} (hN : g.N ≤ 5) (hS : S < 2 ^ g.N) (h0 : S ≠ 0) : cndN g c S g.N = endO g c S :=
 (cndN_min g c S g.N).uniq ((end_step hN hS h0).congr fun x => Iff.rfl)
/-- The same in numbers, as the program does it. -/
def tbN (g : Gg) (c S : Nat) (i : Nat) : Int := if S = 0 then 0 else (cndN g c S i).getD 10000
theorem tb_end {g : Gg} {c S : Nat} (hN : g.N ≤ 5) (hS : S < 2 ^ g.N) : tbN g c S g.N = tabV g c S := by
 unfold tbN tabV
 split
 ·rename_i h; subst h; rw [end_zero]; rfl
 ·rename_i h; rw [cnd_end hN hS h]
theorem tb_start (g : Gg) (c S : Nat) : tbN g c S 0 = if S = 0 then 0 else 10000 := rfl
theorem end_le {g : Gg} (k : OkG g) {c S : Nat} (hc : c < g.cw.length) (hS : S < 2 ^ g.N) {t : Int} (h : endO g c S = some t) : 0 ≤ t ∧ t ≤ 24 := by
 obtain ⟨l, h1, h2, h3, rfl⟩ := (end_min hS).is t h
 have hlo : 1 ≤ (g.crew c).lo ∧ (g.crew c).lo ≤ 12 := by
  have := k.crew hc
  unfold okC at this
  omega
 unfold lastT
 rcases Nat.eq_zero_or_pos l.length with e | e
 ·rw [e]; simp [donN]
 ·obtain ⟨n, en, hn⟩ := h2.at_ (l.length - 1) (by omega)
  have hnN := bit_lt hS hn
  have h4 := (rgt_iff.1 h3 (l.length - 1) (by omega))
  rw [show l.length - 1 + 1 = l.length by omega, en, Int.toNat_natCast] at h4
  have h5 := (k.seam hnN).2.2.1
  refine ⟨?_, by omega⟩
  have e2 : donN g (g.crew c).lo l l.length = stT g (g.crew c).lo (donN g (g.crew c).lo l (l.length - 1)) n := by
   conv => lhs; rw [show l.length = (l.length - 1) + 1 by omega]
   simp only [donN, en, Int.toNat_natCast]
  rw [e2]
  unfold stT
  have h6 := tk_le k hnN hlo
  have h7 := h4.1
  unfold knB at h7
  rw [Bool.and_eq_true, decide_eq_true_eq] at h7
  omega
theorem tab_le {g : Gg} (k : OkG g) {c S : Nat} (hc : c < g.cw.length) (hS : S < 2 ^ g.N) : 0 ≤ tabV g c S ∧ tabV g c S ≤ 10000 ∧ (tabV g c S < 10000 ↔ (endO g c S).isSome = true) := by
 unfold tabV
 cases h : endO g c S with
 | none => simp
 | some t =>
   have := end_le k hc hS h
   simp only [Option.getD_some, Option.isSome_some, iff_true]
   omega
/-- One seam more. -/
theorem tb_step {g : Gg} (k : OkG g) {c S i : Nat} (hc : c < g.cw.length) (hS : S < 2 ^ g.N) (hi : i < g.N) :
  tbN g c S (i + 1) = if (S.testBit i = true ∧ knB g c i = true) ∧ tabV g c (dif S (2 ^ i)) < 10000 ∧ stT g (g.crew c).lo (tabV g c (dif S (2 ^ i))) i ≤ (g.seam i).fl then min (tbN g c S i) (stT g (g.crew c).lo (tabV g c (dif S (2 ^ i))) i) else tbN g c S i := by
 have h24 := (k.seam hi).2.2.1
 have hD := dif_lt (b := 2 ^ i) hS
 have ht := tab_le k hc hD
 unfold tbN
 by_cases h0 : S = 0
 ·subst h0
  rw [if_pos rfl, if_pos rfl, if_neg]
  rintro ⟨⟨h, _⟩, _⟩
  rw [Nat.zero_testBit] at h
  cases h
 ·rw [if_neg h0, if_neg h0]
  have hcn : cnd g c S i = if (S.testBit i = true ∧ knB g c i = true) ∧ tabV g c (dif S (2 ^ i)) < 10000 ∧ stT g (g.crew c).lo (tabV g c (dif S (2 ^ i))) i ≤ (g.seam i).fl then some (stT g (g.crew c).lo (tabV g c (dif S (2 ^ i))) i) else none := by
   unfold cnd
   cases he : endO g c (dif S (2 ^ i)) with
   | none =>
     have : ¬ tabV g c (dif S (2 ^ i)) < 10000 := by unfold tabV; rw [he]; simp
     simp [this]
   | some t =>
     have e1 : tabV g c (dif S (2 ^ i)) = t := by unfold tabV; rw [he]; rfl
     have e2 := end_le k hc hD he
     rw [e1]
     have e3 : t < 10000 := by omega
     by_cases hb : S.testBit i = true ∧ knB g c i = true <;> by_cases hf : stT g (g.crew c).lo t i ≤ (g.seam i).fl <;> simp [hb, hf, e3]
  simp only [cndN]
  rw [hcn]
  split
  ·rename_i h
   cases ha : cndN g c S i with
   | none => simp only [comb, Option.getD_some, Option.getD_none]; omega
   | some x => simp only [comb, Option.getD_some]
  ·cases ha : cndN g c S i <;> rfl
end Go.Proofs.YtdopkbldjagmlaaGreat
end
