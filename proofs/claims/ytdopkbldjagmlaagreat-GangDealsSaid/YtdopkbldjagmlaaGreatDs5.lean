/- Helper lemmas of this claim, part 5. -/
import Derived.Test.YtdopkbldjagmlaaGreatDs4
section
set_option linter.unusedVariables false
set_option linter.unusedSimpArgs false
set_option maxHeartbeats 4000000
set_option maxRecDepth 100000
namespace Go.Proofs.YtdopkbldjagmlaaGreat
open Go.V
theorem rnL_get {g : Gg} {sp : Int} {l : List Int} {i : Nat} {v : List AV} (h : (rnL g sp l)[i]? = some v) : i < l.length ∧ v = [i64 i, stA (seenN l (i + 1)) (donN g sp l (i + 1))] := by
 obtain ⟨h1, h2⟩ := List.getElem?_eq_some_iff.1 h
 have h1 : i < l.length := by simpa [rnL] using h1
 refine ⟨h1, ?_⟩
 rw [← h2]
 simp [rnL]
theorem rnL_len (g : Gg) (sp : Int) (l : List Int) : (rnL g sp l).length = l.length := by simp [rnL]
theorem run_call {g : Gg} {c : Nat} {l : List Int} {b : Bool} {H : Hp} {K : AV → Hp → Prop} {Kp : AV → Hp → Prop} (k : OkG g) (hc : c < g.cw.length) (hr : rowB g l = true)
  (h1 : kwnB g c l = false → Kp (.iface 121 (i64 11)) H) (h2 : kwnB g c l = true → K (runF g c l b) H) : CallK Tryz.prog (fnA 46) [gP g, i64 c, intsAV l, pcA b] H K Kp := by
 refine ⟨_, run_tri g c l b H k hc hr, ?_⟩
 rintro r H' ⟨rfl, rfl⟩
 cases h : kwnB g c l with
 | true => exact h2 h
 | false => exact h1 h
theorem wchk_tri (g : Gg) (c : Int) (l : List Int) (H : Hp) (kn : NearG g) (hl : l.length ≤ 1000) : PTri Tryz.prog (fnA 13) [g.av, i64 c, intsAV l] H (.tuple [i64 (chkV g c l), i64 (chkE g c l)]) := by
 refine Tri.drop ?_
 refine tri_am (m := fun _ => false) gans Tryz.func13 (by kernel_rfl) rfl (by simp only [List.length_append, List.length_cons, List.length_nil, Tryz.ntmps13]; decide) ?_
 simp only [vsAll, boxA, boxZ, cellA, okAll, stAll, opsA, opA, allocA, dstOk, argFr, Nat.reduceAdd, Nat.reduceLT, Nat.reduceEqDiff, ↓reduceIte, eq_self, wtAll, Tryz.ntmps13]
 intro i6 hh_i6; (try simp only [Hp.set_none, ite_none] at hh_i6); intro i7 hh_i7; (try simp only [ite_none] at hh_i7)
 refine vs_draw3 [4, 5, 6] [([0, 0, 0, 0, 1, 3, 5], [([0, 1, 2, 3], [], 4), ([], [], 5), ([], [], 6)], []), ([0, 0, 0, 0, 3, 1, 5], [([0, 1, 2, 3], [0, 2, 3], 5), ([], [], 4), ([], [], 6)], [])] (by decide +kernel) ?_
 intro p hp
 simp only [List.mem_cons, List.not_mem_nil, or_false] at hp
 rcases hp with rfl | rfl
 ·simp only [vsAll, loadA, loadRow, partA, partOk, opA, dstOk, argFr, Nat.reduceLT, Nat.reduceEqDiff, ↓reduceIte, eq_self, wtAll]
  refine qcall _ ⟨trivial, by simp only [vsAll, okAll, opsA, opA, Nat.reduceEqDiff, ↓reduceIte, eq_self], isRF_tri c l _⟩ ?_
  simp only [vsAll, okAll, stAll, opsA, opA, dstOk, Nat.reduceLT, Nat.reduceEqDiff, ↓reduceIte, eq_self]
  refine gopen_call (openG_tri g _ (vRow g c l) _ kn trivial rfl (fun k H' id ho => isRF1_tri g c l id H' kn hl ho)) (fun he => ?_) (fun k hv => ?_)
  ·have e : rowE g c l = errG g (vRow g c l) := if_neg he
   have e1 : chkE g c l = errG g (vRow g c l) := by unfold chkE; rw [e, if_neg he]
   have e2 : chkV g c l = 0 := if_neg (by rw [e1]; exact he)
   simp only [vsAll, loadA, loadRow, partA, partOk, resA, retA.eq_2, Nat.reduceEqDiff, ↓reduceIte, eq_self, wtAll, Tryz.results13, hh_i7]
   refine ⟨errG g (vRow g c l), i7, _, rfl, rfl, by simp only [↓reduceIte, eq_self]; try rfl, ?_⟩
   simp only [vsAll, Nat.reduceLT, ↓reduceIte, eq_self, hh_i7]
   refine dropR_pure ?_ (by (repeat (first | exact HSub_rfl | refine HSub_put_eq (by simp only [vsAll, ↓reduceIte, eq_self, reduceCtorEq, Nat.reduceEqDiff, hh_i6, hh_i7]) ?_ | refine HSub_drop2 (by simp only [eq_self, hh_i6, hh_i7]) ?_ | refine HSub_keep_eq (by simp only [vsAll, ↓reduceIte, eq_self, reduceCtorEq, Nat.reduceEqDiff, hh_i6, hh_i7]) ?_)))
   simp only [eq_self, e1, e2]
  ·have he : errG g (vRow g c l) = 0 := by rw [hv]; exact errG_ok k
   have hv0 := hv
   unfold vRow at hv
   rw [Bool.and_eq_true, isCw_iff] at hv
   obtain ⟨⟨hv1, hv2⟩, hr⟩ := hv
   obtain ⟨c, rfl⟩ : ∃ n : Nat, c = (n : Int) := ⟨c.toNat, by ((try clear hh_i6 hh_i7); omega)⟩
   have hc : c < g.cw.length := by ((try clear hh_i6 hh_i7); omega)
   simp only [vsAll, loadA, loadRow, partA, partOk, cellA, cellsA, fillA, okParts, ifaceA, okAll, stAll, opsA, partsA, partsOk, opA, allocA, newCells, okCells, storeObj, dstOk, argFr, Nat.reduceLT, Nat.reduceEqDiff, ↓reduceIte, eq_self, wtAll]
   intro i8 hh_i8; (try simp only [ite_none] at hh_i8)
   refine run_call (b := false) k hc hr (fun hk => ?_) (fun hk => ?_)
   ·have e : rowE g c l = 11 := by unfold rowE; rw [if_pos he, Int.toNat_natCast, if_neg (by rw [hk]; decide)]
    have e1 : chkE g c l = 11 := by unfold chkE; rw [e, if_neg (by decide)]
    have e2 : chkV g c l = 0 := if_neg (by rw [e1]; decide)
    simp only [vsAll, loadA, loadRow, partA, partOk, resA, retA.eq_2, Nat.reduceEqDiff, ↓reduceIte, eq_self, wtAll, Tryz.results13, hh_i7, hh_i8]
    refine ⟨11, i7, _, rfl, rfl, by simp only [↓reduceIte, eq_self, hh_i8]; try rfl, ?_⟩
    simp only [vsAll, Nat.reduceLT, ↓reduceIte, eq_self, hh_i7]
    refine dropR_pure ?_ (by (repeat (first | exact HSub_rfl | refine HSub_put_eq (by simp only [vsAll, ↓reduceIte, eq_self, reduceCtorEq, Nat.reduceEqDiff, hh_i6, hh_i7, hh_i8]) ?_ | refine HSub_drop2 (by simp only [eq_self, hh_i6, hh_i7, hh_i8]) ?_ | refine HSub_keep_eq (by simp only [vsAll, ↓reduceIte, eq_self, reduceCtorEq, Nat.reduceEqDiff, hh_i6, hh_i7, hh_i8]) ?_)))
    simp only [eq_self, e1, e2]
   ·have e : rowE g c l = 0 := by unfold rowE; rw [if_pos he, Int.toNat_natCast, if_pos hk]
    have hll := row_len k hr
    have hsp : spd (g.crew c) false = (g.crew c).lo := rfl
    simp only [vsAll]
    refine vs_rangeB (σ := Unit) (rnL g (spd (g.crew c) false) l) (fun i _ => ∀ j, j < i → ltB g c l j = false)
     (fun _ _ => ((H.set i6 (.box 1 1 fun _ => [i64 0])).set i7 (.box 1 1 fun _ => [i64 0])).set i8 (.box 1 1 fun _ => [gP g])) () (fun _ => True) Tryz.func88 (by kernel_rfl) rfl (by simp only [vsAll, opA, ↓reduceIte, eq_self]) (by simp only [vsAll, opA, ↓reduceIte, eq_self]) (by decide) (fun v hv => by obtain ⟨q, _, rfl⟩ := List.mem_map.1 hv; rfl)
     (fun yf H K _ hi => run1_tri g c l false k hc hr hk yf H (fun _ => True) K hi) (fun q hq => absurd hq (Nat.not_lt_zero _)) ?_ ?_ ?_ ?_ ?_
    ·(repeat (first | exact HSub_rfl | refine HSub_put_eq (by simp only [vsAll, ↓reduceIte, eq_self, hh_i7, hh_i8]) ?_ | refine HSub_drop2 (by simp only [eq_self, hh_i6, hh_i7, hh_i8]) ?_ | refine HSub_keep_eq (by simp only [vsAll, ↓reduceIte, eq_self, reduceCtorEq, Nat.reduceEqDiff, hh_i6, hh_i7, hh_i8]) ?_))
    ·intro i _ _ q
     exact Iff.rfl
    ·intro i x hi lid did o1 o2 h1 h2
     trivial
    ·rintro j o i v ⟨⟩ hv hi hj lid did l' lo h1 h2 h3 h5 h6
     simp only [Hp.set_none] at hj h1 h2
     have h4 : ¬ did = lid := fun e => h3 e.symm
     have h5' : ¬ lid = j := fun e => h5 e.symm
     have h6' : ¬ did = j := fun e => h6 e.symm
     skip
     obtain ⟨his, rfl⟩ := rnL_get hv
     rw [hsp]
     obtain ⟨n, en, hn⟩ := row_nat hr his
     have eS : g.sm.getD n sm0 = g.seam n := rfl
     have hNe : g.N = g.sm.length := rfl
     have elt : ltB g c l i = decide ((g.seam n).fl < donN g (g.crew c).lo l (i + 1)) := by unfold ltB; rw [en, Int.toNat_natCast]
     simp only [vsAll, cellA, opA, allocA, newCells, okCells, storeObj, dstOk, quietOk, nilSliceOp, Nat.reduceAdd, Nat.reduceLT, Nat.reduceEqDiff, ↓reduceIte, eq_self, wtAll]
     intro i10 hh_i10; (try simp only [ite_none] at hh_i10)
     refine ⟨?_, ?_⟩
     ·simp only [↓reduceIte, eq_self, hh_i10]
     refine vs_draw2R [0, 0, 0, 0, 0, 0, 0, 0, 0, 0, 0, 0, 0, 0, 0] [] [0, 1, 2, 3, 4, 5, 6, 7, 8, 9, 10, 11, 12, 13, 14] (by repeat' constructor) (by decide +kernel) ?_
     simp only [vsAll, binA, binLitA, intA, loadA, loadRow, partA, partOk, fieldAddrA, indexAddrA, nilCheckA, opA, dstOk, Nat.reduceLT, Nat.reduceEqDiff, ↓reduceIte, eq_self, wtAll, hj, h1, h2, hh_i10, intF_at, en, smF_at, eS]
     refine ⟨⟨by ((try clear hh_i6 hh_i7 hh_i8 hj h1 h2 h3 h4 h5 h6 h5' h6' hh_i10); omega), by ((try clear hh_i6 hh_i7 hh_i8 hj h1 h2 h3 h4 h5 h6 h5' h6' hh_i10); omega)⟩, his, ⟨by ((try clear hh_i6 hh_i7 hh_i8 hj h1 h2 h3 h4 h5 h6 h5' h6' hh_i10); omega), by ((try clear hh_i6 hh_i7 hh_i8 hj h1 h2 h3 h4 h5 h6 h5' h6' hh_i10); omega)⟩, by ((try clear hh_i6 hh_i7 hh_i8 hj h1 h2 h3 h4 h5 h6 h5' h6' hh_i10); omega), ?_⟩
     refine condD (fun hc2 => ?_) (fun hc2 => ?_)
     ·have eo : latO g c l = some i := by
       unfold latO
       rw [List.find?_range_eq_some]
       exact ⟨by rw [elt]; exact decide_eq_true (by ((try clear hh_i6 hh_i7 hh_i8 hj h1 h2 h3 h4 h5 h6 h5' h6' hh_i10); omega)), List.mem_range.2 his, fun q hq => by rw [hi q hq]; rfl⟩
      have e1 : chkE g c l = 0 := by unfold chkE; rw [if_pos e, Int.toNat_natCast, eo]; rfl
      have e2 : chkV g c l = n := by unfold chkV; rw [if_pos e1, Int.toNat_natCast, eo]; exact en
      simp only [vsAll, loadA, loadRow, partA, partOk, indexAddrA, cellA, cellsA, opA, newCells, okCells, storeObj, dstOk, quietOk, resA, retA.eq_2, Nat.reduceLT, Nat.reduceEqDiff, ↓reduceIte, eq_self, wtAll, Tryz.results13, hh_i7, hh_i8, hj, h1, h2, h4, hh_i10, intF_at, en]
      refine ⟨⟨by ((try clear hh_i6 hh_i7 hh_i8 hj h1 h2 h3 h4 h5 h6 h5' h6' hh_i10); omega), by ((try clear hh_i6 hh_i7 hh_i8 hj h1 h2 h3 h4 h5 h6 h5' h6' hh_i10); omega)⟩, his, ⟨_, _, rfl⟩, i7, _, rfl, by simp only [↓reduceIte, eq_self, h1, h2]; try rfl, ?_⟩
      refine dropR_pure ?_ (by (repeat (first | exact HSub_rfl | refine HSub_put_eq (by simp only [vsAll, ↓reduceIte, eq_self, reduceCtorEq, Nat.reduceEqDiff, hh_i6, hh_i7, hh_i8, hj, h1, h2, h3, h4, h5, h6, h5', h6', hh_i10]) ?_ | refine HSub_drop2 (by simp only [eq_self, hh_i6, hh_i7, hh_i8, hj, h1, h2, hh_i10]) ?_ | refine HSub_keep_eq (by simp only [vsAll, ↓reduceIte, eq_self, reduceCtorEq, Nat.reduceEqDiff, hh_i6, hh_i7, hh_i8, hj, h1, h2, h3, h4, h5, h6, h5', h6', hh_i10]) ?_)))
      simp only [eq_self, e1, e2]
     ·simp only [vsAll, ↓reduceIte, eq_self]
      exact ⟨⟨_, _, rfl⟩, _, ⟨(), fun q hq => by
       rcases Nat.lt_succ_iff_lt_or_eq.1 hq with h | rfl
       ·exact hi q h
       ·rw [elt]; exact decide_eq_false (by ((try clear hh_i6 hh_i7 hh_i8 hj h1 h2 h3 h4 h5 h6 h5' h6' hh_i10); omega)), rfl⟩, by (repeat (first | exact HSub_rfl | refine HSub_put_eq (by simp only [vsAll, ↓reduceIte, eq_self, hh_i7, hh_i8, hj, h1, h2, h4, h5, h6, hh_i10]) ?_ | refine HSub_drop2 (by simp only [eq_self, hh_i6, hh_i7, hh_i8, hj, h1, h2, hh_i10]) ?_ | refine HSub_keep_eq (by simp only [vsAll, ↓reduceIte, eq_self, reduceCtorEq, Nat.reduceEqDiff, hh_i6, hh_i7, hh_i8, hj, h1, h2, h3, h4, h5, h6, h5', h6', hh_i10]) ?_))⟩
    ·rintro ⟨⟩ hi lid did lo h1 h2 h3
     simp only [Hp.set_none] at h1 h2
     have h4 : ¬ did = lid := fun e => h3 e.symm
     skip
     rw [rnL_len] at hi
     have eo : latO g c l = none := by
      unfold latO
      rw [List.find?_eq_none]
      intro q hq
      rw [List.mem_range] at hq
      rw [hi q hq]
      decide
     have e1 : chkE g c l = 4 := by unfold chkE; rw [if_pos e, Int.toNat_natCast, eo]; rfl
     have e2 : chkV g c l = 0 := if_neg (by rw [e1]; decide)
     simp only [vsAll, loadA, loadRow, partA, partOk, cellA, cellsA, opA, newCells, okCells, storeObj, dstOk, resA, retA.eq_2, Nat.reduceLT, Nat.reduceEqDiff, ↓reduceIte, eq_self, wtAll, Tryz.results13, hh_i7, hh_i8, h1, h2, h4]
     refine ⟨i7, _, rfl, by simp only [↓reduceIte, eq_self, h2]; try rfl, ?_⟩
     refine dropR_pure ?_ (by (repeat (first | exact HSub_rfl | refine HSub_put_eq (by simp only [vsAll, ↓reduceIte, eq_self, reduceCtorEq, Nat.reduceEqDiff, hh_i6, hh_i7, hh_i8, h1, h2, h3, h4]) ?_ | refine HSub_drop2 (by simp only [eq_self, hh_i6, hh_i7, hh_i8, h1, h2]) ?_ | refine HSub_keep_eq (by simp only [vsAll, ↓reduceIte, eq_self, reduceCtorEq, Nat.reduceEqDiff, hh_i6, hh_i7, hh_i8, h1, h2, h3, h4]) ?_)))
     simp only [eq_self, e1, e2]

 ·simp only [vsAll, loadA, loadRow, partA, partOk, opA, dstOk, argFr, Nat.reduceLT, Nat.reduceEqDiff, ↓reduceIte, eq_self, wtAll]
  refine qcall _ ⟨trivial, by simp only [vsAll, okAll, opsA, opA, Nat.reduceEqDiff, ↓reduceIte, eq_self], isRF_tri c l _⟩ ?_
  simp only [vsAll, loadA, loadRow, partA, partOk, okAll, stAll, opsA, opA, allocA, dstOk, Nat.reduceLT, Nat.reduceEqDiff, ↓reduceIte, eq_self, wtAll]
  intro i8 hh_i8; (try simp only [ite_none] at hh_i8)
  refine ⟨rcall _ ⟨trivial, by simp only [vsAll, okAll, opsA, opA, Nat.reduceEqDiff, ↓reduceIte, eq_self], isRF_tri c l _⟩ (by simp only [vsAll, ↓reduceIte, eq_self]), ?_⟩
  refine gopen_call (openG_tri g _ (vRow g c l) _ kn trivial rfl (fun k H' id ho => isRF1_tri g c l id H' kn hl ho)) (fun he => ?_) (fun k hv => ?_)
  ·have e : rowE g c l = errG g (vRow g c l) := if_neg he
   have e1 : chkE g c l = errG g (vRow g c l) := by unfold chkE; rw [e, if_neg he]
   have e2 : chkV g c l = 0 := if_neg (by rw [e1]; exact he)
   simp only [vsAll, loadA, loadRow, partA, partOk, resA, retA.eq_2, Nat.reduceEqDiff, ↓reduceIte, eq_self, wtAll, Tryz.results13, hh_i7, hh_i8]
   refine ⟨errG g (vRow g c l), i7, _, rfl, rfl, by simp only [↓reduceIte, eq_self, hh_i8]; try rfl, ?_⟩
   simp only [vsAll, Nat.reduceLT, ↓reduceIte, eq_self, hh_i7]
   refine dropR_pure ?_ (by (repeat (first | exact HSub_rfl | refine HSub_put_eq (by simp only [vsAll, ↓reduceIte, eq_self, reduceCtorEq, Nat.reduceEqDiff, hh_i6, hh_i7, hh_i8]) ?_ | refine HSub_drop2 (by simp only [eq_self, hh_i6, hh_i7, hh_i8]) ?_ | refine HSub_keep_eq (by simp only [vsAll, ↓reduceIte, eq_self, reduceCtorEq, Nat.reduceEqDiff, hh_i6, hh_i7, hh_i8]) ?_)))
   simp only [eq_self, e1, e2]
  ·have he : errG g (vRow g c l) = 0 := by rw [hv]; exact errG_ok k
   have hv0 := hv
   unfold vRow at hv
   rw [Bool.and_eq_true, isCw_iff] at hv
   obtain ⟨⟨hv1, hv2⟩, hr⟩ := hv
   obtain ⟨c, rfl⟩ : ∃ n : Nat, c = (n : Int) := ⟨c.toNat, by ((try clear hh_i6 hh_i7 hh_i8); omega)⟩
   have hc : c < g.cw.length := by ((try clear hh_i6 hh_i7 hh_i8); omega)
   simp only [vsAll, loadA, loadRow, partA, partOk, cellA, cellsA, fillA, okParts, ifaceA, okAll, stAll, opsA, partsA, partsOk, opA, newCells, okCells, storeObj, dstOk, argFr, Nat.reduceLT, Nat.reduceEqDiff, ↓reduceIte, eq_self, wtAll]
   refine run_call (b := false) k hc hr (fun hk => ?_) (fun hk => ?_)
   ·have e : rowE g c l = 11 := by unfold rowE; rw [if_pos he, Int.toNat_natCast, if_neg (by rw [hk]; decide)]
    have e1 : chkE g c l = 11 := by unfold chkE; rw [e, if_neg (by decide)]
    have e2 : chkV g c l = 0 := if_neg (by rw [e1]; decide)
    simp only [vsAll, loadA, loadRow, partA, partOk, resA, retA.eq_2, Nat.reduceEqDiff, ↓reduceIte, eq_self, wtAll, Tryz.results13, hh_i7, hh_i8]
    refine ⟨11, i7, _, rfl, rfl, by simp only [↓reduceIte, eq_self, hh_i8]; try rfl, ?_⟩
    simp only [vsAll, Nat.reduceLT, ↓reduceIte, eq_self, hh_i7]
    refine dropR_pure ?_ (by (repeat (first | exact HSub_rfl | refine HSub_put_eq (by simp only [vsAll, ↓reduceIte, eq_self, reduceCtorEq, Nat.reduceEqDiff, hh_i6, hh_i7, hh_i8]) ?_ | refine HSub_drop2 (by simp only [eq_self, hh_i6, hh_i7, hh_i8]) ?_ | refine HSub_keep_eq (by simp only [vsAll, ↓reduceIte, eq_self, reduceCtorEq, Nat.reduceEqDiff, hh_i6, hh_i7, hh_i8]) ?_)))
    simp only [eq_self, e1, e2]
   ·have e : rowE g c l = 0 := by unfold rowE; rw [if_pos he, Int.toNat_natCast, if_pos hk]
    have hll := row_len k hr
    have hsp : spd (g.crew c) false = (g.crew c).lo := rfl
    simp only [vsAll]
    refine vs_rangeB (σ := Unit) (rnL g (spd (g.crew c) false) l) (fun i _ => ∀ j, j < i → ltB g c l j = false)
     (fun _ _ => ((H.set i6 (.box 1 1 fun _ => [i64 0])).set i7 (.box 1 1 fun _ => [i64 0])).set i8 (.box 1 1 fun _ => [gP g])) () (fun _ => True) Tryz.func88 (by kernel_rfl) rfl (by simp only [vsAll, opA, ↓reduceIte, eq_self]) (by simp only [vsAll, opA, ↓reduceIte, eq_self]) (by decide) (fun v hv => by obtain ⟨q, _, rfl⟩ := List.mem_map.1 hv; rfl)
     (fun yf H K _ hi => run1_tri g c l false k hc hr hk yf H (fun _ => True) K hi) (fun q hq => absurd hq (Nat.not_lt_zero _)) ?_ ?_ ?_ ?_ ?_
    ·(repeat (first | exact HSub_rfl | refine HSub_put_eq (by simp only [vsAll, ↓reduceIte, eq_self, hh_i7, hh_i8]) ?_ | refine HSub_drop2 (by simp only [eq_self, hh_i6, hh_i7, hh_i8]) ?_ | refine HSub_keep_eq (by simp only [vsAll, ↓reduceIte, eq_self, reduceCtorEq, Nat.reduceEqDiff, hh_i6, hh_i7, hh_i8]) ?_))
    ·intro i _ _ q
     exact Iff.rfl
    ·intro i x hi lid did o1 o2 h1 h2
     trivial
    ·rintro j o i v ⟨⟩ hv hi hj lid did l' lo h1 h2 h3 h5 h6
     simp only [Hp.set_none] at hj h1 h2
     have h4 : ¬ did = lid := fun e => h3 e.symm
     have h5' : ¬ lid = j := fun e => h5 e.symm
     have h6' : ¬ did = j := fun e => h6 e.symm
     skip
     obtain ⟨his, rfl⟩ := rnL_get hv
     rw [hsp]
     obtain ⟨n, en, hn⟩ := row_nat hr his
     have eS : g.sm.getD n sm0 = g.seam n := rfl
     have hNe : g.N = g.sm.length := rfl
     have elt : ltB g c l i = decide ((g.seam n).fl < donN g (g.crew c).lo l (i + 1)) := by unfold ltB; rw [en, Int.toNat_natCast]
     simp only [vsAll, cellA, opA, allocA, newCells, okCells, storeObj, dstOk, quietOk, nilSliceOp, Nat.reduceAdd, Nat.reduceLT, Nat.reduceEqDiff, ↓reduceIte, eq_self, wtAll]
     intro i10 hh_i10; (try simp only [ite_none] at hh_i10)
     refine ⟨?_, ?_⟩
     ·simp only [↓reduceIte, eq_self, hh_i10]
     refine vs_draw2R [0, 0, 0, 0, 0, 0, 0, 0, 0, 0, 0, 0, 0, 0, 0] [] [0, 1, 2, 3, 4, 5, 6, 7, 8, 9, 10, 11, 12, 13, 14] (by repeat' constructor) (by decide +kernel) ?_
     simp only [vsAll, binA, binLitA, intA, loadA, loadRow, partA, partOk, fieldAddrA, indexAddrA, nilCheckA, opA, dstOk, Nat.reduceLT, Nat.reduceEqDiff, ↓reduceIte, eq_self, wtAll, hj, h1, h2, hh_i10, intF_at, en, smF_at, eS]
     refine ⟨⟨by ((try clear hh_i6 hh_i7 hh_i8 hj h1 h2 h3 h4 h5 h6 h5' h6' hh_i10); omega), by ((try clear hh_i6 hh_i7 hh_i8 hj h1 h2 h3 h4 h5 h6 h5' h6' hh_i10); omega)⟩, his, ⟨by ((try clear hh_i6 hh_i7 hh_i8 hj h1 h2 h3 h4 h5 h6 h5' h6' hh_i10); omega), by ((try clear hh_i6 hh_i7 hh_i8 hj h1 h2 h3 h4 h5 h6 h5' h6' hh_i10); omega)⟩, by ((try clear hh_i6 hh_i7 hh_i8 hj h1 h2 h3 h4 h5 h6 h5' h6' hh_i10); omega), ?_⟩
     refine condD (fun hc2 => ?_) (fun hc2 => ?_)
     ·have eo : latO g c l = some i := by
       unfold latO
       rw [List.find?_range_eq_some]
       exact ⟨by rw [elt]; exact decide_eq_true (by ((try clear hh_i6 hh_i7 hh_i8 hj h1 h2 h3 h4 h5 h6 h5' h6' hh_i10); omega)), List.mem_range.2 his, fun q hq => by rw [hi q hq]; rfl⟩
      have e1 : chkE g c l = 0 := by unfold chkE; rw [if_pos e, Int.toNat_natCast, eo]; rfl
      have e2 : chkV g c l = n := by unfold chkV; rw [if_pos e1, Int.toNat_natCast, eo]; exact en
      simp only [vsAll, loadA, loadRow, partA, partOk, indexAddrA, cellA, cellsA, opA, newCells, okCells, storeObj, dstOk, quietOk, resA, retA.eq_2, Nat.reduceLT, Nat.reduceEqDiff, ↓reduceIte, eq_self, wtAll, Tryz.results13, hh_i7, hh_i8, hj, h1, h2, h4, hh_i10, intF_at, en]
      refine ⟨⟨by ((try clear hh_i6 hh_i7 hh_i8 hj h1 h2 h3 h4 h5 h6 h5' h6' hh_i10); omega), by ((try clear hh_i6 hh_i7 hh_i8 hj h1 h2 h3 h4 h5 h6 h5' h6' hh_i10); omega)⟩, his, ⟨_, _, rfl⟩, i7, _, rfl, by simp only [↓reduceIte, eq_self, h1, h2]; try rfl, ?_⟩
      refine dropR_pure ?_ (by (repeat (first | exact HSub_rfl | refine HSub_put_eq (by simp only [vsAll, ↓reduceIte, eq_self, reduceCtorEq, Nat.reduceEqDiff, hh_i6, hh_i7, hh_i8, hj, h1, h2, h3, h4, h5, h6, h5', h6', hh_i10]) ?_ | refine HSub_drop2 (by simp only [eq_self, hh_i6, hh_i7, hh_i8, hj, h1, h2, hh_i10]) ?_ | refine HSub_keep_eq (by simp only [vsAll, ↓reduceIte, eq_self, reduceCtorEq, Nat.reduceEqDiff, hh_i6, hh_i7, hh_i8, hj, h1, h2, h3, h4, h5, h6, h5', h6', hh_i10]) ?_)))
      simp only [eq_self, e1, e2]
     ·simp only [vsAll, ↓reduceIte, eq_self]
      exact ⟨⟨_, _, rfl⟩, _, ⟨(), fun q hq => by
       rcases Nat.lt_succ_iff_lt_or_eq.1 hq with h | rfl
       ·exact hi q h
       ·rw [elt]; exact decide_eq_false (by ((try clear hh_i6 hh_i7 hh_i8 hj h1 h2 h3 h4 h5 h6 h5' h6' hh_i10); omega)), rfl⟩, by (repeat (first | exact HSub_rfl | refine HSub_put_eq (by simp only [vsAll, ↓reduceIte, eq_self, hh_i7, hh_i8, hj, h1, h2, h4, h5, h6, hh_i10]) ?_ | refine HSub_drop2 (by simp only [eq_self, hh_i6, hh_i7, hh_i8, hj, h1, h2, hh_i10]) ?_ | refine HSub_keep_eq (by simp only [vsAll, ↓reduceIte, eq_self, reduceCtorEq, Nat.reduceEqDiff, hh_i6, hh_i7, hh_i8, hj, h1, h2, h3, h4, h5, h6, h5', h6', hh_i10]) ?_))⟩
    ·rintro ⟨⟩ hi lid did lo h1 h2 h3
     simp only [Hp.set_none] at h1 h2
     have h4 : ¬ did = lid := fun e => h3 e.symm
     skip
     rw [rnL_len] at hi
     have eo : latO g c l = none := by
      unfold latO
      rw [List.find?_eq_none]
      intro q hq
      rw [List.mem_range] at hq
      rw [hi q hq]
      decide
     have e1 : chkE g c l = 4 := by unfold chkE; rw [if_pos e, Int.toNat_natCast, eo]; rfl
     have e2 : chkV g c l = 0 := if_neg (by rw [e1]; decide)
     simp only [vsAll, loadA, loadRow, partA, partOk, cellA, cellsA, opA, newCells, okCells, storeObj, dstOk, resA, retA.eq_2, Nat.reduceLT, Nat.reduceEqDiff, ↓reduceIte, eq_self, wtAll, Tryz.results13, hh_i7, hh_i8, h1, h2, h4]
     refine ⟨i7, _, rfl, by simp only [↓reduceIte, eq_self, h2]; try rfl, ?_⟩
     refine dropR_pure ?_ (by (repeat (first | exact HSub_rfl | refine HSub_put_eq (by simp only [vsAll, ↓reduceIte, eq_self, reduceCtorEq, Nat.reduceEqDiff, hh_i6, hh_i7, hh_i8, h1, h2, h3, h4]) ?_ | refine HSub_drop2 (by simp only [eq_self, hh_i6, hh_i7, hh_i8, h1, h2]) ?_ | refine HSub_keep_eq (by simp only [vsAll, ↓reduceIte, eq_self, reduceCtorEq, Nat.reduceEqDiff, hh_i6, hh_i7, hh_i8, h1, h2, h3, h4]) ?_)))
     simp only [eq_self, e1, e2]

end Go.Proofs.YtdopkbldjagmlaaGreat
end
section
set_option linter.unusedVariables false
set_option linter.unusedSimpArgs false
set_option maxHeartbeats 4000000
set_option maxRecDepth 100000
namespace Go.Proofs.YtdopkbldjagmlaaGreat
open Go.V
theorem vs_entF {P : Program} {m : Option Tmp → Bool} {n : Nat} {k : List It} {s : Fr} {ds : List AD} {H : Hp} {Q : Post} {g : Operand} {ps : Array Tmp} {assign body : Code} (h : Ent s ds H fun s ds H => VS none P m n (.code (.rangeFunc g ps assign body) :: k) s ds H Q) : VS none P m n (.code (.rangeFunc g ps assign body) :: k) s ds H Q :=
 (wps_ent h : WPS none P n (.rangeFunc g ps assign body) s ds H (TK none P m n k Q))
def spaF (l : List (Int × Int)) : Nat → List AV := fun i => [i64 (l.getD i (0, 0)).1, i64 (l.getD i (0, 0)).2]
theorem spaF_at (l : List (Int × Int)) (i : Nat) : spaF l i = [i64 (l.getD i (0, 0)).1, i64 (l.getD i (0, 0)).2] := rfl
abbrev spaAV (l : List (Int × Int)) : AV := .rsl l.length 2 (spaF l)
theorem app_spa {l : List (Int × Int)} {n : Nat} (hn : l.length = n) (a b : Int) (g : Nat → List AV) (hg : g 0 = [i64 a, i64 b]) : appF n 1 (spaF l) g = spaF (l ++ [(a, b)]) := by
 subst hn
 exact app_lF (fun x : Int × Int => [i64 x.1, i64 x.2]) (0, 0) l (a, b) g hg
/-- What is told of a row: the first ones with both hours. -/
def rwH (g : Gg) (c : Nat) (l : List Int) (a n : Nat) : List (Int × Int) := (List.range n).map fun i => (donN g (g.crew c).hi l (i + 1), if i < a then donN g (g.crew c).lo l (i + 1) else 0)
theorem rwH_len (g : Gg) (c : Nat) (l : List Int) (a n : Nat) : (rwH g c l a n).length = n := by simp [rwH]
theorem rwH_succ (g : Gg) (c : Nat) (l : List Int) (n : Nat) : rwH g c l 0 (n + 1) = rwH g c l 0 n ++ [(donN g (g.crew c).hi l (n + 1), 0)] := by simp [rwH, List.range_succ]
theorem rwH_at (g : Gg) (c : Nat) (l : List Int) (a : Nat) {n i : Nat} (hi : i < n) : (rwH g c l a n).getD i (0, 0) = (donN g (g.crew c).hi l (i + 1), if i < a then donN g (g.crew c).lo l (i + 1) else 0) := by
 simp [rwH, List.getD_eq_getElem?_getD, hi]
theorem rwH_upd (g : Gg) (c : Nat) (l : List Int) {n i : Nat} (hi : i < n) (q : Nat) (hq : q < n) : updF n i (spaF (rwH g c l i n)) (List.take 1 (spaF (rwH g c l i n) i) ++ [i64 (donN g (g.crew c).lo l (i + 1))] ++ List.drop 2 (spaF (rwH g c l i n) i)) q = spaF (rwH g c l (i + 1) n) q := by
 rw [updF_at hi hq]
 by_cases e : q = i
 ·subst e
  simp only [spaF, rwH_at g c l _ hi, Nat.lt_succ_self, if_true]
  simp
 ·simp only [spaF, rwH_at g c l _ hq]
  have : (q < i) = (q < i + 1) := by apply propext; omega
  simp [e, this]
def rowV (g : Gg) (c : Int) (l : List Int) : List (Int × Int) := if rowE g c l = 0 then rwH g c.toNat l l.length l.length else []
def rowRR (g : Gg) (c : Int) (l : List Int) (H : Hp) : Res → Hp → Prop := fun r H' => ∃ id, H id = none ∧ r = .ret (.tuple [.sl id 2 (rowV g c l).length, i64 (rowE g c l)]) ∧ H' = H.set id (.row 2 (rowV g c l).length (spaF (rowV g c l)))
theorem wrowM_tri (g : Gg) (c : Int) (l : List Int) (H : Hp) (kn : NearG g) (hl : l.length ≤ 1000) : Tri Tryz.prog (fnA 11) [g.av, i64 c, intsAV l] H (rowRR g c l H) := by
 refine Tri.drop ?_
 refine tri_am (m := mset [6]) gans Tryz.func11 (by kernel_rfl) rfl (by simp only [List.length_append, List.length_cons, List.length_nil, Tryz.ntmps11]; decide) ?_
 simp only [vsAll, boxA, boxZ, okAll, stAll, opsA, opA, allocA, dstOk, argFr, Nat.reduceAdd, Nat.reduceLT, Nat.reduceBEq, ↓reduceIte, eq_self, wtAll, Tryz.ntmps11, Go.V.nilA]
 intro i6 hh_i6; (try simp only [Hp.set_none, ite_none] at hh_i6); intro i7 hh_i7; (try simp only [ite_none] at hh_i7)
 refine vs_draw2 [0, 0, 0, 0, 1, 2] [([0, 1, 2, 3], [], 4)] [5] (by decide +kernel) ?_
 simp only [vsAll, loadA, loadRow, partA, partOk, opA, dstOk, argFr, Nat.reduceLT, Nat.reduceEqDiff, ↓reduceIte, eq_self, wtAll]
 refine qcall _ ⟨trivial, by simp only [vsAll, okAll, opsA, opA, Nat.reduceEqDiff, ↓reduceIte, eq_self], isRF_tri c l _⟩ ?_
 simp only [vsAll, okAll, stAll, opsA, opA, dstOk, Nat.reduceLT, Nat.reduceEqDiff, ↓reduceIte, eq_self]
 refine gopen_call (openG_tri g _ (vRow g c l) _ kn trivial rfl (fun k H' id ho => isRF1_tri g c l id H' kn hl ho)) (fun he => ?_) (fun k hv => ?_)
 ·have e : rowE g c l = errG g (vRow g c l) := if_neg he
  have e2 : rowV g c l = [] := if_neg (by rw [e]; exact he)
  simp only [vsAll, loadA, loadRow, partA, partOk, resA, retA.eq_2, Nat.reduceEqDiff, ↓reduceIte, eq_self, wtAll, Tryz.results11]
  refine ⟨errG g (vRow g c l), i7, _, rfl, rfl, by simp only [↓reduceIte, eq_self]; try rfl, ?_⟩
  simp only [vsAll, Nat.reduceLT, ↓reduceIte, eq_self]
  refine ⟨_, ?_, i6, hh_i6, by simp only [vsAll, eq_self, e2, e]; try rfl, rfl⟩
  rw [e2]
  refine HSub_put (o' := .row 2 0 fun _ => []) (by simp only [vsAll, ↓reduceIte, eq_self, hh_i7]) (row0_le _ _ _) ?_
  (repeat (first | exact HSub_rfl | refine HSub_put_eq (by simp only [vsAll, ↓reduceIte, eq_self, reduceCtorEq, Nat.reduceEqDiff, hh_i6, hh_i7]) ?_ | refine HSub_drop2 (by simp only [eq_self, hh_i6, hh_i7]) ?_ | refine HSub_keep_eq (by simp only [vsAll, ↓reduceIte, eq_self, reduceCtorEq, Nat.reduceEqDiff, hh_i6, hh_i7]) ?_))
 ·have he : errG g (vRow g c l) = 0 := by rw [hv]; exact errG_ok k
  have hv0 := hv
  unfold vRow at hv
  rw [Bool.and_eq_true, isCw_iff] at hv
  obtain ⟨⟨hv1, hv2⟩, hr⟩ := hv
  obtain ⟨c, rfl⟩ : ∃ n : Nat, c = (n : Int) := ⟨c.toNat, by ((try clear hh_i6 hh_i7); omega)⟩
  have hc : c < g.cw.length := by ((try clear hh_i6 hh_i7); omega)
  simp only [vsAll, fillA, okParts, ifaceA, okAll, stAll, opsA, partsA, partsOk, opA, allocA, dstOk, argFr, Nat.reduceLT, Nat.reduceEqDiff, ↓reduceIte, eq_self, wtAll]
  intro i9 hh_i9; (try simp only [ite_none] at hh_i9)
  refine run_call (b := true) k hc hr (fun hk => ?_) (fun hk => ?_)
  ·have e : rowE g c l = 11 := by unfold rowE; rw [if_pos he, Int.toNat_natCast, if_neg (by rw [hk]; decide)]
   have e2 : rowV g c l = [] := if_neg (by rw [e]; decide)
   simp only [vsAll, loadA, loadRow, partA, partOk, resA, retA.eq_2, Nat.reduceEqDiff, ↓reduceIte, eq_self, wtAll, Tryz.results11, hh_i9]
   refine ⟨11, i7, _, rfl, rfl, by simp only [↓reduceIte, eq_self, hh_i9]; try rfl, ?_⟩
   simp only [vsAll, Nat.reduceLT, ↓reduceIte, eq_self]
   refine ⟨_, ?_, i6, hh_i6, by simp only [vsAll, eq_self, e2, e]; try rfl, rfl⟩
   rw [e2]
   refine HSub_put (o' := .row 2 0 fun _ => []) (by simp only [vsAll, ↓reduceIte, eq_self, hh_i7, hh_i9]) (row0_le _ _ _) ?_
   (repeat (first | exact HSub_rfl | refine HSub_put_eq (by simp only [vsAll, ↓reduceIte, eq_self, reduceCtorEq, Nat.reduceEqDiff, hh_i6, hh_i7, hh_i9]) ?_ | refine HSub_drop2 (by simp only [eq_self, hh_i6, hh_i7, hh_i9]) ?_ | refine HSub_keep_eq (by simp only [vsAll, ↓reduceIte, eq_self, reduceCtorEq, Nat.reduceEqDiff, hh_i6, hh_i7, hh_i9]) ?_))
  ·have e : rowE g c l = 0 := by unfold rowE; rw [if_pos he, Int.toNat_natCast, if_pos hk]
   have hll := row_len k hr
   simp only [vsAll]
   refine vs_entF (Ent.nilBox 2 (spaF []) (fun id _ => [.sl id 2 0]) (j := i9) (st' := 1) (n' := 1) (g := fun _ => [.lit (.slice none 0 0)]) (Hp.set_same _ _ _) (fun _ _ _ => rfl) (fun id q d hq hd => ?_) fun ih hih => ?_)
   ·match d, hd with
    | 0, _ => exact .hit
   simp only [Hp.set_none] at hih
   have hih' := hih
   skip
   have h1e : spd (g.crew c) true = (g.crew c).hi := rfl
   have h2e : spd (g.crew c) false = (g.crew c).lo := rfl
   refine vs_rangeB (σ := Unit) (rnL g (spd (g.crew c) true) l) (fun _ _ => True)
    (fun i _ => (((H.set i6 (.row 2 0 fun _ => [])).set i7 (.box 1 1 fun _ => [i64 0])).set ih (.row 2 i (spaF (rwH g c l 0 i)))).set i9 (.box 1 1 fun _ => [.sl ih 2 i])) () (fun _ => True) Tryz.func88 (by kernel_rfl) rfl (by simp only [vsAll, opA, ↓reduceIte, eq_self]) (by simp only [vsAll, opA, ↓reduceIte, eq_self]) (by decide) (fun v hv => by obtain ⟨q, _, rfl⟩ := List.mem_map.1 hv; rfl)
    (fun yf H K _ hi => run1_tri g c l true k hc hr hk yf H (fun _ => True) K hi) trivial ?_ ?_ ?_ ?_ ?_
   ·show Go.V.HSub _ ((((H.set i6 (.row 2 0 fun _ => [])).set i7 (.box 1 1 fun _ => [i64 0])).set ih (.row 2 0 (spaF []))).set i9 (.box 1 1 fun _ => [.sl ih 2 0]))
    (repeat (first | exact HSub_rfl | refine HSub_put_eq (by simp only [vsAll, ↓reduceIte, eq_self, hh_i7, hh_i9, hih']) ?_ | refine HSub_drop2 (by simp only [eq_self, hh_i6, hh_i7, hh_i9, hih']) ?_ | refine HSub_keep_eq (by simp only [vsAll, ↓reduceIte, eq_self, reduceCtorEq, Nat.reduceEqDiff, hh_i6, hh_i7, hh_i9, hih']) ?_))
   ·intro i _ _ q
    simp only [Hp.set_none]
   ·intro i x hi lid did o1 o2 h1 h2
    trivial
   ·rintro j2 o i v ⟨⟩ hv hi hj2 lid did l' lo h1 h2 h3 h5 h6
    simp only [Hp.set_none] at hj2 h1 h2
    have h4 : ¬ did = lid := fun e => h3 e.symm
    have h5' : ¬ lid = j2 := fun e => h5 e.symm
    have h6' : ¬ did = j2 := fun e => h6 e.symm
    skip
    obtain ⟨his, rfl⟩ := rnL_get hv
    rw [h1e]
    simp only [vsAll, loadA, loadRow, partA, partOk, fieldAddrA, cellA, cellsA, fillA, okParts, buildSliceA, partIdx, elemsA, lensA, partsA, partsOk, opA, allocA, newCells, okCells, storeObj, appendA, dstOk, quietOk, Nat.reduceAdd, Nat.reduceMul, Nat.reduceLT, Nat.reduceLeDiff, Nat.reduceEqDiff, Nat.reduceBEq, ↓reduceIte, eq_self, wtAll, hj2, h1, h2]
    intro i11 hh_i11; (try simp only [ite_none] at hh_i11)
    refine ⟨?_, ?_⟩
    ·simp only [↓reduceIte, eq_self, hh_i11]
    simp only [vsAll, Nat.reduceAdd, Nat.reduceLT, ↓reduceIte, eq_self, hih', hj2, h1, h2, hh_i11]
    rw [app_spa (rwH_len g c l 0 i) (donN g (g.crew c).hi l (i + 1)) 0 _ rfl, ← rwH_succ]
    exact ⟨fun q hq => by (have : q = 0 := by ((try clear hh_i6 hh_i7 hh_i9 hih' hj2 h1 h2 h3 h4 h5 h6 h5' h6' hh_i11); omega)); subst this; exact ⟨rfl, rfl, trivial⟩, by ((try clear hh_i6 hh_i7 hh_i9 hih' hj2 h1 h2 h3 h4 h5 h6 h5' h6' hh_i11); omega), by ((try clear hh_i6 hh_i7 hh_i9 hih' hj2 h1 h2 h3 h4 h5 h6 h5' h6' hh_i11); omega), ⟨_, _, rfl⟩, _, ⟨(), rfl⟩, by (repeat (first | exact HSub_rfl | refine HSub_put_eq (by simp only [vsAll, ↓reduceIte, eq_self, hh_i7, hh_i9, hih', hj2, h1, h2, h4, h5, h6, hh_i11]) ?_ | refine HSub_drop2 (by simp only [eq_self, hh_i6, hh_i7, hh_i9, hih', hj2, h1, h2, hh_i11]) ?_ | refine HSub_keep_eq (by simp only [vsAll, ↓reduceIte, eq_self, reduceCtorEq, Nat.reduceEqDiff, hh_i6, hh_i7, hh_i9, hih', hj2, h1, h2, h3, h4, h5, h6, h5', h6', hh_i11]) ?_))⟩
   ·rintro ⟨⟩ hi lid did lo h1 h2 h3
    simp only [Hp.set_none] at h1 h2
    have h4 : ¬ did = lid := fun e => h3 e.symm
    skip
    rw [rnL_len]
    simp only [vsAll, fillA, okParts, ifaceA, okAll, stAll, opsA, partsA, partsOk, opA, dstOk, argFr, Nat.reduceLT, Nat.reduceEqDiff, ↓reduceIte, eq_self, wtAll]
    refine run_call (b := false) k hc hr (fun hk2 => absurd hk2 (by rw [hk]; decide)) (fun _ => ?_)
    simp only [vsAll]
    refine vs_rangeB (σ := Unit) (rnL g (spd (g.crew c) false) l) (fun _ _ => True)
     (fun i _ => ((((H.set i6 (.row 2 0 fun _ => [])).set i7 (.box 1 1 fun _ => [i64 0])).set ih (.row 2 l.length (spaF (rwH g c l i l.length)))).set i9 (.box 1 1 fun _ => [.sl ih 2 l.length])).set did (.raw (.deferred (some [])))) () (fun _ => True) Tryz.func88 (by kernel_rfl) rfl (by simp only [vsAll, opA, ↓reduceIte, eq_self]) (by simp only [vsAll, opA, ↓reduceIte, eq_self]) (by decide) (fun v hv => by obtain ⟨q, _, rfl⟩ := List.mem_map.1 hv; rfl)
     (fun yf H K _ hi => run1_tri g c l false k hc hr hk yf H (fun _ => True) K hi) trivial ?_ ?_ ?_ ?_ ?_
    ·(repeat (first | exact HSub_rfl | refine HSub_put_eq (by simp only [vsAll, ↓reduceIte, eq_self, hh_i7, hh_i9, hih', h1, h2, h4]) ?_ | refine HSub_drop2 (by simp only [eq_self, hh_i6, hh_i7, hh_i9, hih', h1, h2]) ?_ | refine HSub_keep_eq (by simp only [vsAll, ↓reduceIte, eq_self, reduceCtorEq, Nat.reduceEqDiff, hh_i6, hh_i7, hh_i9, hih', h1, h2, h3, h4]) ?_))
    ·intro i _ _ q
     simp only [Hp.set_none]
    ·intro i x hi lid2 did2 o1 o2 g1 g2
     trivial
    ·rintro j3 o i v ⟨⟩ hv hi hj3 lid2 did2 l' lo2 g1 g2 g3 g5 g6
     simp only [Hp.set_none] at hj3 g1 g2
     have g4 : ¬ did2 = lid2 := fun e => g3 e.symm
     have g5' : ¬ lid2 = j3 := fun e => g5 e.symm
     have g6' : ¬ did2 = j3 := fun e => g6 e.symm
     skip
     obtain ⟨his, rfl⟩ := rnL_get hv
     rw [h2e]
     simp only [vsAll, loadA, loadRow, partA, partOk, fieldAddrA, indexAddrA, cellA, cellsA, opA, allocA, newCells, okCells, storeObj, dstOk, quietOk, nilSliceOp, Nat.reduceAdd, Nat.reduceLT, Nat.reduceEqDiff, Nat.reduceBEq, ↓reduceIte, reduceCtorEq, eq_self, wtAll, h2, hj3, g1, g2]
     intro i13 hh_i13; (try simp only [ite_none] at hh_i13)
     refine ⟨?_, ?_⟩
     ·simp only [↓reduceIte, eq_self, hh_i13]
     simp only [vsAll, cellA, okCells, Nat.reduceAdd, Nat.reduceLT, ↓reduceIte, eq_self, hih', h2, hj3, g1, g2, hh_i13]
     refine ⟨⟨by ((try clear hh_i6 hh_i7 hh_i9 hih' h1 h2 h3 h4 hj3 g1 g2 g3 g4 g5 g6 g5' g6' hh_i13); omega), by ((try clear hh_i6 hh_i7 hh_i9 hih' h1 h2 h3 h4 hj3 g1 g2 g3 g4 g5 g6 g5' g6' hh_i13); omega)⟩, his, ⟨_, _, rfl⟩, _, ⟨(), rfl⟩, ?_⟩
     refine HSub_put_eq (by simp only [vsAll, ↓reduceIte, eq_self, g1]) ?_
     refine HSub_put_eq (by simp only [vsAll, ↓reduceIte, eq_self, g2, g4, hh_i13]) ?_
     refine HSub_put_eq (by simp only [vsAll, ↓reduceIte, eq_self, hj3, g5, g6, hh_i13]) ?_
     refine HSub_put_eq (by simp only [vsAll, ↓reduceIte, eq_self, h2, hj3, g1, g2, hh_i13]) ?_
     refine HSub_put_eq (by simp only [vsAll, ↓reduceIte, eq_self, hih', h2, hj3, g1, g2, hh_i13]) ?_
     refine HSub_put (o' := .row 2 l.length (updF l.length i (spaF (rwH g c l i l.length)) (List.take 1 (spaF (rwH g c l i l.length) i) ++ [i64 (donN g (g.crew c).lo l (i + 1))] ++ List.drop 2 (spaF (rwH g c l i l.length) i)))) (by simp only [vsAll, ↓reduceIte, eq_self]) (row_ext (rwH_upd g c l his)) ?_
     (repeat (first | exact HSub_rfl | refine HSub_put_eq (by simp only [vsAll, ↓reduceIte, eq_self, hh_i7, hh_i9, hih', h2, hj3, g1, g2, hh_i13]) ?_ | refine HSub_drop2 (by simp only [eq_self, hh_i6, hh_i7, hh_i9, hih', h2, hj3, g1, g2, hh_i13]) ?_ | refine HSub_keep_eq (by simp only [vsAll, ↓reduceIte, eq_self, reduceCtorEq, Nat.reduceEqDiff, hh_i6, hh_i7, hh_i9, hih', h1, h2, h3, h4, hj3, g1, g2, g3, g4, g5, g6, g5', g6', hh_i13]) ?_))
    ·rintro ⟨⟩ hi lid2 did2 lo2 g1 g2 g3
     simp only [Hp.set_none] at g1 g2
     have g4 : ¬ did2 = lid2 := fun e => g3 e.symm
     skip
     rw [rnL_len]
     simp only [vsAll, loadA, loadRow, partA, partOk, cellA, cellsA, opA, newCells, okCells, storeObj, dstOk, nilSliceOp, resA, retA.eq_2, Nat.reduceLT, Nat.reduceEqDiff, Nat.reduceBEq, ↓reduceIte, eq_self, wtAll, Tryz.results11, hh_i9, hih', h2, g1, g2, g4]
     have ev : rowV g c l = rwH g c l l.length l.length := by unfold rowV; rw [if_pos e, Int.toNat_natCast]
     have el : (rowV g c l).length = l.length := by rw [ev, rwH_len]
     refine ⟨i7, _, rfl, by simp only [↓reduceIte, eq_self, h2, g2]; try rfl, ?_⟩
     refine ⟨H.set ih (.row 2 (rowV g c l).length (spaF (rowV g c l))), ?_, ih, by simp only [eq_self, hih'], by simp only [eq_self, el, e]; try rfl, rfl⟩
     rw [el, ev]
     (repeat (first | exact HSub_rfl | refine HSub_put_eq (by simp only [vsAll, ↓reduceIte, eq_self, hih', h2, g1, g2]) ?_ | refine HSub_drop2 (by simp only [eq_self, hh_i6, hh_i7, hh_i9, hih', h2, g1, g2]) ?_ | refine HSub_keep_eq (by simp only [vsAll, ↓reduceIte, eq_self, reduceCtorEq, Nat.reduceEqDiff, hh_i6, hh_i7, hh_i9, hih', h1, h2, h3, h4, g1, g2, g3, g4]) ?_))
theorem wrow_tri (g : Gg) (c : Int) (l : List Int) (H : Hp) (kn : NearG g) (hl : l.length ≤ 1000) : PTri Tryz.prog (fnA 11) [g.av, i64 c, intsAV l] H (.tuple [spaAV (rowV g c l), i64 (rowE g c l)]) := by
 refine Tri.thaw (wrowM_tri g c l H kn hl) ?_
 rintro r H' ⟨id, hid, rfl, rfl⟩
 right
 exact ⟨_, id, 2, _, _, 0, rfl, Hp.set_same _ _ _, by simp, rfl, rfl, set_del hid⟩
end Go.Proofs.YtdopkbldjagmlaaGreat
end
section
set_option linter.unusedVariables false
set_option linter.unusedSimpArgs false
set_option maxHeartbeats 4000000
set_option maxRecDepth 100000
namespace Go.Proofs.YtdopkbldjagmlaaGreat
open Go.V
theorem galways_tri (a : AV) (H : Hp) (id : Nat) : PTri Tryz.prog (fnA 61) [.ref id 0 8 0 0] H (boo true) := by
 refine tri_v0 (fun _ => false) Tryz.func61 (by kernel_rfl) rfl (by simp only [List.length_append, List.length_cons, List.length_nil, Tryz.ntmps61]; decide) ?_
 simp only [vsAll, opA, dstOk, nilSliceOp, resA, retA.eq_1, Nat.reduceLT, ↓reduceIte, eq_self, Tryz.ntmps61, Tryz.results61]
theorem sets1_tri (g : Gg) (c : Int) (id : Nat) (H : Hp) (k : NearG g) (ho : opB id g H) : PTri Tryz.prog (.func (.func 57) [] [bx c]) [.ref id 0 8 0 0] H (boo (isCw g c)) := by
 refine tri_v0 (fun _ => false) Tryz.func57 (by kernel_rfl) rfl (by simp only [List.length_append, List.length_cons, List.length_nil, Tryz.ntmps57]; decide) ?_
 skip
 simp only [vsAll, loadA, loadRow, partA, partOk, okAll, stAll, opsA, opA, dstOk, nilSliceOp, argFr, Nat.reduceLT, Nat.reduceEqDiff, ↓reduceIte, reduceCtorEq, eq_self, wtAll, Tryz.ntmps57]
 refine callK_pure (wcrew_tri g id c _ k ho) ?_
 simp only [vsAll, opA, dstOk, nilSliceOp, resA, retA.eq_1, Nat.reduceLT, ↓reduceIte, eq_self, Tryz.results57]
def isSet (g : Gg) (n : Int) : Bool := decide (0 ≤ n) && decide (n ≤ ((2 ^ g.N : Nat) : Int) - 1)
def vCan (g : Gg) (c n : Int) : Bool := isCw g c && isSet g n
theorem can1_tri (g : Gg) (c n : Int) (id : Nat) (H : Hp) (k : OkG g) (ho : opB id g H) : PTri Tryz.prog (.func (.func 51) [] [bx c, bx n]) [.ref id 0 8 0 0] H (boo (vCan g c n)) := by
 have hN : g.sm.length ≤ 5 := k.nS
 have hNe : g.N = g.sm.length := rfl
 have hpw : 2 ^ g.sm.length ≤ 2 ^ 5 := Nat.pow_le_pow_right (by omega) hN
 have hp0 : 0 < 2 ^ g.sm.length := Nat.two_pow_pos _
 have ep : (1 : Int) * 2 ^ g.sm.length = ((2 ^ g.sm.length : Nat) : Int) := by rw [Int.one_mul]; simp
 refine tri_v0 (fun _ => false) Tryz.func51 (by kernel_rfl) rfl (by simp only [List.length_append, List.length_cons, List.length_nil, Tryz.ntmps51]; decide) ?_
 skip
 simp only [vsAll, opA, dstOk, nilSliceOp, Nat.reduceLT, eq_self, Tryz.ntmps51]
 refine vs_draw2 [0, 0, 0, 0, 0, 0, 0, 0, 0, 0, 0, 0, 0, 0, 0, 0] [] [0, 1, 2, 3, 4, 5, 6, 7, 8, 9, 10, 11, 12, 13, 14, 15] (by decide +kernel) ?_
 simp only [vsAll, loadA, loadRow, partA, partOk, opA, dstOk, argFr, Nat.reduceLT, Nat.reduceEqDiff, ↓reduceIte, reduceCtorEq, eq_self, wtAll]
 refine qcall _ ⟨trivial, by simp only [vsAll, okAll, opsA, opA, Nat.reduceEqDiff, ↓reduceIte, eq_self], wcrew_tri g id c _ k.near ho⟩ ?_
 simp only [vsAll, binA, binLitA, intA, loadA, loadRow, partA, partOk, fieldAddrA, lenA, nilCheckA, opA, guardV, dstOk, nilA, argFr, Nat.reduceLT, Nat.reduceEqDiff, ↓reduceIte, reduceCtorEq, implies_true, eq_self, wtAll, ho, ep]
 refine ⟨fun g0 => ⟨g0, by ((try clear ho); omega), by ((try clear ho); omega), by simp only [InR_i64]; ((try clear ho); omega)⟩, fun g0 => ⟨g0, by simp only [InR_i64]; ((try clear ho); omega)⟩, ?_⟩
 refine qgcall _ (fun g' => ⟨by simp only [vsAll, opA], by simp only [vsAll, okAll, opsA, opA, Nat.reduceEqDiff, ↓reduceIte, eq_self, g'], gwithin_tri n 0 (((2 ^ g.sm.length : Nat) : Int) - 1) _⟩) ?_
 simp only [vsAll, pickA, opA, dstOk, resA, retA.eq_1, Nat.reduceLT, Nat.reduceEqDiff, ↓reduceIte, implies_true, eq_self, Tryz.results51]
 rfl
end Go.Proofs.YtdopkbldjagmlaaGreat
end
section
set_option linter.unusedVariables false
set_option linter.unusedSimpArgs false
namespace Go.Proofs.YtdopkbldjagmlaaGreat
open Go.V
/-- The least hour; 10000: the crew cannot do the set. -/
def tabV (g : Gg) (c S : Nat) : Int := (endO g c S).getD 10000
/-- What a seam, done last, gives. -/
def cnd (g : Gg) (c S n : Nat) : Option Int := if S.testBit n = true ∧ knB g c n = true then match endO g c (dif S (2 ^ n)) with
 | some t => if stT g (g.crew c).lo t n ≤ (g.seam n).fl then some (stT g (g.crew c).lo t n) else none
 | none => none else none
def cndN (g : Gg) (c S : Nat) : Nat → Option Int
 | 0 => none
 | i + 1 => comb min (cndN g c S i) (cnd g c S i)
theorem cnd_min (g : Gg) (c S n : Nat) : MinS (cnd g c S n) fun x => S.testBit n = true ∧ knB g c n = true ∧ ∃ t, endO g c (dif S (2 ^ n)) = some t ∧ stT g (g.crew c).lo t n ≤ (g.seam n).fl ∧ x = stT g (g.crew c).lo t n := by
 constructor
 ·rintro x ⟨h1, h2, t, h3, h4, rfl⟩
  refine ⟨_, ?_, Int.le_refl _⟩
  unfold cnd
  rw [if_pos ⟨h1, h2⟩, h3]
  exact if_pos h4
 ·intro m hm
  unfold cnd at hm
  split at hm
  ·rename_i h
   split at hm
   ·rename_i t ht
    split at hm
    ·rename_i hf
     cases hm
     exact ⟨h.1, h.2, t, ht, hf, rfl⟩
    ·cases hm
   ·cases hm
  ·cases hm
theorem cndN_min (g : Gg) (c S : Nat) : ∀ i, MinS (cndN g c S i) fun x => ∃ n, n < i ∧ S.testBit n = true ∧ knB g c n = true ∧ ∃ t, endO g c (dif S (2 ^ n)) = some t ∧ stT g (g.crew c).lo t n ≤ (g.seam n).fl ∧ x = stT g (g.crew c).lo t n
 | 0 => minS_nil.congr fun x => ⟨fun h => h.elim, fun ⟨n, h, _⟩ => by omega⟩
 | i + 1 => (minS_comb (cndN_min g c S i) (cnd_min g c S i)).congr fun x => by
   constructor
   ·rintro (⟨n, h, r⟩ | r)
    ·exact ⟨n, by omega, r⟩
    ·exact ⟨i, by omega, r⟩
   ·rintro ⟨n, h, r⟩
    by_cases e : n = i
    ·subst e; exact .inr r
    ·exact .inl ⟨n, by omega, r⟩
theorem cnd_end {g : Gg} {c S : Nat} (hN : g.N ≤ 5) (hS : S < 2 ^ g.N) (h0 : S ≠ 0) : cndN g c S g.N = endO g c S :=
 (cndN_min g c S g.N).uniq ((end_step hN hS h0).congr fun x => Iff.rfl)
/-- The same in numbers, as the program does it. -/
def tbN (g : Gg) (c S : Nat) (i : Nat) : Int := if S = 0 then 0 else (cndN g c S i).getD 10000
theorem tb_end {g : Gg} {c S : Nat} (hN : g.N ≤ 5) (hS : S < 2 ^ g.N) : tbN g c S g.N = tabV g c S := by
 unfold tbN tabV
 split
 ·rename_i h; subst h; rw [end_zero]; rfl
 ·rename_i h; rw [cnd_end hN hS h]
theorem tb_start (g : Gg) (c S : Nat) : tbN g c S 0 = if S = 0 then 0 else 10000 := rfl
theorem end_le {g : Gg} (k : OkG g) {c S : Nat} (hc : c < g.cw.length) (hS : S < 2 ^ g.N) {t : Int} (h : endO g c S = some t) : 0 ≤ t ∧ t ≤ 24 := by
 obtain ⟨l, h1, h2, h3, rfl⟩ := (end_min hS).is t h
 have hlo : 1 ≤ (g.crew c).lo ∧ (g.crew c).lo ≤ 12 := by
  have := k.crew hc
  unfold okC at this
  omega
 unfold lastT
 rcases Nat.eq_zero_or_pos l.length with e | e
 ·rw [e]; simp [donN]
 ·obtain ⟨n, en, hn⟩ := h2.at_ (l.length - 1) (by omega)
  have hnN := bit_lt hS hn
  have h4 := (rgt_iff.1 h3 (l.length - 1) (by omega))
  rw [show l.length - 1 + 1 = l.length by omega, en, Int.toNat_natCast] at h4
  have h5 := (k.seam hnN).2.2.1
  refine ⟨?_, by omega⟩
  have e2 : donN g (g.crew c).lo l l.length = stT g (g.crew c).lo (donN g (g.crew c).lo l (l.length - 1)) n := by
   conv => lhs; rw [show l.length = (l.length - 1) + 1 by omega]
   simp only [donN, en, Int.toNat_natCast]
  rw [e2]
  unfold stT
  have h6 := tk_le k hnN hlo
  have h7 := h4.1
  unfold knB at h7
  rw [Bool.and_eq_true, decide_eq_true_eq] at h7
  omega
theorem tab_le {g : Gg} (k : OkG g) {c S : Nat} (hc : c < g.cw.length) (hS : S < 2 ^ g.N) : 0 ≤ tabV g c S ∧ tabV g c S ≤ 10000 ∧ (tabV g c S < 10000 ↔ (endO g c S).isSome = true) := by
 unfold tabV
 cases h : endO g c S with
 | none => simp
 | some t =>
   have := end_le k hc hS h
   simp only [Option.getD_some, Option.isSome_some, iff_true]
   omega
/-- One seam more. -/
theorem tb_step {g : Gg} (k : OkG g) {c S i : Nat} (hc : c < g.cw.length) (hS : S < 2 ^ g.N) (hi : i < g.N) :
  tbN g c S (i + 1) = if (S.testBit i = true ∧ knB g c i = true) ∧ tabV g c (dif S (2 ^ i)) < 10000 ∧ stT g (g.crew c).lo (tabV g c (dif S (2 ^ i))) i ≤ (g.seam i).fl then min (tbN g c S i) (stT g (g.crew c).lo (tabV g c (dif S (2 ^ i))) i) else tbN g c S i := by
 have h24 := (k.seam hi).2.2.1
 have hD := dif_lt (b := 2 ^ i) hS
 have ht := tab_le k hc hD
 unfold tbN
 by_cases h0 : S = 0
 ·subst h0
  rw [if_pos rfl, if_pos rfl, if_neg]
  rintro ⟨⟨h, _⟩, _⟩
  rw [Nat.zero_testBit] at h
  cases h
 ·rw [if_neg h0, if_neg h0]
  have hcn : cnd g c S i = if (S.testBit i = true ∧ knB g c i = true) ∧ tabV g c (dif S (2 ^ i)) < 10000 ∧ stT g (g.crew c).lo (tabV g c (dif S (2 ^ i))) i ≤ (g.seam i).fl then some (stT g (g.crew c).lo (tabV g c (dif S (2 ^ i))) i) else none := by
   unfold cnd
   cases he : endO g c (dif S (2 ^ i)) with
   | none =>
     have : ¬ tabV g c (dif S (2 ^ i)) < 10000 := by unfold tabV; rw [he]; simp
     simp [this]
   | some t =>
     have e1 : tabV g c (dif S (2 ^ i)) = t := by unfold tabV; rw [he]; rfl
     have e2 := end_le k hc hD he
     rw [e1]
     have e3 : t < 10000 := by omega
     by_cases hb : S.testBit i = true ∧ knB g c i = true <;> by_cases hf : stT g (g.crew c).lo t i ≤ (g.seam i).fl <;> simp [hb, hf, e3]
  simp only [cndN]
  rw [hcn]
  split
  ·rename_i h
   cases ha : cndN g c S i with
   | none => simp only [comb, Option.getD_some, Option.getD_none]; omega
   | some x => simp only [comb, Option.getD_some]
  ·cases ha : cndN g c S i <;> rfl
end Go.Proofs.YtdopkbldjagmlaaGreat
end
section
set_option linter.unusedVariables false
set_option linter.unusedSimpArgs false
set_option maxHeartbeats 4000000
set_option maxRecDepth 100000
namespace Go.Proofs.YtdopkbldjagmlaaGreat
open Go.V
/-- The table so far. -/
def tF (g : Gg) (c i : Nat) (v : Int) : Nat → List AV := fun q => [i64 (if q < i then tabV g c q else if q = i then v else 0)]
theorem tF_at (g : Gg) (c i : Nat) (v : Int) {q : Nat} (h : q < i) : tF g c i v q = [i64 (tabV g c q)] := by
 unfold tF
 rw [if_pos h]
theorem tF_now (g : Gg) (c i : Nat) (v : Int) : tF g c i v i = [i64 v] := by
 unfold tF
 rw [if_neg (Nat.lt_irrefl i), if_pos rfl]
theorem tF_upd (g : Gg) (c i : Nat) (v w : Int) : updF 32 i (tF g c i v) (i64 w :: List.drop 1 (tF g c i v i)) = tF g c i w := by
 funext q
 show (if q = i then i64 w :: List.drop 1 (tF g c i v i) else tF g c i v q) = _
 rw [tF_now]
 unfold tF
 by_cases e : q = i
 ·subst e
  rw [if_pos rfl, if_neg (Nat.lt_irrefl q), if_pos rfl]
  rfl
 ·rw [if_neg e, if_neg e, if_neg e]
theorem tF_upd2 (g : Gg) (c i : Nat) (v w : Int) : updF 32 i (tF g c i v) [i64 w] = tF g c i w := by
 have := tF_upd g c i v w
 rw [tF_now] at this
 exact this
theorem tF_ok (g : Gg) (c i : Nat) (v : Int) (q : Nat) : okCells (tF g c i v q) := by
 unfold tF
 exact ⟨rfl, trivial⟩
theorem tF_next (g : Gg) (c i : Nat) : tF g c i (tabV g c i) = tF g c (i + 1) 0 := by
 funext q
 unfold tF
 by_cases e : q = i
 ·subst e
  rw [if_neg (Nat.lt_irrefl q), if_pos rfl, if_pos (Nat.lt_succ_self q)]
 ·by_cases e2 : q < i
  ·rw [if_pos e2, if_pos (by omega)]
  ·rw [if_neg e2, if_neg e, if_neg (by omega)]
   split <;> rfl
theorem tF_zero (g : Gg) (c : Nat) : tF g c 0 0 = fun _ => [i64 0] := by
 funext q
 unfold tF
 rw [if_neg (Nat.not_lt_zero q)]
 split <;> rfl
def tabF (g : Gg) (c : Nat) : Nat → List AV := tF g c (2 ^ g.N) 0
abbrev tabA (g : Gg) (c : Nat) : AV := .arr 32 1 (tabF g c)
theorem table_tri (g : Gg) (c : Nat) (H : Hp) (k : OkG g) (hc : c < g.cw.length) : PTri Tryz.prog (fnA 58) [gP g, i64 c] H (tabA g c) := by
 have nS := k.nS
 have hN : g.N ≤ 5 := nS
 have hNe : g.N = g.sm.length := rfl
 have hpw : 2 ^ g.N ≤ 2 ^ 5 := Nat.pow_le_pow_right (by omega) hN
 have hp0 : 0 < 2 ^ g.N := Nat.two_pow_pos _
 refine Tri.drop ?_
 refine tri_v0 (fun _ => false) Tryz.func58 (by kernel_rfl) rfl (by simp only [List.length_append, List.length_cons, List.length_nil, Tryz.ntmps58]; decide) ?_
 simp only [vsAll, okAll, stAll, opsA, opA, allocA, dstOk, argFr, Nat.reduceLT, Nat.reduceEqDiff, ↓reduceIte, reduceCtorEq, eq_self, wtAll, Tryz.ntmps58]
 intro i4 hh_i4; (try simp only [Hp.set_none, ite_none] at hh_i4)
 refine callK_pure (knows_tri g c _ k hc) ?_
 simp only [vsAll, loadA, loadRow, partA, partOk, fieldAddrA, lenA, nilCheckA, okAll, stAll, opsA, opA, dstOk, nilSliceOp, argFr, Nat.reduceLT, ↓reduceIte, reduceCtorEq, eq_self, wtAll]
 refine callK_pure (every_tri g.sm.length _ nS) ?_
 have e21 : ((2 ^ g.sm.length - 1 : Nat) : Int) + 1 = ((2 ^ g.N : Nat) : Int) := by rw [hNe] at *; ((try clear hh_i4); omega)
 simp only [vsAll, binA, binLitA, intA, opA, dstOk, Nat.reduceLT, ↓reduceIte, eq_self, e21]
 refine ⟨by simp only [InR_u64]; ((try clear hh_i4); omega), ?_⟩
 refine vs_loop (σ := Nat) (fun i => i ≤ 2 ^ g.N) (fun i => [(0, gP g), (1, i64 c), (4, .ref i4 0 1 0 0), (5, knG g c), (6, .func (.func 95) [] []), (21, u64 ((2 ^ g.N : Nat) : Int)), (22, u64 (i : Nat))]) (fun i => H.set i4 (.box 1 32 (tF g c i 0))) (fun i => 2 ^ g.N - i) 0 (Nat.zero_le _) ?_ ?_ fun i hi => ?_
 ·simp only [vsAll, argFr, Nat.reduceEqDiff, ↓reduceIte, reduceCtorEq, eq_self, Int.natCast_zero]
 ·rw [tF_zero]
  (repeat (first | exact HSub_rfl | refine HSub_put_eq (by simp only [vsAll, ↓reduceIte, eq_self, reduceCtorEq, Nat.reduceEqDiff, hh_i4]) ?_ | refine HSub_drop2 (by simp only [vsAll, ↓reduceIte, eq_self, reduceCtorEq, Nat.reduceEqDiff, hh_i4]) ?_ | refine HSub_keep_eq (by simp only [vsAll, ↓reduceIte, eq_self, reduceCtorEq, Nat.reduceEqDiff, hh_i4]) ?_))
 ·simp only [vsAll, binA, binLitA, intA, opA, dstOk, Nat.reduceLT, Nat.reduceEqDiff, ↓reduceIte, reduceCtorEq, eq_self]
  refine condD (fun hd => ?_) (fun hd => ?_)
  ·have his : i < 2 ^ g.N := by ((try clear hh_i4); omega)
   have hi5 : i < 32 := lt32 hN his
   simp only [vsAll, binA, binLitA, intA, indexAddrA, cellA, cellsA, opA, newCells, okCells, storeObj, dstOk, nilSliceOp, Nat.reduceLT, Nat.reduceEqDiff, ↓reduceIte, reduceCtorEq, eq_self, wtAll]
   refine ⟨⟨by ((try clear hh_i4); omega), by ((try clear hh_i4); omega)⟩, by ((try clear hh_i4); omega), ?_⟩
   rw [Hp.set_set]
   rw [tF_upd g c i 0 10000]
   have hts := tb_start g c i
   refine condV (fun hc0 => ?_) (fun hc0 => ?_)
   ·have e0 : i = 0 := by rw [decide_eq_true_eq] at hc0; ((try clear hh_i4); omega)
    rw [if_pos e0] at hts
    simp only [vsAll, loadA, loadRow, partA, partOk, fieldAddrA, indexAddrA, lenA, nilCheckA, cellA, cellsA, opA, newCells, okCells, storeObj, dstOk, Nat.reduceLT, Nat.reduceEqDiff, ↓reduceIte, reduceCtorEq, eq_self, wtAll]
    refine ⟨⟨by ((try clear hh_i4); omega), by ((try clear hh_i4); omega)⟩, by ((try clear hh_i4); omega), ?_⟩
    have eh : tF g c i 0 = tF g c i (tbN g c i 0) := by rw [hts]
    rw [Hp.set_set, tF_upd g c i 10000 0, eh]
    refine vs_loop (σ := Nat) (fun j => j ≤ g.N) (fun j => [(0, gP g), (1, i64 c), (4, .ref i4 0 1 0 0), (5, knG g c), (6, .func (.func 95) [] []), (7, u64 (i : Nat)), (21, u64 ((2 ^ g.N : Nat) : Int)), (22, u64 (i : Nat)), (36, i64 g.N), (37, i64 j)]) (fun j => H.set i4 (.box 1 32 (tF g c i (tbN g c i j)))) (fun j => g.N - j) 0 (Nat.zero_le _) ?_ HSub_rfl fun j hj => ?_
    ·simp only [vsAll, Nat.reduceEqDiff, ↓reduceIte, reduceCtorEq, eq_self, hNe, Int.natCast_zero]
    ·simp only [vsAll, binA, binLitA, intA, opA, dstOk, Nat.reduceLT, Nat.reduceEqDiff, ↓reduceIte, reduceCtorEq, eq_self]
     refine condD (fun hd2 => ?_) (fun hd2 => ?_)
     ·have hjs : j < g.N := by ((try clear hh_i4); omega)
      have hts2 := tb_step k (i := j) hc his hjs
      simp only [vsAll, okAll, stAll, opsA, opA, dstOk, nilSliceOp, Nat.reduceLT, Nat.reduceEqDiff, ↓reduceIte, reduceCtorEq, eq_self]
      refine callK_pure (ghas_tri i j _ (by ((try clear hh_i4); omega)) (by ((try clear hh_i4); omega))) ?_
      simp only [vsAll, unA, opA, guardV, dstOk, Nat.reduceLT, Nat.reduceEqDiff, ↓reduceIte, reduceCtorEq, implies_true, eq_self]
      refine gcall (boo (knB g c j)) (fun q => ⟨by simp only [vsAll, opA, Nat.reduceEqDiff, ↓reduceIte, eq_self, q], by simp only [vsAll, okAll, opsA, opA, ↓reduceIte, eq_self, q], knows1_tri g c j _ k hc hjs⟩) ?_
      simp only [vsAll, unA, pickA, opA, guardV, dstOk, Nat.reduceLT, Nat.reduceEqDiff, ↓reduceIte, implies_true, eq_self]
      refine condV (fun hc1 => ?_) (fun hc1 => ?_)
      ·have en : ¬ ((i.testBit j = true ∧ knB g c j = true) ∧ tabV g c (dif i (2 ^ j)) < 10000 ∧ stT g (g.crew c).lo (tabV g c (dif i (2 ^ j))) j ≤ (g.seam j).fl) := by
        rintro ⟨⟨q1, q2⟩, _⟩
        rw [q1, q2] at hc1
        simp at hc1
       rw [if_neg en] at hts2
       rw [← hts2]
       simp only [vsAll, binA, binLitA, intA, opA, dstOk, Nat.reduceLT, Nat.reduceEqDiff, ↓reduceIte, reduceCtorEq, eq_self]
       refine ⟨by simp only [InR_i64]; ((try clear hh_i4); omega), loop_next (j + 1) (by ((try clear hh_i4); omega)) (by ((try clear hh_i4); omega)) ?_ HSub_rfl⟩
       simp only [vsAll, Nat.reduceEqDiff, ↓reduceIte, reduceCtorEq, eq_self, Int.natCast_add, Int.natCast_one]
      ·have hb1 : i.testBit j = true := by
        revert hc1
        cases i.testBit j <;> simp
       have hb2 : knB g c j = true := by
        revert hc1
        cases i.testBit j <;> cases knB g c j <;> simp
       have hbg : 0 ≤ begV g j := by
        have := hb2
        unfold knB at this
        rw [Bool.and_eq_true, decide_eq_true_eq] at this
        exact this.2
       have hdi := dif_pop i hi5 j (by ((try clear hh_i4); omega)) hb1
       have hdl : dif i (2 ^ j) < 2 ^ g.N := dif_lt his
       have htl := tab_le k hc hdl
       have ep : (1 : Int) * 2 ^ j = ((2 ^ j : Nat) : Int) := by rw [Int.one_mul]; simp
       have hpj : 2 ^ j ≤ 2 ^ 5 := Nat.pow_le_pow_right (by ((try clear hh_i4); omega)) (by ((try clear hh_i4); omega))
       have eS : g.sm.getD j sm0 = g.seam j := rfl
       have hnx := next_tri g (dif i (2 ^ j)) (tabV g c (dif i (2 ^ j))) c j false
       rw [show spd (g.crew c) false = (g.crew c).lo from rfl] at hnx
       have eta := tF_at g c i (tbN g c i j) hdi.2
       have hnow := tF_now g c i (tbN g c i j)
       simp only [vsAll]
       refine vs_draw2 [0, 0, 0, 0, 0, 0, 0, 0, 0, 0, 0, 1, 3] [([0, 1, 2, 3, 4, 5, 6, 7, 8, 9, 10], [3, 7, 9], 11), ([], [], 12)] [] (by decide +kernel) ?_
       simp only [vsAll, binA, binLitA, intA, opA, dstOk, Nat.reduceLT, Nat.reduceEqDiff, ↓reduceIte, reduceCtorEq, eq_self, ep]
       generalize 2 ^ j = Q at hdi hdl htl hpj hnx eta hts2 ep ⊢
       refine ⟨⟨by ((try clear hh_i4); omega), by ((try clear hh_i4); omega), by simp only [InR_u64]; ((try clear hh_i4); omega)⟩, ?_⟩
       refine qcall _ ⟨trivial, by simp only [vsAll, okAll, opsA, opA, Nat.reduceEqDiff, ↓reduceIte, eq_self], without_tri i Q _ (by ((try clear hh_i4); omega)) (by ((try clear hh_i4); omega))⟩ ?_
       simp only [vsAll, binA, binLitA, intA, opA, dstOk, Nat.reduceLT, Nat.reduceEqDiff, ↓reduceIte, reduceCtorEq, eq_self, ep]
       refine ⟨⟨by ((try clear hh_i4); omega), by ((try clear hh_i4); omega), by simp only [InR_u64]; ((try clear hh_i4); omega)⟩, ?_⟩
       refine qcall _ ⟨trivial, by simp only [vsAll, okAll, opsA, opA, Nat.reduceEqDiff, ↓reduceIte, eq_self], without_tri i Q _ (by ((try clear hh_i4); omega)) (by ((try clear hh_i4); omega))⟩ ?_
       simp only [vsAll, loadA, loadRow, partA, partOk, indexAddrA, cellA, cellsA, fillA, okParts, ifaceA, okAll, stAll, opsA, partsA, partsOk, opA, allocA, newCells, okCells, storeObj, dstOk, Nat.reduceAdd, Nat.reduceLT, Nat.reduceLeDiff, Nat.reduceEqDiff, ↓reduceIte, reduceCtorEq, eq_self, wtAll, eta]
       refine ⟨⟨by ((try clear hh_i4); omega), by ((try clear hh_i4); omega)⟩, by ((try clear hh_i4); omega), ?_⟩
       intro i9 hh_i9; (try simp only [ite_none] at hh_i9)
       simp only [vsAll, Nat.reduceLT, ↓reduceIte, eq_self, hh_i9, eta]
       refine ⟨⟨rcall _ ⟨trivial, by simp only [vsAll, okAll, opsA, opA, Nat.reduceEqDiff, ↓reduceIte, eq_self], without_tri i Q _ (by ((try clear hh_i4 hh_i9); omega)) (by ((try clear hh_i4 hh_i9); omega))⟩ (by simp only [vsAll, Nat.reduceEqDiff, ↓reduceIte, eq_self]), rcall _ ⟨trivial, by simp only [vsAll, okAll, opsA, opA, Nat.reduceEqDiff, ↓reduceIte, eq_self], without_tri i Q _ (by ((try clear hh_i4 hh_i9); omega)) (by ((try clear hh_i4 hh_i9); omega))⟩ (by simp only [vsAll, Nat.reduceEqDiff, ↓reduceIte, eq_self]), by ((try clear hh_i4 hh_i9); omega)⟩, ?_⟩
       refine callK_pure (hnx _ k (by ((try clear hh_i4 hh_i9); omega)) (by ((try clear hh_i4 hh_i9); omega)) hc hjs hbg) ?_
       simp only [vsAll, cellA, opA, allocA, newCells, okCells, storeObj, dstOk, Nat.reduceAdd, Nat.reduceLT, Nat.reduceEqDiff, ↓reduceIte, eq_self, wtAll]
       intro i10 hh_i10; (try simp only [ite_none] at hh_i10)
       refine vs_draw2 [0, 0, 0, 0, 0, 0, 0, 0, 0, 0, 0, 0, 0, 0, 0, 0, 0] [] [0, 1, 2, 3, 4, 5, 6, 7, 8, 9, 10, 11, 12, 13, 14, 15, 16] (by decide +kernel) ?_
       simp only [vsAll, binA, binLitA, intA, loadA, loadRow, partA, partOk, fieldAddrA, indexAddrA, nilCheckA, pickA, opA, guardV, dstOk, Nat.reduceLT, Nat.reduceEqDiff, ↓reduceIte, reduceCtorEq, implies_true, eq_self, wtAll, hh_i10, smF_at, eS]
       refine ⟨fun q => ⟨q, q, by ((try clear hh_i4 hh_i9 hh_i10); omega), by ((try clear hh_i4 hh_i9 hh_i10); omega)⟩, fun q => ⟨q, by ((try clear hh_i4 hh_i9 hh_i10); omega)⟩, ?_⟩
       rw [Hp.set_set, Hp.set_set]
       refine condV (fun hc2 => ?_) (fun hc2 => ?_)
       ·rw [Bool.and_eq_true, decide_eq_true_eq, decide_eq_true_eq] at hc2
        rw [if_pos ⟨⟨hb1, hb2⟩, hc2⟩] at hts2
        refine vs_draw2 [0, 0, 0, 0, 0, 0, 0, 0, 1] [([0, 1, 2, 3, 4, 5, 6, 7], [], 8)] [] (by decide +kernel) ?_
        simp only [vsAll, binA, binLitA, intA, loadA, loadRow, partA, partOk, fieldAddrA, indexAddrA, cellA, cellsA, mmA, okAll, stAll, opsA, opA, newCells, okCells, storeObj, dstOk, Nat.reduceLT, Nat.reduceEqDiff, ↓reduceIte, reduceCtorEq, eq_self, wtAll, hh_i9, hh_i10, hnow]
        rw [tF_upd2, ← hts2]
        refine ⟨⟨by ((try clear hh_i4 hh_i9 hh_i10); omega), by ((try clear hh_i4 hh_i9 hh_i10); omega)⟩, by ((try clear hh_i4 hh_i9 hh_i10); omega), ⟨by ((try clear hh_i4 hh_i9 hh_i10); omega), by ((try clear hh_i4 hh_i9 hh_i10); omega)⟩, by ((try clear hh_i4 hh_i9 hh_i10); omega), by simp only [InR_i64]; ((try clear hh_i4 hh_i9 hh_i10); omega), loop_next (j + 1) (by ((try clear hh_i4 hh_i9 hh_i10); omega)) (by ((try clear hh_i4 hh_i9 hh_i10); omega)) ?_ (by (repeat (first | exact HSub_rfl | refine HSub_put_eq (by simp only [vsAll, ↓reduceIte, eq_self]) ?_ | refine HSub_drop2 (by simp only [eq_self, hh_i4, hh_i9, hh_i10]) ?_ | refine HSub_keep_eq (by simp only [vsAll, ↓reduceIte, eq_self, reduceCtorEq, Nat.reduceEqDiff, hh_i4, hh_i9, hh_i10]) ?_)))⟩
        simp only [vsAll, Nat.reduceEqDiff, ↓reduceIte, reduceCtorEq, eq_self, Int.natCast_add, Int.natCast_one]
       ·rw [if_neg (by
         rintro ⟨_, q1, q2⟩
         rw [decide_eq_true q1, decide_eq_true q2] at hc2
         cases hc2)] at hts2
        rw [← hts2]
        simp only [vsAll, binA, binLitA, intA, opA, dstOk, Nat.reduceLT, Nat.reduceEqDiff, ↓reduceIte, reduceCtorEq, eq_self]
        refine ⟨by simp only [InR_i64]; ((try clear hh_i4 hh_i9 hh_i10); omega), loop_next (j + 1) (by ((try clear hh_i4 hh_i9 hh_i10); omega)) (by ((try clear hh_i4 hh_i9 hh_i10); omega)) ?_ (by (repeat (first | exact HSub_rfl | refine HSub_put_eq (by simp only [vsAll, ↓reduceIte, eq_self, hh_i9, hh_i10]) ?_ | refine HSub_drop2 (by simp only [eq_self, hh_i4, hh_i9, hh_i10]) ?_ | refine HSub_keep_eq (by simp only [vsAll, ↓reduceIte, eq_self, reduceCtorEq, Nat.reduceEqDiff, hh_i4, hh_i9, hh_i10]) ?_)))⟩
        simp only [vsAll, Nat.reduceEqDiff, ↓reduceIte, reduceCtorEq, eq_self, Int.natCast_add, Int.natCast_one]
     ·have ej : j = g.N := by ((try clear hh_i4); omega)
      subst ej
      rw [tb_end hN his, tF_next]
      simp only [vsAll, binA, binLitA, intA, opA, dstOk, Nat.reduceLT, Nat.reduceEqDiff, ↓reduceIte, reduceCtorEq, eq_self]
      refine ⟨by simp only [InR_u64]; ((try clear hh_i4); omega), loop_next (i + 1) (by ((try clear hh_i4); omega)) (by ((try clear hh_i4); omega)) ?_ HSub_rfl⟩
      simp only [vsAll, Nat.reduceEqDiff, ↓reduceIte, reduceCtorEq, eq_self, Int.natCast_add, Int.natCast_one]
   ·have e0 : ¬ i = 0 := by rw [decide_eq_false_iff_not] at hc0; ((try clear hh_i4); omega)
    rw [if_neg e0] at hts
    have eh : tF g c i 10000 = tF g c i (tbN g c i 0) := by rw [hts]
    rw [eh]
    simp only [vsAll, loadA, loadRow, partA, partOk, fieldAddrA, lenA, nilCheckA, opA, dstOk, Nat.reduceLT, ↓reduceIte, reduceCtorEq, eq_self, wtAll]
    refine vs_loop (σ := Nat) (fun j => j ≤ g.N) (fun j => [(0, gP g), (1, i64 c), (4, .ref i4 0 1 0 0), (5, knG g c), (6, .func (.func 95) [] []), (7, u64 (i : Nat)), (21, u64 ((2 ^ g.N : Nat) : Int)), (22, u64 (i : Nat)), (36, i64 g.N), (37, i64 j)]) (fun j => H.set i4 (.box 1 32 (tF g c i (tbN g c i j)))) (fun j => g.N - j) 0 (Nat.zero_le _) ?_ HSub_rfl fun j hj => ?_
    ·simp only [vsAll, Nat.reduceEqDiff, ↓reduceIte, reduceCtorEq, eq_self, hNe, Int.natCast_zero]
    ·simp only [vsAll, binA, binLitA, intA, opA, dstOk, Nat.reduceLT, Nat.reduceEqDiff, ↓reduceIte, reduceCtorEq, eq_self]
     refine condD (fun hd2 => ?_) (fun hd2 => ?_)
     ·have hjs : j < g.N := by ((try clear hh_i4); omega)
      have hts2 := tb_step k (i := j) hc his hjs
      simp only [vsAll, okAll, stAll, opsA, opA, dstOk, nilSliceOp, Nat.reduceLT, Nat.reduceEqDiff, ↓reduceIte, reduceCtorEq, eq_self]
      refine callK_pure (ghas_tri i j _ (by ((try clear hh_i4); omega)) (by ((try clear hh_i4); omega))) ?_
      simp only [vsAll, unA, opA, guardV, dstOk, Nat.reduceLT, Nat.reduceEqDiff, ↓reduceIte, reduceCtorEq, implies_true, eq_self]
      refine gcall (boo (knB g c j)) (fun q => ⟨by simp only [vsAll, opA, Nat.reduceEqDiff, ↓reduceIte, eq_self, q], by simp only [vsAll, okAll, opsA, opA, ↓reduceIte, eq_self, q], knows1_tri g c j _ k hc hjs⟩) ?_
      simp only [vsAll, unA, pickA, opA, guardV, dstOk, Nat.reduceLT, Nat.reduceEqDiff, ↓reduceIte, implies_true, eq_self]
      refine condV (fun hc1 => ?_) (fun hc1 => ?_)
      ·have en : ¬ ((i.testBit j = true ∧ knB g c j = true) ∧ tabV g c (dif i (2 ^ j)) < 10000 ∧ stT g (g.crew c).lo (tabV g c (dif i (2 ^ j))) j ≤ (g.seam j).fl) := by
        rintro ⟨⟨q1, q2⟩, _⟩
        rw [q1, q2] at hc1
        simp at hc1
       rw [if_neg en] at hts2
       rw [← hts2]
       simp only [vsAll, binA, binLitA, intA, opA, dstOk, Nat.reduceLT, Nat.reduceEqDiff, ↓reduceIte, reduceCtorEq, eq_self]
       refine ⟨by simp only [InR_i64]; ((try clear hh_i4); omega), loop_next (j + 1) (by ((try clear hh_i4); omega)) (by ((try clear hh_i4); omega)) ?_ HSub_rfl⟩
       simp only [vsAll, Nat.reduceEqDiff, ↓reduceIte, reduceCtorEq, eq_self, Int.natCast_add, Int.natCast_one]
      ·have hb1 : i.testBit j = true := by
        revert hc1
        cases i.testBit j <;> simp
       have hb2 : knB g c j = true := by
        revert hc1
        cases i.testBit j <;> cases knB g c j <;> simp
       have hbg : 0 ≤ begV g j := by
        have := hb2
        unfold knB at this
        rw [Bool.and_eq_true, decide_eq_true_eq] at this
        exact this.2
       have hdi := dif_pop i hi5 j (by ((try clear hh_i4); omega)) hb1
       have hdl : dif i (2 ^ j) < 2 ^ g.N := dif_lt his
       have htl := tab_le k hc hdl
       have ep : (1 : Int) * 2 ^ j = ((2 ^ j : Nat) : Int) := by rw [Int.one_mul]; simp
       have hpj : 2 ^ j ≤ 2 ^ 5 := Nat.pow_le_pow_right (by ((try clear hh_i4); omega)) (by ((try clear hh_i4); omega))
       have eS : g.sm.getD j sm0 = g.seam j := rfl
       have hnx := next_tri g (dif i (2 ^ j)) (tabV g c (dif i (2 ^ j))) c j false
       rw [show spd (g.crew c) false = (g.crew c).lo from rfl] at hnx
       have eta := tF_at g c i (tbN g c i j) hdi.2
       have hnow := tF_now g c i (tbN g c i j)
       simp only [vsAll]
       refine vs_draw2 [0, 0, 0, 0, 0, 0, 0, 0, 0, 0, 0, 1, 3] [([0, 1, 2, 3, 4, 5, 6, 7, 8, 9, 10], [3, 7, 9], 11), ([], [], 12)] [] (by decide +kernel) ?_
       simp only [vsAll, binA, binLitA, intA, opA, dstOk, Nat.reduceLT, Nat.reduceEqDiff, ↓reduceIte, reduceCtorEq, eq_self, ep]
       generalize 2 ^ j = Q at hdi hdl htl hpj hnx eta hts2 ep ⊢
       refine ⟨⟨by ((try clear hh_i4); omega), by ((try clear hh_i4); omega), by simp only [InR_u64]; ((try clear hh_i4); omega)⟩, ?_⟩
       refine qcall _ ⟨trivial, by simp only [vsAll, okAll, opsA, opA, Nat.reduceEqDiff, ↓reduceIte, eq_self], without_tri i Q _ (by ((try clear hh_i4); omega)) (by ((try clear hh_i4); omega))⟩ ?_
       simp only [vsAll, binA, binLitA, intA, opA, dstOk, Nat.reduceLT, Nat.reduceEqDiff, ↓reduceIte, reduceCtorEq, eq_self, ep]
       refine ⟨⟨by ((try clear hh_i4); omega), by ((try clear hh_i4); omega), by simp only [InR_u64]; ((try clear hh_i4); omega)⟩, ?_⟩
       refine qcall _ ⟨trivial, by simp only [vsAll, okAll, opsA, opA, Nat.reduceEqDiff, ↓reduceIte, eq_self], without_tri i Q _ (by ((try clear hh_i4); omega)) (by ((try clear hh_i4); omega))⟩ ?_
       simp only [vsAll, loadA, loadRow, partA, partOk, indexAddrA, cellA, cellsA, fillA, okParts, ifaceA, okAll, stAll, opsA, partsA, partsOk, opA, allocA, newCells, okCells, storeObj, dstOk, Nat.reduceAdd, Nat.reduceLT, Nat.reduceLeDiff, Nat.reduceEqDiff, ↓reduceIte, reduceCtorEq, eq_self, wtAll, eta]
       refine ⟨⟨by ((try clear hh_i4); omega), by ((try clear hh_i4); omega)⟩, by ((try clear hh_i4); omega), ?_⟩
       intro i9 hh_i9; (try simp only [ite_none] at hh_i9)
       simp only [vsAll, Nat.reduceLT, ↓reduceIte, eq_self, hh_i9, eta]
       refine ⟨⟨rcall _ ⟨trivial, by simp only [vsAll, okAll, opsA, opA, Nat.reduceEqDiff, ↓reduceIte, eq_self], without_tri i Q _ (by ((try clear hh_i4 hh_i9); omega)) (by ((try clear hh_i4 hh_i9); omega))⟩ (by simp only [vsAll, Nat.reduceEqDiff, ↓reduceIte, eq_self]), rcall _ ⟨trivial, by simp only [vsAll, okAll, opsA, opA, Nat.reduceEqDiff, ↓reduceIte, eq_self], without_tri i Q _ (by ((try clear hh_i4 hh_i9); omega)) (by ((try clear hh_i4 hh_i9); omega))⟩ (by simp only [vsAll, Nat.reduceEqDiff, ↓reduceIte, eq_self]), by ((try clear hh_i4 hh_i9); omega)⟩, ?_⟩
       refine callK_pure (hnx _ k (by ((try clear hh_i4 hh_i9); omega)) (by ((try clear hh_i4 hh_i9); omega)) hc hjs hbg) ?_
       simp only [vsAll, cellA, opA, allocA, newCells, okCells, storeObj, dstOk, Nat.reduceAdd, Nat.reduceLT, Nat.reduceEqDiff, ↓reduceIte, eq_self, wtAll]
       intro i10 hh_i10; (try simp only [ite_none] at hh_i10)
       refine vs_draw2 [0, 0, 0, 0, 0, 0, 0, 0, 0, 0, 0, 0, 0, 0, 0, 0, 0] [] [0, 1, 2, 3, 4, 5, 6, 7, 8, 9, 10, 11, 12, 13, 14, 15, 16] (by decide +kernel) ?_
       simp only [vsAll, binA, binLitA, intA, loadA, loadRow, partA, partOk, fieldAddrA, indexAddrA, nilCheckA, pickA, opA, guardV, dstOk, Nat.reduceLT, Nat.reduceEqDiff, ↓reduceIte, reduceCtorEq, implies_true, eq_self, wtAll, hh_i10, smF_at, eS]
       refine ⟨fun q => ⟨q, q, by ((try clear hh_i4 hh_i9 hh_i10); omega), by ((try clear hh_i4 hh_i9 hh_i10); omega)⟩, fun q => ⟨q, by ((try clear hh_i4 hh_i9 hh_i10); omega)⟩, ?_⟩
       rw [Hp.set_set, Hp.set_set]
       refine condV (fun hc2 => ?_) (fun hc2 => ?_)
       ·rw [Bool.and_eq_true, decide_eq_true_eq, decide_eq_true_eq] at hc2
        rw [if_pos ⟨⟨hb1, hb2⟩, hc2⟩] at hts2
        refine vs_draw2 [0, 0, 0, 0, 0, 0, 0, 0, 1] [([0, 1, 2, 3, 4, 5, 6, 7], [], 8)] [] (by decide +kernel) ?_
        simp only [vsAll, binA, binLitA, intA, loadA, loadRow, partA, partOk, fieldAddrA, indexAddrA, cellA, cellsA, mmA, okAll, stAll, opsA, opA, newCells, okCells, storeObj, dstOk, Nat.reduceLT, Nat.reduceEqDiff, ↓reduceIte, reduceCtorEq, eq_self, wtAll, hh_i9, hh_i10, hnow]
        rw [tF_upd2, ← hts2]
        refine ⟨⟨by ((try clear hh_i4 hh_i9 hh_i10); omega), by ((try clear hh_i4 hh_i9 hh_i10); omega)⟩, by ((try clear hh_i4 hh_i9 hh_i10); omega), ⟨by ((try clear hh_i4 hh_i9 hh_i10); omega), by ((try clear hh_i4 hh_i9 hh_i10); omega)⟩, by ((try clear hh_i4 hh_i9 hh_i10); omega), by simp only [InR_i64]; ((try clear hh_i4 hh_i9 hh_i10); omega), loop_next (j + 1) (by ((try clear hh_i4 hh_i9 hh_i10); omega)) (by ((try clear hh_i4 hh_i9 hh_i10); omega)) ?_ (by (repeat (first | exact HSub_rfl | refine HSub_put_eq (by simp only [vsAll, ↓reduceIte, eq_self]) ?_ | refine HSub_drop2 (by simp only [eq_self, hh_i4, hh_i9, hh_i10]) ?_ | refine HSub_keep_eq (by simp only [vsAll, ↓reduceIte, eq_self, reduceCtorEq, Nat.reduceEqDiff, hh_i4, hh_i9, hh_i10]) ?_)))⟩
        simp only [vsAll, Nat.reduceEqDiff, ↓reduceIte, reduceCtorEq, eq_self, Int.natCast_add, Int.natCast_one]
       ·rw [if_neg (by
         rintro ⟨_, q1, q2⟩
         rw [decide_eq_true q1, decide_eq_true q2] at hc2
         cases hc2)] at hts2
        rw [← hts2]
        simp only [vsAll, binA, binLitA, intA, opA, dstOk, Nat.reduceLT, Nat.reduceEqDiff, ↓reduceIte, reduceCtorEq, eq_self]
        refine ⟨by simp only [InR_i64]; ((try clear hh_i4 hh_i9 hh_i10); omega), loop_next (j + 1) (by ((try clear hh_i4 hh_i9 hh_i10); omega)) (by ((try clear hh_i4 hh_i9 hh_i10); omega)) ?_ (by (repeat (first | exact HSub_rfl | refine HSub_put_eq (by simp only [vsAll, ↓reduceIte, eq_self, hh_i9, hh_i10]) ?_ | refine HSub_drop2 (by simp only [eq_self, hh_i4, hh_i9, hh_i10]) ?_ | refine HSub_keep_eq (by simp only [vsAll, ↓reduceIte, eq_self, reduceCtorEq, Nat.reduceEqDiff, hh_i4, hh_i9, hh_i10]) ?_)))⟩
        simp only [vsAll, Nat.reduceEqDiff, ↓reduceIte, reduceCtorEq, eq_self, Int.natCast_add, Int.natCast_one]
     ·have ej : j = g.N := by ((try clear hh_i4); omega)
      subst ej
      rw [tb_end hN his, tF_next]
      simp only [vsAll, binA, binLitA, intA, opA, dstOk, Nat.reduceLT, Nat.reduceEqDiff, ↓reduceIte, reduceCtorEq, eq_self]
      refine ⟨by simp only [InR_u64]; ((try clear hh_i4); omega), loop_next (i + 1) (by ((try clear hh_i4); omega)) (by ((try clear hh_i4); omega)) ?_ HSub_rfl⟩
      simp only [vsAll, Nat.reduceEqDiff, ↓reduceIte, reduceCtorEq, eq_self, Int.natCast_add, Int.natCast_one]
  ·have ei : i = 2 ^ g.N := by ((try clear hh_i4); omega)
   subst ei
   simp only [vsAll, loadA, loadRow, opA, storeObj, dstOk, resA, retA.eq_1, Nat.reduceMul, Nat.reduceLT, Nat.reduceEqDiff, ↓reduceIte, reduceCtorEq, eq_self, wtAll, Tryz.results58]
   exact ⟨fun q _ => tF_ok g c _ _ q, dropR_pure rfl (by (repeat (first | exact HSub_rfl | refine HSub_put_eq (by simp only [vsAll, ↓reduceIte, eq_self, reduceCtorEq, Nat.reduceEqDiff, hh_i4]) ?_ | refine HSub_drop2 (by simp only [eq_self, hh_i4]) ?_ | refine HSub_keep_eq (by simp only [vsAll, ↓reduceIte, eq_self, reduceCtorEq, Nat.reduceEqDiff, hh_i4]) ?_)))⟩
end Go.Proofs.YtdopkbldjagmlaaGreat
end
section
set_option linter.unusedVariables false
set_option linter.unusedSimpArgs false
set_option maxHeartbeats 4000000
set_option maxRecDepth 100000
namespace Go.Proofs.YtdopkbldjagmlaaGreat
open Go.V
abbrev onR (g : Gg) (c S i5 i6 : Nat) (yf : Fn) : AV := .func (.func 94) [] [.rptr 1 1 (fun _ => [u64 (S : Nat)]) 0 0, .rptr 1 1 (fun _ => [.func yf [] []]) 0 0, ggA g, .ref i5 0 1 0 0, bx c, .ref i6 0 1 0 0]
theorem cpRow (b : List Int) (z : Int) (i : Nat) (hi : i < b.length + 1) : appF b.length 1 (cpF 0 b.length (fun x => [AV.lit (Value.int IntKind.i64 0)]) 0 (intF b)) (fun i => [[AV.lit (Value.int IntKind.i64 z)]].getD i []) i = intF (b ++ [z]) i := by
 rw [appF_at (by omega)]
 simp only [intF, getD_snoc, cpF]
 by_cases e : i = b.length
 ·rw [if_neg (by omega), if_pos e, e, Nat.sub_self]; rfl
 ·rw [if_pos (by omega), if_neg e, if_pos (by omega)]; simp
theorem on_call {fv : AV} {b : List Int} {z : Int} {x : AV} {id1 : Nat} {X : Hp} {F : Nat → List AV} {R : Res → Hp → Prop} (hF : ∀ i, i < b.length + 1 → F i = intF (b ++ [z]) i) (h1 : X id1 = some (.row 1 (b.length + 1) F))
  (h : Tri Tryz.prog fv [intsAV (b ++ [z]), x] (X.del id1) R) :
  Tri Tryz.prog fv [.sl id1 1 (b.length + 1), x] X R := by
 refine tri_freezeD (args' := [intsAV (b ++ [z]), x]) h1 rfl (fun k hk => ?_) h
 match k, hk with
 | 0, _ =>
   have hl : (b ++ [z]).length = b.length + 1 := by simp
   show FrzD _ _ _ _ (AV.sl id1 1 (b.length + 1)) (AV.rsl (b ++ [z]).length 1 (intF (b ++ [z])))
   rw [hl]; exact .hit hF
 | 1, _ => exact .same _
theorem flat_nil {α : Type} {f : Nat → List α} {n : Nat} : (List.range n).flatMap f = [] ↔ ∀ j, j < n → f j = [] := by
 rw [List.flatMap_eq_nil_iff]
 exact ⟨fun h j hj => h j (List.mem_range.2 hj), fun h j hj => h j (List.mem_range.1 hj)⟩
theorem flat_head {α : Type} {f : Nat → List α} {i : Nat} {x : α} (h : ∀ j, j < i → f j = []) (hx : (f i).head? = some x) : ∀ n, i < n → ((List.range n).flatMap f).head? = some x
 | 0, hn => absurd hn (Nat.not_lt_zero i)
 | n + 1, hn => by
   rw [List.range_succ, List.flatMap_append]
   by_cases e : i = n
   ·subst e
    rw [flat_nil.2 h]
    simpa using hx
   ·rw [List.head?_append, flat_head h hx n (by omega)]
    rfl
theorem rowB_of {g : Gg} {S : Nat} (hS : S < 2 ^ g.N) {l : List Int} (h : RowOf S l) : rowB g l = true := by
 refine rowB_iff.2 ⟨fun i hi => ?_, fun i j hij hj => h.nd i j hij hj⟩
 obtain ⟨n, e, hn⟩ := h.at_ i hi
 have := bit_lt hS hn
 omega
theorem last_le {g : Gg} (k : OkG g) {c S : Nat} (hc : c < g.cw.length) (hS : S < 2 ^ g.N) {l : List Int} (h : RowOf S l) : 0 ≤ lastT g c l ∧ lastT g c l ≤ 400 := by
 have hr := rowB_of hS h
 have h1 := donN_le k (by have h := k.crew hc; unfold okC at h; omega) hr l.length (Nat.le_refl _) (sp := (g.crew c).lo)
 have h2 := row_len k hr
 unfold lastT
 omega
def onP (g : Gg) (c S n : Nat) (b : List Int) (H : Hp) (K : Hp → Prop) : Res → Hp → Prop := fun r H' => (rws g c S n b = [] ∧ r = .ret (boo true) ∧ H' = H) ∨ (rws g c S n b ≠ [] ∧ r = .ret (boo false) ∧ K H')
theorem rwOn_tri {g : Gg} (k : OkG g) {c S i5 i6 : Nat} (hc : c < g.cw.length) (hS : S < 2 ^ g.N) {yf : Fn} {H0 : Hp} {K : Hp → Prop} :
  ∀ (n : Nat) (b : List Int) (H : Hp), b.length + n = pop S → RowOf S b → rgtB g c b = true → H i5 = some (.box 1 1 fun _ => [knG g c]) → H i6 = some (.box 1 1 fun _ => [onR g c S i5 i6 yf]) → Go.V.HSub H H0 →
    (∀ l, (rws g c S n b).head? = some l → Tri Tryz.prog (.func yf [] []) [intsAV l, stA S (lastT g c l)] H0 fun r H' => r = .ret (boo false) ∧ K H') →
    Tri Tryz.prog (onR g c S i5 i6 yf) [intsAV b, stA (setL b) (lastT g c b)] H (onP g c S n b H K) := by
 have nS := k.nS
 have nC := k.nC
 have hN : g.N ≤ 5 := nS
 have hNe : g.N = g.sm.length := rfl
 have hS5 : S < 32 := lt32 hN hS
 intro n
 induction n with
 | zero =>
   intro b H hl hb hr h5 h6 hH hy
   have hf := (rowOf_full hS5 hb).2.2 (by omega)
   have e0 : rws g c S 0 b = [b] := rfl
   rw [e0] at hy
   have hy := hy b rfl
   refine Tri.drop ?_
   have e1 : dif S S = 0 := by
    refine Nat.eq_of_testBit_eq fun j => ?_
    rw [dif_bit, Nat.zero_testBit]
    cases S.testBit j <;> rfl
   refine tri_v0 (fun _ => false) Tryz.func94 (by kernel_rfl) rfl (by simp only [List.length_append, List.length_cons, List.length_nil, Tryz.ntmps94]; decide) ?_
   rw [hf]
   simp only [vsAll, binA, binLitA, intA, loadA, loadRow, partA, partOk, fieldAddrA, boxA, boxZ, okAll, stAll, opsA, opA, dstOk, nilSliceOp, argFr, Nat.reduceAdd, Nat.reduceLT, Nat.reduceEqDiff, ↓reduceIte, reduceCtorEq, eq_self, wtAll, Tryz.ntmps94]
   refine callK (Tri.less hH hy) ?_
   rintro r H' ⟨rfl, hk⟩
   simp only [vsAll, opA, dstOk, nilSliceOp, resA, retA.eq_1, Nat.reduceLT, ↓reduceIte, eq_self, Tryz.results94]
   exact ⟨H', HSub_rfl, .inr ⟨by rw [e0]; exact List.cons_ne_nil _ _, rfl, hk⟩⟩
 | succ n ih =>
   intro b H hl hb hr h5 h6 hH hy
   have hne : ¬ setL b = S := fun e => by
    have := (rowOf_full hS5 hb).2.1 e
    omega
   have hsb : setL b < 32 := setL_lt hS5 hb
   have dne : decide (((setL b : Nat) : Int) = ((S : Nat) : Int)) = false := decide_eq_false (by omega)
   have hlast := last_le k hc hS hb
   have hbl := row_len k (rowB_of hS hb)
   generalize hfl : (fun i : Nat => if goR g c S b i = true then rws g c S n (b ++ [(i : Int)]) else []) = fl
   have efl : rws g c S (n + 1) b = (List.range g.N).flatMap fl := by rw [← hfl]; rfl
   have hfi : ∀ i, fl i = if goR g c S b i = true then rws g c S n (b ++ [(i : Int)]) else [] := fun i => by rw [← hfl]
   rw [efl] at hy
   have eno : ∀ i, goR g c S b i = false → fl i = [] := fun i h => by rw [hfi, h]; rfl
   have hspl : spd (g.crew c) false = (g.crew c).lo := rfl
   have hst : ∀ i : Nat, i < g.N → lastT g c (b ++ [(i : Int)]) = stT g (g.crew c).lo (lastT g c b) i := fun i _ => by
    unfold lastT
    rw [List.length_append, List.length_cons, List.length_nil, donN_last, Int.toNat_natCast]
   have hse : ∀ i : Nat, setL (b ++ [(i : Int)]) = setL b ||| 2 ^ i := fun i => by rw [setL_snoc, Int.toNat_natCast]
   have hgo : ∀ i : Nat, goR g c S b i = ((dif S (setL b)).testBit i && (knB g c i && decide (lastT g c (b ++ [(i : Int)]) ≤ (g.seam i).fl))) := fun i => by
    rw [Bool.eq_iff_iff, goR_iff, rgt_snoc, dif_bit]
    have hbi : (setL b).testBit i = true ↔ (i : Int) ∈ b := rowOf_set hb
    have e2 : stT g (g.crew c).lo (donN g (g.crew c).lo b b.length) i = lastT g c (b ++ [(i : Int)]) := by
     unfold lastT
     rw [List.length_append, List.length_cons, List.length_nil, donN_last, Int.toNat_natCast]
    rw [Int.toNat_natCast, e2]
    simp only [Bool.and_eq_true, Bool.not_eq_true', decide_eq_true_eq]
    rw [← Bool.not_eq_true, hbi]
    constructor
    ·rintro ⟨a1, a2, _, a3, a4⟩; exact ⟨⟨a1, a2⟩, a3, a4⟩
    ·rintro ⟨⟨a1, a2⟩, a3, a4⟩; exact ⟨a1, a2, hr, a3, a4⟩
   refine Tri.drop ?_
   refine tri_v0 (mset [68]) Tryz.func94 (by kernel_rfl) rfl (by simp only [List.length_append, List.length_cons, List.length_nil, Tryz.ntmps94]; decide) ?_
   skip
   simp only [vsAll, binA, binLitA, intA, loadA, loadRow, partA, partOk, fieldAddrA, lenA, nilCheckA, boxA, boxZ, opA, dstOk, nilSliceOp, argFr, Nat.reduceAdd, Nat.reduceLT, Nat.reduceEqDiff, Nat.reduceBEq, ↓reduceIte, eq_self, wtAll, Tryz.ntmps94, dne]
   refine vs_loop (σ := Nat) (fun i => i ≤ g.N ∧ ∀ j, j < i → fl j = []) (fun i => [(0, intsAV b), (2, .rptr 1 1 (fun _ => [u64 (S : Nat)]) 0 0), (3, .rptr 1 1 (fun _ => [.func yf [] []]) 0 0), (4, ggA g), (5, .ref i5 0 1 0 0), (6, bx c), (7, .ref i6 0 1 0 0), (9, .rptr 1 2 (fun _ => stC (setL b) (lastT g c b)) 0 0), (27, i64 g.N), (28, i64 i)]) (fun _ => H) (fun i => g.N - i) 0 ⟨Nat.zero_le _, fun j hj => absurd hj (Nat.not_lt_zero j)⟩ ?_ HSub_rfl fun i hi => ?_
   ·simp only [vsAll, argFr, Nat.reduceEqDiff, ↓reduceIte, reduceCtorEq, eq_self, hNe, Int.natCast_zero]
   ·obtain ⟨hi, hall⟩ := hi
    simp only [vsAll, binA, binLitA, intA, opA, dstOk, Nat.reduceLT, Nat.reduceEqDiff, ↓reduceIte, reduceCtorEq, eq_self]
    refine condD (fun hd => ?_) (fun hd => ?_)
    ·have his : i < g.N := by ((try clear h5 h6); omega)
     have hdl : dif S (setL b) < 2 ^ 60 := Nat.lt_of_lt_of_le (dif_lt hS) (Nat.pow_le_pow_right (by decide) (by ((try clear h5 h6); omega)))
     have eng := eno i
     rw [hgo] at eng
     have hnxt : ∀ H, 0 ≤ begV g i → PTri Tryz.prog (fnA 89) [gP g, stA (setL b) (lastT g c b), i64 c, i64 i, slowA] H (stA (setL b ||| 2 ^ i) (lastT g c (b ++ [(i : Int)]))) := fun H hb => by
      rw [hst i his]
      exact next_tri g (setL b) (lastT g c b) c i false H k (by ((try clear h5 h6); omega)) (by ((try clear h5 h6); omega)) hc his hb
     simp only [vsAll, loadA, loadRow, partA, partOk, fieldAddrA, okAll, stAll, opsA, opA, dstOk, nilSliceOp, Nat.reduceLT, Nat.reduceEqDiff, Nat.reduceBEq, ↓reduceIte, reduceCtorEq, eq_self, wtAll]
     refine callK_pure (without_tri S (setL b) _ (by ((try clear h5 h6); omega)) (by ((try clear h5 h6); omega))) ?_
     simp only [vsAll, okAll, stAll, opsA, opA, dstOk, Nat.reduceLT, Nat.reduceEqDiff, ↓reduceIte, eq_self]
     refine callK_pure (ghas_tri _ i _ hdl (by ((try clear h5 h6); omega))) ?_
     simp only [vsAll, unA, loadA, loadRow, partA, partOk, opA, guardV, dstOk, Nat.reduceLT, Nat.reduceEqDiff, ↓reduceIte, reduceCtorEq, implies_true, eq_self, wtAll, h5]
     refine gcall (boo (knB g c i)) (fun g => ⟨by simp only [vsAll, opA, Nat.reduceEqDiff, ↓reduceIte, eq_self, g], by simp only [vsAll, okAll, opsA, opA, ↓reduceIte, eq_self, g], knows1_tri _ c i _ k hc his⟩) ?_
     simp only [vsAll, unA, pickA, opA, guardV, dstOk, Nat.reduceLT, Nat.reduceEqDiff, ↓reduceIte, implies_true, eq_self]
     refine condV (fun hc1 => ?_) (fun hc1 => ?_)
     ·have hf0 : fl i = [] := eng (by
       have : ((dif S (setL b)).testBit i && knB g c i) = false := by
        rw [Bool.and_eq_false_iff]
        revert hc1
        cases (dif S (setL b)).testBit i <;> cases knB g c i <;> simp
       rw [← Bool.and_assoc, this, Bool.false_and])
      simp only [vsAll, binA, binLitA, intA, opA, dstOk, Nat.reduceLT, Nat.reduceEqDiff, ↓reduceIte, reduceCtorEq, eq_self]
      refine ⟨by simp only [InR_i64]; ((try clear h5 h6); omega), loop_next (i + 1) ⟨by ((try clear h5 h6); omega), fun j hj => ?_⟩ (by ((try clear h5 h6); omega)) ?_ HSub_rfl⟩
      ·by_cases e : j = i
       ·subst e; exact hf0
       ·exact hall j (by ((try clear h5 h6); omega))
      ·simp only [vsAll, Nat.reduceEqDiff, ↓reduceIte, reduceCtorEq, eq_self, Int.natCast_add, Int.natCast_one]
     ·have hb1 : (dif S (setL b)).testBit i = true := by
       revert hc1
       cases (dif S (setL b)).testBit i <;> simp
      have hb2 : knB g c i = true := by
       revert hc1
       cases (dif S (setL b)).testBit i <;> cases knB g c i <;> simp
      have hbg : 0 ≤ begV g i := by
       unfold knB at hb2
       rw [Bool.and_eq_true, decide_eq_true_eq] at hb2
       exact hb2.2
      have hgi := hgo i
      rw [hb1, hb2] at hgi eng
      simp only [Bool.true_and] at hgi eng
      have eS : g.sm.getD i sm0 = g.seam i := rfl
      simp only [vsAll, loadA, loadRow, partA, partOk, fillA, okParts, ifaceA, okAll, stAll, opsA, partsA, partsOk, opA, dstOk, Nat.reduceLT, Nat.reduceEqDiff, ↓reduceIte, reduceCtorEq, eq_self, wtAll]
      refine callK_pure (hnxt _ hbg) ?_
      simp only [vsAll, cellA, opA, allocA, newCells, okCells, storeObj, dstOk, Nat.reduceAdd, Nat.reduceLT, Nat.reduceEqDiff, ↓reduceIte, eq_self, wtAll]
      intro i12 hh_i12; (try simp only [Hp.set_none, ite_none] at hh_i12)
      have a1 := ne_some hh_i12 h5
      have a2 := ne_some hh_i12 h6
      skip
      refine vs_draw2 [0, 0, 0, 0, 0, 0, 0, 0, 0, 0, 0, 0] [] [0, 1, 2, 3, 4, 5, 6, 7, 8, 9, 10, 11] (by decide +kernel) ?_
      simp only [vsAll, binA, binLitA, intA, loadA, loadRow, partA, partOk, fieldAddrA, indexAddrA, nilCheckA, opA, dstOk, Nat.reduceLT, Nat.reduceEqDiff, ↓reduceIte, reduceCtorEq, eq_self, wtAll, smF_at, eS]
      refine ⟨⟨by ((try clear h5 h6 hh_i12 a1 a2); omega), by ((try clear h5 h6 hh_i12 a1 a2); omega)⟩, by ((try clear h5 h6 hh_i12 a1 a2); omega), ?_⟩
      rw [Hp.set_set]
      refine condV (fun hc2 => ?_) (fun hc2 => ?_)
      ·have hf0 : fl i = [] := eng (by rw [decide_eq_true_eq] at hc2; exact decide_eq_false (by ((try clear h5 h6 hh_i12 a1 a2); omega)))
       simp only [vsAll, binA, binLitA, intA, opA, dstOk, Nat.reduceLT, Nat.reduceEqDiff, ↓reduceIte, reduceCtorEq, eq_self]
       refine ⟨by simp only [InR_i64]; ((try clear h5 h6 hh_i12 a1 a2); omega), loop_next (i + 1) ⟨by ((try clear h5 h6 hh_i12 a1 a2); omega), fun j hj => ?_⟩ (by ((try clear h5 h6 hh_i12 a1 a2); omega)) ?_ ?_⟩
       ·by_cases e : j = i
        ·subst e; exact hf0
        ·exact hall j (by ((try clear h5 h6 hh_i12 a1 a2); omega))
       ·simp only [vsAll, Nat.reduceEqDiff, ↓reduceIte, reduceCtorEq, eq_self, Int.natCast_add, Int.natCast_one]
       ·(repeat (first | exact HSub_rfl | refine HSub_put_eq (by simp only [vsAll, ↓reduceIte, eq_self, reduceCtorEq, Nat.reduceEqDiff, h5, h6, hh_i12, a1, a2]) ?_ | refine HSub_drop2 (by simp only [eq_self, hh_i12]) ?_ | refine HSub_keep_eq (by simp only [vsAll, ↓reduceIte, eq_self, reduceCtorEq, Nat.reduceEqDiff, h5, h6, hh_i12, a1, a2]) ?_))
      ·have hg1 : goR g c S b i = true := by
        rw [hgi]
        rw [decide_eq_false_iff_not] at hc2
        exact decide_eq_true (by ((try clear h5 h6 hh_i12 a1 a2); omega))
       have hfc : fl i = rws g c S n (b ++ [(i : Int)]) := by rw [hfi, hg1]; rfl
       obtain ⟨q1, q2, q3⟩ := goR_iff.1 hg1
       have hro : RowOf S (b ++ [(i : Int)]) := rowOf_snoc.2 ⟨hb, q1, q2⟩
       simp only [vsAll, binA, binLitA, intA, lenA, makeSliceA, opA, copyA, dstOk, nilSliceOp, Nat.reduceLT, Nat.reduceEqDiff, Nat.reduceBEq, ↓reduceIte, reduceCtorEq, eq_self, wtAll]
       refine ⟨by simp only [InR_i64]; ((try clear h5 h6 hh_i12 a1 a2); omega), by ((try clear h5 h6 hh_i12 a1 a2); omega), by ((try clear h5 h6 hh_i12 a1 a2); omega), by ((try clear h5 h6 hh_i12 a1 a2); omega), by ((try clear h5 h6 hh_i12 a1 a2); omega), ?_⟩
       intro i13 hh_i13; (try simp only [ite_none] at hh_i13)
       have a3 := ne_some hh_i13.2 h5
       have a4 := ne_some hh_i13.2 h6
       skip
       refine ⟨fun q hq => by simp only [vsAll, cellA, okCells, eq_self, intF_at], ?_⟩
       refine vs_draw2 [0, 0, 0, 0, 1, 0, 3, 4] [([0, 1, 2, 3, 5], [0, 5], 4), ([], [], 6)] [7] (by decide +kernel) ?_
       simp only [vsAll, loadA, loadRow, partA, partOk, cellA, cellsA, okParts, buildSliceA, partIdx, elemsA, lensA, okAll, stAll, opsA, partsA, partsOk, opA, appendA, dstOk, Nat.reduceMul, Nat.reduceLT, Nat.reduceLeDiff, Nat.reduceEqDiff, ↓reduceIte, reduceCtorEq, eq_self, wtAll, h6, a2, hh_i13, a4, Nat.min_self]
       refine ⟨fun q hq => by (have : q = 0 := by ((try clear h5 h6 hh_i12 a1 a2 hh_i13 a3 a4); omega)); subst this; simp only [vsAll, cellA, okCells, eq_self], by ((try clear h5 h6 hh_i12 a1 a2 hh_i13 a3 a4); omega), by ((try clear h5 h6 hh_i12 a1 a2 hh_i13 a3 a4); omega), ?_⟩
       rw [← hse, Hp.set_set, Hp.set_set]
       refine callK (on_call (b := b) (z := (i : Int)) (cpRow b i) (Hp.set_same _ _ _) (ih (b ++ [(i : Int)]) _ (by rw [List.length_append, List.length_cons, List.length_nil]; ((try clear h5 h6 hh_i12 a1 a2 hh_i13 a3 a4); omega)) hro q3 (by simp only [vsAll, ↓reduceIte, eq_self, h5, a1, a3, Hp.del_get]) (by simp only [vsAll, ↓reduceIte, eq_self, h6, a2, a4, Hp.del_get]) ?_ ?_)) ?_
       ·exact Go.V.HSub.trans (HSub_del hh_i13.2 (by (repeat (first | exact HSub_rfl | refine HSub_put_eq (by simp only [vsAll, ↓reduceIte, eq_self, reduceCtorEq, Nat.reduceEqDiff, h5, h6, hh_i12, a1, a2, hh_i13, a3, a4]) ?_ | refine HSub_drop2 (by simp only [eq_self, hh_i12, hh_i13]) ?_ | refine HSub_keep_eq (by simp only [vsAll, ↓reduceIte, eq_self, reduceCtorEq, Nat.reduceEqDiff, h5, h6, hh_i12, a1, a2, hh_i13, a3, a4]) ?_)))) hH
       ·intro l hl2
        rw [← hfc] at hl2
        exact hy l (flat_head hall hl2 g.N his)
       rintro r H' (⟨hnil, rfl, rfl⟩ | ⟨hnn, rfl, hk⟩)
       ·simp only [vsAll, binA, binLitA, intA, unA, opA, dstOk, Nat.reduceLT, Nat.reduceEqDiff, ↓reduceIte, reduceCtorEq, eq_self]
        refine ⟨by simp only [InR_i64]; ((try clear h5 h6 hh_i12 a1 a2 hh_i13 a3 a4); omega), loop_next (i + 1) ⟨by ((try clear h5 h6 hh_i12 a1 a2 hh_i13 a3 a4); omega), fun j hj => ?_⟩ (by ((try clear h5 h6 hh_i12 a1 a2 hh_i13 a3 a4); omega)) ?_ ?_⟩
        ·by_cases e : j = i
         ·subst e; rw [hfc]; exact hnil
         ·exact hall j (by ((try clear h5 h6 hh_i12 a1 a2 hh_i13 a3 a4); omega))
        ·simp only [vsAll, Nat.reduceEqDiff, ↓reduceIte, reduceCtorEq, eq_self, Int.natCast_add, Int.natCast_one]
        ·exact HSub_del hh_i13.2 (by (repeat (first | exact HSub_rfl | refine HSub_put_eq (by simp only [vsAll, ↓reduceIte, eq_self, reduceCtorEq, Nat.reduceEqDiff, h5, h6, hh_i12, a1, a2, hh_i13, a3, a4]) ?_ | refine HSub_drop2 (by simp only [eq_self, hh_i12, hh_i13]) ?_ | refine HSub_keep_eq (by simp only [vsAll, ↓reduceIte, eq_self, reduceCtorEq, Nat.reduceEqDiff, h5, h6, hh_i12, a1, a2, hh_i13, a3, a4]) ?_)))
       ·simp only [vsAll, unA, opA, dstOk, nilSliceOp, resA, retA.eq_1, Nat.reduceLT, Nat.reduceBEq, ↓reduceIte, eq_self, Tryz.results94]
        refine ⟨H', HSub_rfl, .inr ⟨fun e => hnn ?_, rfl, hk⟩⟩
        rw [efl, flat_nil] at e
        rw [← hfc]
        exact e i his
    ·simp only [vsAll, opA, dstOk, nilSliceOp, resA, retA.eq_1, Nat.reduceLT, Nat.reduceBEq, ↓reduceIte, eq_self, Tryz.results94]
     have ei : i = g.N := by ((try clear h5 h6); omega)
     subst ei
     exact ⟨H, HSub_rfl, .inl ⟨by rw [efl]; exact flat_nil.2 hall, rfl, rfl⟩⟩
end Go.Proofs.YtdopkbldjagmlaaGreat
end
section
set_option linter.unusedVariables false
set_option linter.unusedSimpArgs false
namespace Go.V
set_option linter.unusedSectionVars false
variable [Inhabited GivT]
section
variable {P : Program} {m : Option Tmp → Bool} {n : Nat} {k : List It} {s : Fr} {ds : List AD} {H : Hp} {Q : Post}
theorem vs_rangeO {g : Operand} {ps : Array Tmp} {assign body : Code} {f : FuncId} {fn : Func} {c : Code} {caps : List AV} (o : Option (List AV))
  (hf : P.funcs[f]? = some fn) (hname : (fn.name == "runtime.NumGoroutine") = false) (hb : fn.body = some c)
  (hg : (opA s g).ok) (hgv : (opA s g).st = .func (.func f) [] caps) (hps : ∀ t ∈ ps.toList, t < n) (hpl : ∀ x, o = some x → x.length = ps.size)
  (hit : ∀ yf (H : Hp) (K : Hp → Prop), (o = none → K H) → (∀ x, o = some x → Tri P (.func yf [] []) x H fun r H' => r = .ret (.lit (.bool false)) ∧ K H') → Tri P (.func (.func f) [] caps) [.func yf [] []] H fun r H' => (∃ v, r = .ret v) ∧ K H')
  (round : ∀ x, o = some x → ∀ lid did l (lo : LoopState → Option Code → Obj), H lid = none → H did = none → lid ≠ did →
   VS (some l) P m n [.code assign] (putAll s ps.toList x) [] ((H.set did (.raw (.deferred (some [])))).set lid (lo .ready none)) (AsgS P m n l body k Q (fun _ => False) s ds lid did lo))
  (fin : o = none → ∀ lid did (lo : LoopState → Option Code → Obj), H lid = none → H did = none → lid ≠ did →
   VS none P m n k s (.mark did :: ds) ((H.set did (.raw (.deferred (some [])))).set lid (lo .exhausted none)) Q) :
  VS none P m n (.code (.rangeFunc g ps assign body) :: k) s ds H Q := by
 show WPS none P n (.rangeFunc g ps assign body) s ds H (TK none P m n k Q)
 refine wps_range hg hgv hf hname hb fun lid did l h1 h2 h3 => ?_
 let lo : LoopState → Option Code → Obj := fun st pd => .loop l n s ps assign body st pd did
 let K : Hp → Prop := fun H' => ∃ st pend, H' lid = some (lo st pend) ∧ st ≠ .busy ∧ jumpQ pend fun x => VX none P m n k x s (.mark did :: ds) (H'.set lid (lo .exhausted pend)) Q
 refine ⟨_, hit (.yield l) _ K (fun ho => ⟨.ready, none, Hp.set_same _ _ _, by simp, ?_⟩) (fun x hx => ?_), ?_⟩
 ·simp only [jumpQ, Hp.set_set]
  exact fin ho lid did lo h1 h2 h3
 ·refine Tri.drop ?_
  refine tri_yield (lid := lid) (n := n) (s := s) (ps := ps) (assign := assign) (body := body) (did := did) (Hp.set_same _ _ _) (hpl x hx) hps ?_
  refine (vcC_sound assign (round x hx lid did l lo h1 h2 h3)).mono ?_
  intro x1 s1 ds1 H1 hq
  cases x1 with
  | normal =>
    obtain ⟨q1, q2⟩ := hq
    refine ⟨rfl, q1, (vcC_sound body q2).mono ?_⟩
    intro x2 s2 ds2 H2 hq2
    cases x2 with
    | normal =>
      obtain ⟨_, nx, hF, _⟩ := hq2
      exact hF.elim
    | ret => obtain ⟨⟨st, pd, ho⟩, hv⟩ := hq2; exact ⟨st, pd, ho, _, HSub.refl _, ⟨rfl, .done, some .ret, Hp.set_same _ _ _, by simp, by rw [Hp.set_set]; exact hv⟩⟩
    | exit j => obtain ⟨⟨st, pd, ho⟩, hv⟩ := hq2; exact ⟨st, pd, ho, _, HSub.refl _, ⟨rfl, .done, some (.exit j), Hp.set_same _ _ _, by simp, by rw [Hp.set_set]; exact hv⟩⟩
    | pan v => exact hq2.elim
  | _ => exact hq.elim
 ·rintro r H' ⟨⟨v, rfl⟩, st, pend, ho, hst, hj⟩
  exact ⟨st, pend, ho, hst, hj⟩
end
/-- A result of which less is said. -/
theorem Tri.resLe {P : Program} {fv : AV} {args : List AV} {H : Hp} {R1 R : Res → Hp → Prop} (h : Tri P fv args H R1)
  (hR : ∀ r H', R1 r H' → R r H' ∨ ∃ v v', r = .ret v ∧ AV.Le v v' ∧ R (.ret v') H') : Tri P fv args H R := by
 intro S vf vs hH hvf ha
 obtain ⟨nx, h1, h2⟩ := h S vf vs hH hvf ha
 have ho : ∀ e w, Out S R1 e w → Out S R e w := by
  rintro e w ⟨S', r, H', hw, hle, hH', hres, hr⟩
  rcases hR r H' hr with hr | ⟨v, v', rfl, hl, hr⟩
  ·exact ⟨S', r, H', hw, hle, hH', hres, hr⟩
  ·cases e with
   | returned cv => exact ⟨S', .ret v', H', hw, hle, hH', hl _ _ hres, hr⟩
   | _ => exact hres.elim
 refine ⟨nx, h1, ?_⟩
 cases nx <;> simp only [NextOk] at h2 ⊢
 ·exact Calls.mono h2 ho
 ·exact h2.mono ho
theorem AV.Le.tupleD {cs ds : List AV} (hl : ds.length = cs.length) (h : ∀ j, j < cs.length → AV.Le (cs.getD j .any) (ds.getD j .any)) : AV.Le (.tuple cs) (.tuple ds) := by
 intro S v hv
 cases hv with
 | tuple hn hh => exact .tuple (hn.trans hl.symm) fun k hk => h k (by omega) _ _ (hh k (by omega))
end Go.V
end
section
set_option linter.unusedVariables false
set_option linter.unusedSimpArgs false
set_option maxHeartbeats 4000000
set_option maxRecDepth 100000
namespace Go.Proofs.YtdopkbldjagmlaaGreat
open Go.V
theorem azT172q : azT Tryz.prog 141 = some (1, 1, [.nilFunc]) := by kernel_rfl
abbrev rwF (g : Gg) (c S : Nat) : AV := .func (.func 93) [] [ggA g, bx c, .rptr 1 1 (fun _ => [u64 (S : Nat)]) 0 0]
theorem rows_tri (g : Gg) (c S : Nat) (H : Hp) : PTri Tryz.prog (fnA 54) [gP g, i64 c, u64 (S : Nat)] H (rwF g c S) := by
 refine tri_v0 (fun _ => false) Tryz.func54 (by kernel_rfl) rfl (by simp only [List.length_append, List.length_cons, List.length_nil, Tryz.ntmps54]; decide) ?_
 simp only [vsAll, boxA, boxZ, cellA, okAll, stAll, opsA, opA, dstOk, nilSliceOp, resA, argFr, retA.eq_1, Nat.reduceLT, Nat.reduceEqDiff, ↓reduceIte, eq_self, wtAll, Tryz.ntmps54, Tryz.results54]
theorem rows1_tri {g : Gg} (k : OkG g) {c S : Nat} (hc : c < g.cw.length) (hS : S < 2 ^ g.N) (yf : Fn) (H : Hp) (K : Hp → Prop) (h0 : rowsL g c S = [] → K H)
  (h1 : ∀ l, (rowsL g c S).head? = some l → Tri Tryz.prog (.func yf [] []) [intsAV l, stA S (lastT g c l)] H fun r H' => r = .ret (boo false) ∧ K H') :
  Tri Tryz.prog (rwF g c S) [.func yf [] []] H fun r H' => (∃ v, r = .ret v) ∧ K H' := by
 refine Tri.drop ?_
 refine tri_v0 (fun _ => false) Tryz.func93 (by kernel_rfl) rfl (by simp only [List.length_append, List.length_cons, List.length_nil, Tryz.ntmps93]; decide) ?_
 simp only [vsAll, loadA, loadRow, partA, partOk, boxA, boxZ, cellA, okAll, stAll, opsA, opA, dstOk, argFr, Nat.reduceLT, Nat.reduceEqDiff, ↓reduceIte, eq_self, wtAll, Tryz.ntmps93]
 refine callK_pure (knows_tri g c _ k hc) ?_
 simp only [vsAll, loadA, loadRow, partA, partOk, cellA, cellsA, fillA, okParts, okAll, stAll, opsA, partsA, partsOk, opA, allocA, newCells, okCells, storeObj, dstOk, argFr, Nat.reduceLT, Nat.reduceEqDiff, ↓reduceIte, eq_self, wtAll, azT86q, azT172q]
 intro i5 hh_i5; (try simp only [Hp.set_none, ite_none] at hh_i5)
 intro i6 hh_i6; (try simp only [ite_none] at hh_i6)
 rw [Hp.set_set, Hp.set_set]
 have hh := rwOn_tri k (i5 := i5) (i6 := i6) (S := S) hc hS (yf := yf) (H0 := H) (K := K) (pop S) [] ((H.set i5 (.box 1 1 fun _ => [knG g c])).set i6 (.box 1 1 fun _ => [onR g c S i5 i6 yf])) (by simp) (rowOf_nil S) (rgt_nil g c) (by simp only [vsAll, ↓reduceIte, eq_self, hh_i6]) (by simp only [vsAll, ↓reduceIte, eq_self]) (by (repeat (first | exact HSub_rfl | refine HSub_put_eq (by simp only [vsAll, ↓reduceIte, eq_self, reduceCtorEq, Nat.reduceEqDiff, hh_i5, hh_i6]) ?_ | refine HSub_drop2 (by simp only [eq_self, hh_i5, hh_i6]) ?_ | refine HSub_keep_eq (by simp only [vsAll, ↓reduceIte, eq_self, reduceCtorEq, Nat.reduceEqDiff, hh_i5, hh_i6]) ?_))) h1
 refine callK (Tri.args hh rfl fun q hq => ?_) ?_
 ·match q, hq with
  | 0, _ => exact AV.Le.nil _ _
  | 1, _ => exact AV.Le.refl _
 rintro r H' (⟨hn, rfl, rfl⟩ | ⟨hn, rfl, hk⟩)
 ·simp only [vsAll, resA, retA.eq_2, eq_self, Tryz.results93]
  exact ⟨H, by (repeat (first | exact HSub_rfl | refine HSub_put_eq (by simp only [vsAll, ↓reduceIte, eq_self, reduceCtorEq, Nat.reduceEqDiff, hh_i5, hh_i6]) ?_ | refine HSub_drop2 (by simp only [eq_self, hh_i5, hh_i6]) ?_ | refine HSub_keep_eq (by simp only [vsAll, ↓reduceIte, eq_self, reduceCtorEq, Nat.reduceEqDiff, hh_i5, hh_i6]) ?_)), ⟨_, rfl⟩, h0 hn⟩
 ·simp only [vsAll, resA, retA.eq_2, eq_self, Tryz.results93]
  exact ⟨H', HSub_rfl, ⟨_, rfl⟩, hk⟩
end Go.Proofs.YtdopkbldjagmlaaGreat
end
section
set_option linter.unusedVariables false
set_option linter.unusedSimpArgs false
set_option maxHeartbeats 4000000
set_option maxRecDepth 100000
namespace Go.Proofs.YtdopkbldjagmlaaGreat
open Go.V
/-- What is told of a row of some seams. -/
def canE (g : Gg) (c n : Int) : Int := if errG g (vCan g c n) = 0 then if rowsL g c.toNat n.toNat = [] then 4 else 0 else errG g (vCan g c n)
def canV (g : Gg) (c n : Int) : List Int := if canE g c n = 0 then ((rowsL g c.toNat n.toNat).head?).getD [] else []
def canA (g : Gg) (c n : Int) : AV := if canE g c n = 0 then intsAV (canV g c n) else .lit (.slice none 0 0)
def canP (g : Gg) (c : Nat) (S : Nat) : Option (List AV) := ((rowsL g c S).head?).map fun l => [intsAV l, stA S (lastT g c l)]
theorem wcanA_tri (g : Gg) (c n : Int) (H : Hp) (kn : NearG g) : PTri Tryz.prog (fnA 16) [g.av, i64 c, i64 n] H (.tuple [canA g c n, i64 (canE g c n)]) := by
 refine Tri.drop ?_
 refine tri_am (m := fun _ => false) gans Tryz.func16 (by kernel_rfl) rfl (by simp only [List.length_append, List.length_cons, List.length_nil, Tryz.ntmps16]; decide) ?_
 simp only [vsAll, loadA, loadRow, partA, partOk, boxA, boxZ, cellA, okAll, stAll, opsA, opA, allocA, dstOk, argFr, Nat.reduceAdd, Nat.reduceLT, Nat.reduceEqDiff, ↓reduceIte, eq_self, wtAll, Tryz.ntmps16]
 intro i6 hh_i6; (try simp only [Hp.set_none, ite_none] at hh_i6); intro i7 hh_i7; (try simp only [ite_none] at hh_i7)
 refine gopen_call (openG_tri g _ (vCan g c n) _ kn trivial rfl (fun k H' id ho => can1_tri g c n id H' k ho)) (fun he => ?_) (fun k hv => ?_)
 ·have e : canE g c n = errG g (vCan g c n) := if_neg he
  have e2 : canA g c n = .lit (.slice none 0 0) := if_neg (by rw [e]; exact he)
  simp only [vsAll, loadA, loadRow, partA, partOk, resA, retA.eq_2, Nat.reduceEqDiff, ↓reduceIte, eq_self, wtAll, Tryz.results16, hh_i7]
  refine ⟨errG g (vCan g c n), i7, _, rfl, rfl, by simp only [↓reduceIte, eq_self]; try rfl, ?_⟩
  simp only [vsAll, Nat.reduceLT, ↓reduceIte, eq_self, hh_i7]
  refine dropR_pure ?_ (by (repeat (first | exact HSub_rfl | refine HSub_put_eq (by simp only [vsAll, ↓reduceIte, eq_self, reduceCtorEq, Nat.reduceEqDiff, hh_i6, hh_i7]) ?_ | refine HSub_drop2 (by simp only [eq_self, hh_i6, hh_i7]) ?_ | refine HSub_keep_eq (by simp only [vsAll, ↓reduceIte, eq_self, reduceCtorEq, Nat.reduceEqDiff, hh_i6, hh_i7]) ?_)))
  simp only [eq_self, e, e2]
  try rfl
 ·have he : errG g (vCan g c n) = 0 := by rw [hv]; exact errG_ok k
  have hv0 := hv
  unfold vCan isSet at hv
  simp only [Bool.and_eq_true, decide_eq_true_eq] at hv
  obtain ⟨hv1, hn0, hn1⟩ := hv
  rw [isCw_iff] at hv1
  obtain ⟨hc1, hc2⟩ := hv1
  obtain ⟨c, rfl⟩ : ∃ q : Nat, c = (q : Int) := ⟨c.toNat, by ((try clear hh_i6 hh_i7); omega)⟩
  obtain ⟨S, rfl⟩ : ∃ q : Nat, n = (q : Int) := ⟨n.toNat, by ((try clear hh_i6 hh_i7); omega)⟩
  have hc : c < g.cw.length := by ((try clear hh_i6 hh_i7); omega)
  have hS : S < 2 ^ g.N := by
   have := Nat.two_pow_pos g.N
   ((try clear hh_i6 hh_i7); omega)
  have hS5 : S < 32 := lt32 k.nS hS
  simp only [vsAll, loadA, loadRow, partA, partOk, convA, okAll, stAll, opsA, opA, dstOk, nilSliceOp, Nat.reduceLT, Nat.reduceEqDiff, ↓reduceIte, eq_self, wtAll]
  refine ⟨by simp only [InR_u64]; ((try clear hh_i6 hh_i7); omega), ?_⟩
  refine callK_pure (rows_tri g c S _) ?_
  simp only [vsAll]
  have ec : canE g (c : Int) (S : Int) = if rowsL g c S = [] then 4 else 0 := by
   unfold canE
   rw [if_pos he, Int.toNat_natCast, Int.toNat_natCast]
  refine vs_rangeO (canP g c S) Tryz.func93 (by kernel_rfl) rfl (by simp only [vsAll, opA, ↓reduceIte, eq_self]) (by simp only [vsAll, opA, ↓reduceIte, eq_self]) (by decide) (fun x hx => by
   unfold canP at hx
   rw [Option.map_eq_some_iff] at hx
   obtain ⟨l, _, rfl⟩ := hx
   rfl) (fun yf H K h0 h1 => rows1_tri k hc hS yf H K (fun hn => h0 (by unfold canP; rw [hn]; rfl)) fun l hl => h1 _ (by unfold canP; rw [hl]; rfl)) ?_ ?_
  ·intro x hx lid did l' lo h1 h2 h3
   unfold canP at hx
   rw [Option.map_eq_some_iff] at hx
   obtain ⟨l, hl, rfl⟩ := hx
   have hne : ¬ rowsL g c S = [] := fun e => by rw [e] at hl; cases hl
   rw [if_neg hne] at ec
   have ev : canA g (c : Int) (S : Int) = intsAV l := by
    unfold canA canV
    rw [if_pos ec, if_pos ec, Int.toNat_natCast, Int.toNat_natCast, hl]; rfl
   simp only [Hp.set_none] at h1 h2
   have h4 : ¬ did = lid := fun e => h3 e.symm
   skip
   simp only [vsAll, loadA, loadRow, partA, partOk, cellA, cellsA, opA, newCells, okCells, storeObj, dstOk, quietOk, nilSliceOp, resA, retA.eq_2, Nat.reduceLT, Nat.reduceEqDiff, ↓reduceIte, eq_self, wtAll, Tryz.results16, hh_i7, h1, h2, h4]
   refine ⟨⟨_, _, rfl⟩, i7, _, rfl, by simp only [↓reduceIte, eq_self, h1, h2]; try rfl, dropR_pure (by rw [ec, ev]) (by (repeat (first | exact HSub_rfl | refine HSub_put_eq (by simp only [vsAll, ↓reduceIte, eq_self, reduceCtorEq, Nat.reduceEqDiff, hh_i6, hh_i7, h1, h2, h3, h4]) ?_ | refine HSub_drop2 (by simp only [eq_self, hh_i6, hh_i7, h1, h2]) ?_ | refine HSub_keep_eq (by simp only [vsAll, ↓reduceIte, eq_self, reduceCtorEq, Nat.reduceEqDiff, hh_i6, hh_i7, h1, h2, h3, h4]) ?_)))⟩
  ·intro hx lid did lo h1 h2 h3
   have hn : rowsL g c S = [] := by
    unfold canP at hx
    rw [Option.map_eq_none_iff, List.head?_eq_none_iff] at hx
    exact hx
   rw [if_pos hn] at ec
   have ev : canA g (c : Int) (S : Int) = .lit (.slice none 0 0) := if_neg (by rw [ec]; decide)
   simp only [Hp.set_none] at h1 h2
   have h4 : ¬ did = lid := fun e => h3 e.symm
   skip
   simp only [vsAll, loadA, loadRow, partA, partOk, cellA, cellsA, opA, newCells, okCells, storeObj, dstOk, resA, retA.eq_2, Nat.reduceLT, Nat.reduceEqDiff, ↓reduceIte, eq_self, wtAll, Tryz.results16, hh_i7, h1, h2, h4]
   refine ⟨i7, _, rfl, by simp only [↓reduceIte, eq_self, h2]; try rfl, dropR_pure (by rw [ec, ev]) (by (repeat (first | exact HSub_rfl | refine HSub_put_eq (by simp only [vsAll, ↓reduceIte, eq_self, reduceCtorEq, Nat.reduceEqDiff, hh_i6, hh_i7, h1, h2, h3, h4]) ?_ | refine HSub_drop2 (by simp only [eq_self, hh_i6, hh_i7, h1, h2]) ?_ | refine HSub_keep_eq (by simp only [vsAll, ↓reduceIte, eq_self, reduceCtorEq, Nat.reduceEqDiff, hh_i6, hh_i7, h1, h2, h3, h4]) ?_)))⟩
theorem wcan_tri (g : Gg) (c n : Int) (H : Hp) (kn : NearG g) : PTri Tryz.prog (fnA 16) [g.av, i64 c, i64 n] H (.tuple [intsAV (canV g c n), i64 (canE g c n)]) := by
 refine Tri.resLe (wcanA_tri g c n H kn) fun r H' h => .inr ⟨_, .tuple [intsAV (canV g c n), i64 (canE g c n)], h.1, AV.Le.tupleD rfl fun j hj => ?_, rfl, h.2⟩
 match j, hj with
 | 0, _ =>
   show AV.Le (canA g c n) (intsAV (canV g c n))
   unfold canA
   split
   ·exact AV.Le.refl _
   ·rename_i hn
    have : canV g c n = [] := if_neg hn
    rw [this]
    exact AV.Le.nil _ _
 | 1, _ => exact AV.Le.refl _
end Go.Proofs.YtdopkbldjagmlaaGreat
end
section
set_option linter.unusedVariables false
set_option linter.unusedSimpArgs false
set_option maxHeartbeats 4000000
set_option maxRecDepth 100000
namespace Go.Proofs.YtdopkbldjagmlaaGreat
open Go.V
def tabC (g : Gg) (c : Nat) : List AV := arrL (tabF g c) 32
theorem tabF_len (g : Gg) (c q : Nat) : (tabF g c q).length = 1 := rfl
theorem tabC_len (g : Gg) (c : Nat) : (tabC g c).length = 32 := (arrL_spec 32 fun i _ => tabF_len g c i).1
theorem tabC_at (g : Gg) (c : Nat) {q : Nat} (h : q < 32) : (tabC g c).getD q .any = i64 (if q < 2 ^ g.N then tabV g c q else 0) := by
 have := (arrL_spec 32 fun i _ => tabF_len g c i).2 q 0 h (by decide)
 rw [Nat.mul_one, Nat.add_zero] at this
 unfold tabC
 rw [this]
 show i64 _ = _
 by_cases e : q < 2 ^ g.N
 ·rw [if_pos e, if_pos e]
 ·rw [if_neg e, if_neg e]
  split <;> rfl
theorem okCells_app : ∀ {a b : List AV}, (okCells a = True) → (okCells b = True) → okCells (a ++ b) = True
 | [], b, _, h => h
 | x :: a, b, h1, h2 => by
   have h := of_eq_true h1
   exact eq_true ⟨h.1, of_eq_true (okCells_app (eq_true h.2) h2)⟩
theorem okCells_arr {f : Nat → List AV} (h : ∀ i, okCells (f i) = True) : ∀ n, okCells (arrL f n) = True
 | 0 => eq_true trivial
 | n + 1 => okCells_app (okCells_arr h n) (h n)
theorem tabC_ok (g : Gg) (c : Nat) : okCells (tabC g c) = True := by
 have h := okCells_arr (f := tabF g c) fun i => eq_true (tF_ok g c (2 ^ g.N) 0 i)
 unfold tabC
 generalize 32 = n
 exact h n
abbrev tbsF (g : Gg) : Nat → List AV := fun c => tabC g c
abbrev tbsA (g : Gg) : AV := .rsl g.cw.length 32 (tbsF g)
def fillR (g : Gg) (H : Hp) : Res → Hp → Prop := fun r H' => ∃ id, H id = none ∧ r = .ret (.sl id 32 g.cw.length) ∧ H' = H.set id (.row 32 g.cw.length (tbsF g))
theorem filled_tri (g : Gg) (H : Hp) (k : OkG g) : Tri Tryz.prog (fnA 98) [i64 g.cw.length, .agg [.func (.func 58) [gP g] []]] H (fillR g H) := by
 have nC := k.nC
 refine Tri.drop ?_
 refine tri_v0 (mset [4]) Tryz.func98 (by kernel_rfl) rfl (by simp only [List.length_append, List.length_cons, List.length_nil, Tryz.ntmps98]; decide) ?_
 simp only [vsAll, boxA, boxZ, opA, dstOk, argFr, Nat.reduceLT, Nat.reduceBEq, ↓reduceIte, reduceCtorEq, eq_self, wtAll, Tryz.ntmps98, Go.V.nilA]
 intro i4 hh_i4; (try simp only [Hp.set_none, ite_none] at hh_i4)
 refine vs_loop (σ := Nat) (fun i => i ≤ g.cw.length) (fun i => [(3, .rptr 1 1 (fun _ => [.func (.func 58) [gP g] []]) 0 0), (4, .sl i4 32 i), (6, i64 g.cw.length), (7, i64 i)]) (fun i => H.set i4 (.row 32 i (tbsF g))) (fun i => g.cw.length - i) 0 (Nat.zero_le _) ?_ ?_ fun i hi => ?_
 ·simp only [vsAll, Nat.reduceEqDiff, ↓reduceIte, eq_self, Int.natCast_zero]
 ·refine HSub_put (o' := .row 32 0 fun _ => []) (by simp only [vsAll, ↓reduceIte, eq_self]) (row0_le _ _ _) ?_
  (repeat (first | exact HSub_rfl | refine HSub_put_eq (by simp only [vsAll, ↓reduceIte, eq_self, reduceCtorEq, Nat.reduceEqDiff, hh_i4]) ?_ | refine HSub_drop2 (by simp only [eq_self, hh_i4]) ?_ | refine HSub_keep_eq (by simp only [vsAll, ↓reduceIte, eq_self, reduceCtorEq, Nat.reduceEqDiff, hh_i4]) ?_))
 ·simp only [vsAll, binA, binLitA, intA, opA, dstOk, Nat.reduceLT, Nat.reduceEqDiff, ↓reduceIte, eq_self]
  refine condD (fun hd => ?_) (fun hd => ?_)
  ·have his : i < g.cw.length := by ((try clear hh_i4); omega)
   simp only [vsAll, loadA, loadRow, partA, partOk, fieldAddrA, okAll, stAll, opsA, opA, dstOk, nilSliceOp, Nat.reduceLT, Nat.reduceEqDiff, Nat.reduceBEq, ↓reduceIte, eq_self, wtAll]
   refine callK_pure (tri_bound (table_tri g i _ k his)) ?_
   have e1 : arrL (tabF g i) 32 = tabC g i := by unfold tabC; exact Eq.refl _
   have e2 := tabC_len g i
   have e3 := tabC_ok g i
   simp only [vsAll, binA, binLitA, intA, cellsA, okParts, buildSliceA, partIdx, elemsA, lensA, partsA, partsOk, opA, appendA, dstOk, nilSliceOp, Nat.reduceMul, Nat.reduceLT, Nat.reduceLeDiff, Nat.reduceEqDiff, Nat.reduceBEq, ↓reduceIte, eq_self, wtAll, e1, e2]
   refine ⟨fun q hq => by (have : q = 0 := by ((try clear hh_i4); omega)); subst this; simp only [List.getD_cons_zero, e3], by ((try clear hh_i4); omega), by ((try clear hh_i4); omega), by simp only [InR_i64]; ((try clear hh_i4); omega), loop_next (i + 1) (by ((try clear hh_i4); omega)) (by ((try clear hh_i4); omega)) ?_ ?_⟩
   ·simp only [vsAll, Nat.reduceEqDiff, ↓reduceIte, eq_self, Int.natCast_add, Int.natCast_one]
   ·rw [Hp.set_set]
    refine HSub_put (o' := .row 32 (i + 1) (appF i 1 (tbsF g) fun q => [tabC g i].getD q [])) (by simp only [vsAll, ↓reduceIte, eq_self]) (row_ext fun q hq => ?_) ?_
    ·rw [appF_at (by ((try clear hh_i4); omega))]
     by_cases e : q < i
     ·rw [if_pos e]
     ·have : q = i := by ((try clear hh_i4); omega)
      subst this
      rw [if_neg e, Nat.sub_self]; rfl
    ·(repeat (first | exact HSub_rfl | refine HSub_put_eq (by simp only [vsAll, ↓reduceIte, eq_self, reduceCtorEq, Nat.reduceEqDiff, hh_i4]) ?_ | refine HSub_drop2 (by simp only [eq_self, hh_i4]) ?_ | refine HSub_keep_eq (by simp only [vsAll, ↓reduceIte, eq_self, reduceCtorEq, Nat.reduceEqDiff, hh_i4]) ?_))
  ·have ei : i = g.cw.length := by ((try clear hh_i4); omega)
   subst ei
   simp only [vsAll, opA, dstOk, nilSliceOp, resA, retA.eq_1, Nat.reduceLT, Nat.reduceEqDiff, Nat.reduceBEq, ↓reduceIte, eq_self, Tryz.results98]
   exact ⟨_, HSub_rfl, i4, hh_i4, rfl, rfl⟩
/-- The tables of all crews. -/
theorem tables_tri (g : Gg) (H : Hp) (k : OkG g) : PTri Tryz.prog (fnA 64) [gP g] H (tbsA g) := by
 refine Tri.thawX (R1 := fillR g H) ?_ fun r H' hr => ?_
 ·refine Tri.drop ?_
  refine tri_v0 (mset [2]) Tryz.func64 (by kernel_rfl) rfl (by simp only [List.length_append, List.length_cons, List.length_nil, Tryz.ntmps64]; decide) ?_
  simp only [vsAll, loadA, loadRow, partA, partOk, fieldAddrA, lenA, nilCheckA, cellA, cellsA, fillA, okParts, okAll, stAll, opsA, partsA, partsOk, opA, dstOk, argFr, Nat.reduceLT, Nat.reduceEqDiff, Nat.reduceBEq, ↓reduceIte, reduceCtorEq, eq_self, wtAll, Tryz.ntmps64, Go.V.nilA]
  intro i2 hh_i2; (try simp only [Hp.set_none, ite_none] at hh_i2)
  refine callK (filled_tri g _ k) ?_
  rintro r H' ⟨id, hid, rfl, rfl⟩
  simp only [Hp.set_none] at hid
  skip
  simp only [vsAll, opA, dstOk, nilSliceOp, resA, retA.eq_1, Nat.reduceLT, Nat.reduceBEq, ↓reduceIte, eq_self, Tryz.results64]
  exact ⟨H.set id (.row 32 g.cw.length (tbsF g)), by (repeat (first | exact HSub_rfl | refine HSub_put_eq (by simp only [vsAll, ↓reduceIte, eq_self]) ?_ | refine HSub_drop2 (by simp only [eq_self, hh_i2, hid]) ?_ | refine HSub_keep_eq (by simp only [vsAll, ↓reduceIte, eq_self, reduceCtorEq, Nat.reduceEqDiff, hh_i2, hid]) ?_)), id, hid.2, rfl, rfl⟩
 ·obtain ⟨id, hid, rfl, rfl⟩ := hr
  exact .inr ⟨_, tbsA g, id, 32, g.cw.length, tbsF g, rfl, .inr ⟨Hp.set_same _ _ _, .leaf ⟨rfl, tbsF g, fun _ _ => rfl, rfl⟩⟩, rfl, set_del hid⟩
end Go.Proofs.YtdopkbldjagmlaaGreat
end
section
set_option linter.unusedVariables false
set_option linter.unusedSimpArgs false
namespace Go.Proofs.YtdopkbldjagmlaaGreat
open Go.V
/-- An hour; never: 10000. -/
def dV (o : Option Int) : Int := o.getD 10000
def hrN (g : Gg) (f : Nat → Nat) : Nat → Int
 | 0 => 0
 | c + 1 => max (hrN g f c) (tabV g c (f c))
theorem dom_le {g : Gg} (k : OkG g) {f : Nat → Nat} {n : Nat} {m : Int} (hn : n ≤ g.cw.length) (hf : ∀ c, c < n → f c < 2 ^ g.N) (h : domN g f n = some m) : 0 ≤ m ∧ m ≤ 24 := by
 obtain ⟨h0, _, h1⟩ := domN_le n h
 rcases h1 with h1 | ⟨c, hc, h1⟩
 ·omega
 ·have := end_le k (by omega) (hf c hc) h1
  omega
theorem hr_dom {g : Gg} (k : OkG g) {f : Nat → Nat} : ∀ n, n ≤ g.cw.length → (∀ c, c < n → f c < 2 ^ g.N) → hrN g f n = dV (domN g f n)
 | 0, _, _ => rfl
 | n + 1, hn, hf => by
   have ih := hr_dom k n (by omega) fun c hc => hf c (by omega)
   have ht := tab_le k (c := n) (by omega) (hf n (by omega))
   simp only [hrN, domN, ih]
   cases h1 : domN g f n with
   | none =>
     show max (10000 : Int) _ = 10000
     omega
   | some a =>
     have := dom_le k (by omega) (fun c hc => hf c (by omega)) h1
     cases h2 : endO g n (f n) with
     | none =>
       have e : tabV g n (f n) = 10000 := by unfold tabV; rw [h2]; rfl
       rw [e]
       show max a 10000 = 10000
       omega
     | some b =>
       have e : tabV g n (f n) = b := by unfold tabV; rw [h2]; rfl
       rw [e]
       rfl
theorem crS_lt' {g : Gg} {l : List Int} (h : l.length ≤ g.N) (c : Nat) : crS l c < 2 ^ g.N := by
 have := crN_lt l c l.length
 exact Nat.lt_of_lt_of_le this (Nat.pow_le_pow_right (by decide) h)
theorem hr_domO {g : Gg} (k : OkG g) {l : List Int} (h : l.length ≤ g.N) : hrN g (crS l) g.cw.length = dV (domO g l) := hr_dom k _ (Nat.le_refl _) fun c _ => crS_lt' h c
theorem dO_le {g : Gg} (k : OkG g) {S C n : Nat} {b : List Int} (hb : b.length + n = g.N) {t : Int} (h : dO g S C n b = some t) : 0 ≤ t ∧ t ≤ 24 := by
 obtain ⟨l, h1, h2⟩ := (dO_min g S C n b).is t h
 obtain ⟨m, e, hm, _, hd⟩ := (mem_dls n b l).1 h1
 obtain ⟨x, hx⟩ := Option.isSome_iff_exists.1 hd
 have hl : l.length = g.N := by rw [e, List.length_append]; omega
 have := dom_le k (Nat.le_refl _) (fun c _ => crS_lt' (g := g) (Nat.le_of_eq hl) c) hx
 unfold domI at h2
 rw [hx] at h2
 simp only [Option.getD_some] at h2
 omega
theorem dV_le {g : Gg} (k : OkG g) {S C n : Nat} {b : List Int} (hb : b.length + n = g.N) : 0 ≤ dV (dO g S C n b) ∧ dV (dO g S C n b) ≤ 10000 ∧ (dV (dO g S C n b) < 10000 ↔ (dO g S C n b).isSome = true) := by
 cases h : dO g S C n b with
 | none => unfold dV; simp
 | some t =>
   have := dO_le k hb h
   show 0 ≤ t ∧ t ≤ 10000 ∧ (t < 10000 ↔ (some t).isSome = true)
   simp only [Option.isSome_some, iff_true]
   omega
theorem dP_le {g : Gg} {C : Nat} {f : Nat → Option Int} (hf : ∀ c t, f c = some t → 0 ≤ t ∧ t ≤ 24) : ∀ n t, dP g C f n = some t → 0 ≤ t ∧ t ≤ 24
 | 0, t, h => by cases h
 | n + 1, t, h => by
   simp only [dP] at h
   split at h
   ·cases h1 : dP g C f n with
    | none =>
      rw [h1] at h
      exact hf n t h
    | some a =>
      have ha := dP_le hf n a h1
      rw [h1] at h
      cases h2 : f n with
      | none => rw [h2] at h; simp only [comb, Option.some.injEq] at h; omega
      | some b =>
        have hb := hf n b h2
        rw [h2] at h
        simp only [comb, Option.some.injEq] at h
        omega
   ·exact dP_le hf n t h
theorem dP_step {g : Gg} {C : Nat} {f : Nat → Option Int} (hf : ∀ c t, f c = some t → 0 ≤ t ∧ t ≤ 24) (n : Nat) : dV (dP g C f (n + 1)) = if C.testBit n = true then min (dV (dP g C f n)) (dV (f n)) else dV (dP g C f n) := by
 simp only [dP]
 split
 ·cases h1 : dP g C f n with
  | none =>
    cases h2 : f n with
    | none => rfl
    | some b =>
      have := hf n b h2
      show b = min 10000 b
      omega
  | some a =>
    have ha := dP_le hf n a h1
    cases h2 : f n with
    | none => show a = min a 10000; omega
    | some b => rfl
 ·rfl
end Go.Proofs.YtdopkbldjagmlaaGreat
end
section
set_option linter.unusedVariables false
set_option linter.unusedSimpArgs false
set_option maxHeartbeats 1000000
set_option maxRecDepth 100000
namespace Go.Proofs.YtdopkbldjagmlaaGreat
open Go.V
theorem mapZ143q : mapZ Tryz.prog 143 = some (.int .i64 0) := by kernel_rfl
theorem und143q : Program.underlying Tryz.prog 143 = some (.map 146 3) := by kernel_rfl
theorem key146q : Maps.Keyed Tryz.prog 146 := Maps.Keyed.of_law (deep_law_laid (by kernel_rfl) (m := 10) (by decide) (by decide +kernel) (by kernel_rfl) (by kernel_rfl))
/-- A place, as a key. -/
abbrev pcV (s a b c : Int) : Value := .agg #[.int .i64 s, .int .u64 a, .int .u64 b, .int .u64 c]
abbrev pcU (b : List Int) : Value := pcV (b.length : Nat) (crS b 0 : Nat) (crS b 1 : Nat) (crS b 2 : Nat)
theorem pcK (s a b c : Int) (h0 : 0 ≤ s ∧ s ≤ 1000) (h1 : 0 ≤ a ∧ a ≤ 4096) (h2 : 0 ≤ b ∧ b ≤ 4096) (h3 : 0 ≤ c ∧ c ≤ 4096) : ∃ l, keyOf Tryz.prog 146 (pcV s a b c) = some l := by
 have hsz : Tryz.prog.types.size + 1 = (Tryz.prog.types.size - 2) + 3 := by
  have : 2 ≤ Tryz.prog.types.size := by decide +kernel
  omega
 have hsz2 : (Tryz.prog.fieldsOf 146).toList.length = 2 := by decide +kernel
 have hu : Program.underlying Tryz.prog 146 = some (.struct (Tryz.prog.fieldsOf 146)) := by kernel_rfl
 obtain ⟨f0, e0⟩ : ∃ f0, f0 = (Tryz.prog.fieldsOf 146).toList[0]'(by rw [hsz2]; decide) := ⟨_, rfl⟩
 obtain ⟨f1, e1⟩ : ∃ f1, f1 = (Tryz.prog.fieldsOf 146).toList[1]'(by rw [hsz2]; decide) := ⟨_, rfl⟩
 have hf : (Tryz.prog.fieldsOf 146).toList = [f0, f1] := by
  rw [e0, e1]
  generalize (Tryz.prog.fieldsOf 146).toList = L at hsz2 ⊢
  match L, hsz2 with
  | [x, y], _ => rfl
 have hn : f0.name ≠ "_" ∧ f1.name ≠ "_" := by
  have h : (Tryz.prog.fieldsOf 146).toList.map (fun f => decide (f.name ≠ "_")) = [true, true] := by decide +kernel
  rw [hf] at h
  simpa using h
 have t0 : f0.type = 3 := by rw [e0]; kernel_rfl
 have t1 : f1.type = 107 := by rw [e1]; kernel_rfl
 have o0 : f0.offset = 0 := by rw [e0]; kernel_rfl
 have o1 : f1.offset = 1 := by rw [e1]; kernel_rfl
 have k0 : Tryz.prog.keyLits (Tryz.prog.types.size - 2 + 2) f0.type [.int .i64 s] = some [.int .i64 s] := by
  rw [t0]; exact kl_int (by kernel_rfl) (wf_i64 (by simp only [InR_i64]; omega))
 have k1 : Tryz.prog.keyLits (Tryz.prog.types.size - 2 + 2) f1.type [.int .u64 a, .int .u64 b, .int .u64 c] = some [.int .u64 a, .int .u64 b, .int .u64 c] := by
  rw [t1]
  exact kl_arr3 (e := 80) (by kernel_rfl) (by kernel_rfl) (by kernel_rfl) (by kernel_rfl) (wf_u64 (by simp only [InR_u64]; omega)) (wf_u64 (by simp only [InR_u64]; omega)) (wf_u64 (by simp only [InR_u64]; omega))
 have hk := kl_two hu hf hn (r := [.int .u64 a, .int .u64 b, .int .u64 c]) (by kernel_rfl) ⟨o0, by rw [t0]; kernel_rfl⟩ ⟨o1, by rw [t1]; kernel_rfl⟩ k0 k1
 unfold keyOf
 rw [hu]
 have hg : (Tryz.prog.keyType 146 && (pcV s a b c).formed Tryz.prog 146) = true := by kernel_rfl
 simp only [hg, if_true, hsz, Value.cells, List.toList_toArray]
 rw [hk]
 exact ⟨_, rfl⟩
theorem crS32 {b : List Int} (h : b.length ≤ 5) (c : Nat) : crS b c < 32 := by
 have := crN_lt b c b.length
 exact Nat.lt_of_lt_of_le this (Nat.pow_le_pow_right (by decide) h)
theorem pcKU {b : List Int} (h : b.length ≤ 5) : ∃ l, keyOf Tryz.prog 146 (pcU b) = some l := by
 have h0 := crS32 h 0
 have h1 := crS32 h 1
 have h2 := crS32 h 2
 exact pcK _ _ _ _ (by omega) (by omega) (by omega) (by omega)
/-- What is kept of the hours. -/
def mmT (g : Gg) (S C : Nat) : Value → Value → Prop := fun k v => ∃ b : List Int, b.length ≤ g.N ∧ k = pcU b ∧ v = .int .i64 (dV (dO g S C (g.N - b.length) b))
theorem mmT_key {g : Gg} {S C : Nat} {k v : Value} (hN : g.N ≤ 5) (h : mmT g S C k v) : ∃ l, keyOf Tryz.prog 146 k = some l := by
 obtain ⟨b, hb, rfl, _⟩ := h
 exact pcKU (by omega)
def dlF (b : List Int) : Nat → List AV := fun i => [u64 (crS b i : Nat)]
theorem dlF_at (b : List Int) (i : Nat) : dlF b i = [u64 (crS b i : Nat)] := rfl
abbrev dlA (b : List Int) : AV := .arr 3 1 (dlF b)
abbrev deF (g : Gg) (S C i9 i10 : Nat) : AV := .func (.func 97) [] [ggA g, .rptr 1 1 (fun _ => [tbsA g]) 0 0, .rptr 1 1 (fun _ => [u64 (S : Nat)]) 0 0, .ref i10 0 1 0 0, .ref i9 0 1 0 0, .rptr 1 1 (fun _ => [u64 (C : Nat)]) 0 0]
theorem tab_drop (g : Gg) (c : Nat) {q : Nat} (h : q < 32) : List.take 1 (List.drop (q * 1) (tabC g c)) = [i64 (if q < 2 ^ g.N then tabV g c q else 0)] := by
 have hl := tabC_len g c
 have ha := tabC_at g c h
 rw [Nat.mul_one]
 rw [List.getD_eq_getElem?_getD, List.getElem?_eq_getElem (by omega), Option.getD_some] at ha
 rw [List.drop_eq_getElem_cons (by omega), ha]
 rfl
theorem de_tri {g : Gg} {S C i9 i10 im : Nat} (k : OkG g) (hS : S < 32) (hC : C < 32) :
  ∀ (n : Nat) (b : List Int) (H : Hp), b.length + n = g.N → H i9 = some (.box 1 1 fun _ => [.map im]) → H i10 = some (.box 1 1 fun _ => [deF g S C i9 i10]) → H im = some (.memo (mmT g S C)) →
    PTri Tryz.prog (deF g S C i9 i10) [i64 b.length, dlA b] H (i64 (dV (dO g S C n b))) := by
 have nS := k.nS
 have nC := k.nC
 have hN : g.N ≤ 5 := nS
 have hNe : g.N = g.sm.length := rfl
 intro n
 induction n with
 | zero =>
   intro b H hs h9 h10 hm
   have hb5 := fun c => crS32 (b := b) (by omega) c
   have hbN := fun c => crS_lt' (g := g) (l := b) (by omega) c
   have eh := hr_domO k (l := b) (by omega)
   rw [dO_zero, ← eh]
   have dt : decide ((b.length : Int) = (g.sm.length : Int)) = true := decide_eq_true (by omega)
   refine Tri.drop ?_
   refine tri_m (m := fun _ => false) Tryz.func97 (by kernel_rfl) rfl (by simp only [List.length_append, List.length_cons, List.length_nil, Tryz.ntmps97]; decide) ?_
   simp only [vsAll, binA, binLitA, intA, loadA, loadRow, partA, partOk, fieldAddrA, lenA, nilCheckA, boxA, boxZ, opA, dstOk, nilSliceOp, argFr, Nat.reduceLT, Nat.reduceEqDiff, ↓reduceIte, reduceCtorEq, eq_self, wtAll, Tryz.ntmps97, dt]
   refine vs_loop (σ := Nat) (fun i => i ≤ g.cw.length) (fun i => [(9, .rptr 3 1 (dlF b) 0 0), (11, i64 (hrN g (crS b) i)), (27, tbsA g), (28, i64 g.cw.length), (29, i64 i)]) (fun _ => H) (fun i => g.cw.length - i) 0 (Nat.zero_le _) ?_ HSub_rfl fun i hi => ?_
   ·simp only [vsAll, Nat.reduceEqDiff, ↓reduceIte, eq_self, Int.natCast_zero]
    exact AV.Le.refl _
   ·simp only [vsAll, binA, binLitA, intA, opA, dstOk, Nat.reduceLT, Nat.reduceEqDiff, ↓reduceIte, eq_self]
    refine condD (fun hd => ?_) (fun hd => ?_)
    ·have his : i < g.cw.length := by omega
     have htl := tab_le k his (hbN i)
     have h5 := hb5 i
     have etd : List.take 1 (List.drop (crS b i * 1) (tbsF g i)) = [i64 (tabV g i (crS b i))] := by rw [tab_drop g i (hb5 i), if_pos (hbN i)]
     simp only [vsAll, loadA, loadRow, partA, partOk, indexAddrA, cellA, cellsA, okParts, buildSliceA, partIdx, elemsA, lensA, okAll, stAll, opsA, partsA, partsOk, opA, allocA, storeObj, dstOk, nilSliceOp, Nat.reduceAdd, Nat.reduceMul, Nat.reduceLT, Nat.reduceLeDiff, Nat.reduceEqDiff, ↓reduceIte, eq_self, wtAll]
     refine ⟨⟨by omega, by omega⟩, by omega, ?_⟩
     intro i13 hh_i13; (try simp only [Hp.set_none, ite_none] at hh_i13)
     have hl2 := tabC_len g i
     have ok2 := tabC_ok g i
     simp only [vsAll, eq_self, dlF_at, etd]
     refine ⟨fun q hq => ?_, ⟨by ((try clear hh_i13); omega), by ((try clear hh_i13); omega)⟩, by ((try clear hh_i13); omega), ⟨by ((try clear hh_i13); omega), by ((try clear hh_i13); omega)⟩, by ((try clear hh_i13); omega), ?_⟩
     ·rw [tab_drop g i hq]
      exact ⟨rfl, trivial⟩
     refine callK_pure (later_tri (hrN g (crS b) i) (tabV g i (crS b i)) _) ?_
     simp only [vsAll, binA, binLitA, intA, opA, dstOk, nilSliceOp, Nat.reduceLT, Nat.reduceEqDiff, ↓reduceIte, eq_self]
     refine ⟨by simp only [InR_i64]; ((try clear hh_i13); omega), loop_next (i + 1) (by ((try clear hh_i13); omega)) (by ((try clear hh_i13); omega)) ?_ (by (repeat (first | exact HSub_rfl | refine HSub_put_eq (by simp only [vsAll, ↓reduceIte, eq_self, reduceCtorEq, Nat.reduceEqDiff, hh_i13]) ?_ | refine HSub_drop2 (by simp only [eq_self, hh_i13]) ?_ | refine HSub_keep_eq (by simp only [vsAll, ↓reduceIte, eq_self, reduceCtorEq, Nat.reduceEqDiff, hh_i13]) ?_)))⟩
     simp only [vsAll, Nat.reduceEqDiff, ↓reduceIte, eq_self, Int.natCast_add, Int.natCast_one]
     exact AV.Le.refl _
    ·have ei : i = g.cw.length := by omega
     subst ei
     simp only [vsAll, opA, dstOk, nilSliceOp, resA, retA.eq_1, Nat.reduceLT, Nat.reduceEqDiff, ↓reduceIte, eq_self, Tryz.results97]
     exact dropR_pure rfl HSub_rfl
 | succ n ih =>
   intro b H hs h9 h10 hm
   have df : decide ((b.length : Int) = (g.sm.length : Int)) = false := decide_eq_false (by omega)
   have el : ∀ x : Int, ((b ++ [x]).length : Int) = (b.length : Int) + 1 := fun x => by simp
   have earr : arrL (dlF b) 3 = [u64 (crS b 0 : Nat), u64 (crS b 1 : Nat), u64 (crS b 2 : Nat)] := rfl
   cases hbit : S.testBit b.length with
   | false =>
     have ed : dlF (b ++ [-1]) = dlF b := by
      funext c
      unfold dlF
      rw [crS_snoc, if_neg (by omega)]
     rw [dO_out hbit]
     refine Tri.drop ?_
     refine tri_m (m := fun _ => false) Tryz.func97 (by kernel_rfl) rfl (by simp only [List.length_append, List.length_cons, List.length_nil, Tryz.ntmps97]; decide) ?_
     skip
     simp only [vsAll, binA, binLitA, intA, loadA, loadRow, partA, partOk, fieldAddrA, lenA, nilCheckA, boxA, boxZ, okAll, stAll, opsA, opA, dstOk, nilSliceOp, argFr, Nat.reduceLT, Nat.reduceEqDiff, Int.reduceNeg, ↓reduceIte, reduceCtorEq, eq_self, wtAll, Tryz.ntmps97, df]
     refine callK_pure (ghas_tri S b.length _ (by ((try clear h9 h10 hm); omega)) (by ((try clear h9 h10 hm); omega))) ?_
     simp only [vsAll, binA, binLitA, intA, unA, loadA, loadRow, partA, partOk, okAll, stAll, opsA, opA, dstOk, argFr, Nat.reduceLT, Nat.reduceEqDiff, Int.reduceNeg, ↓reduceIte, reduceCtorEq, eq_self, wtAll, h10, hbit]
     have hx := ih (b ++ [-1]) H (by rw [List.length_append, List.length_cons, List.length_nil]; ((try clear h9 h10 hm); omega)) h9 h10 hm
     have hx2 : PTri Tryz.prog (deF g S C i9 i10) [i64 ((b.length : Int) + 1), .arr 3 1 (dlF b)] H (i64 (dV (dO g S C n (b ++ [-1])))) := by rw [← el (-1), ← ed]; exact hx
     refine ⟨by simp only [InR_i64]; ((try clear h9 h10 hm); omega), ?_⟩
     refine callK_pure hx2 ?_
     simp only [vsAll, opA, dstOk, nilSliceOp, resA, retA.eq_1, Nat.reduceLT, Int.reduceNeg, ↓reduceIte, eq_self, Tryz.results97]
     exact dropR_pure rfl HSub_rfl
   | true =>
     refine Tri.unpack hm fun es ck hes hpw => ?_
     have hkey : ∃ l, keyOf Tryz.prog 146 (pcU b) = some l := pcKU (by omega)
     obtain ⟨o, hfo, hst, hcase⟩ := found_of und143q key146q hkey (fun e he => mmT_key hN (hes e he)) hpw
     have hback : Go.V.HSub (H.set im (.raw (.map es ck))) H := HSub_set' hm (memo_le hes hpw)
     have n9 : ¬ i9 = im := fun q => by rw [q, hm] at h9; cases h9
     have n10 : ¬ i10 = im := fun q => by rw [q, hm] at h10; cases h10
     have n9' : ¬ im = i9 := fun q => n9 q.symm
     have n10' : ¬ im = i10 := fun q => n10 q.symm
     rw [dO_in hbit]
     refine Tri.drop ?_
     refine tri_m (m := fun _ => false) Tryz.func97 (by kernel_rfl) rfl (by simp only [List.length_append, List.length_cons, List.length_nil, Tryz.ntmps97]; decide) ?_
     skip
     simp only [vsAll, binA, binLitA, intA, loadA, loadRow, partA, partOk, fieldAddrA, lenA, nilCheckA, boxA, boxZ, okAll, stAll, opsA, opA, dstOk, nilSliceOp, argFr, Nat.reduceLT, Nat.reduceEqDiff, ↓reduceIte, reduceCtorEq, eq_self, wtAll, Tryz.ntmps97, df]
     refine callK_pure (ghas_tri S b.length _ (by ((try clear h9 h10 hm n9 n10 n9' n10'); omega)) (by ((try clear h9 h10 hm n9 n10 n9' n10'); omega))) ?_
     simp only [vsAll, unA, loadA, loadRow, partA, partOk, extractA, cellA, cellsA, fillA, okParts, partsA, partsOk, opA, lookA, dstOk, nilSliceOp, argFr, Nat.reduceAdd, Nat.reduceLT, Nat.reduceLeDiff, Nat.reduceEqDiff, ↓reduceIte, reduceCtorEq, eq_self, wtAll, h9, n9, hbit, mapZ143q, earr]
     refine ⟨o, hfo _, ?_⟩
     rcases hcase with ⟨rfl, hno⟩ | ⟨j, en, rfl, hj, hkn⟩
     ·simp only [vsAll, loadA, loadRow, partA, partOk, lenA, opA, dstOk, nilSliceOp, argFr, Nat.reduceLT, Nat.reduceEqDiff, ↓reduceIte, eq_self, wtAll]
      have hfle : ∀ c t, dO g S C n (b ++ [(c : Int)]) = some t → 0 ≤ t ∧ t ≤ 24 := fun c t h => dO_le k (by rw [List.length_append, List.length_cons, List.length_nil]; ((try clear h9 h10 hm n9 n10 n9' n10'); omega)) h
      have hps := fun i => dP_step (g := g) (C := C) (f := fun c : Nat => dO g S C n (b ++ [(c : Int)])) (fun c t h => hfle c t h) i
      have hp0 : dV (dP g C (fun c : Nat => dO g S C n (b ++ [(c : Int)])) 0) = 10000 := rfl
      have hend := dO_in (g := g) (C := C) (n := n) hbit
      generalize hpv : dP g C (fun c : Nat => dO g S C n (b ++ [(c : Int)])) = pv at hps hp0 hend ⊢
      refine vs_loop (σ := Nat) (fun i => i ≤ g.cw.length) (fun i => [(0, i64 b.length), (5, .ref i10 0 1 0 0), (6, .ref i9 0 1 0 0), (7, .rptr 1 1 (fun _ => [u64 (C : Nat)]) 0 0), (9, .rptr 3 1 (dlF b) 0 0), (16, i64 (dV (pv i))), (64, i64 g.cw.length), (65, i64 i)]) (fun _ => H) (fun i => g.cw.length - i) 0 (Nat.zero_le _) ?_ hback fun i hi => ?_
      ·simp only [vsAll, argFr, Nat.reduceEqDiff, ↓reduceIte, reduceCtorEq, eq_self, Int.natCast_zero, hp0]
      ·simp only [vsAll, binA, binLitA, intA, opA, dstOk, Nat.reduceLT, Nat.reduceEqDiff, ↓reduceIte, reduceCtorEq, eq_self]
       refine condD (fun hd => ?_) (fun hd => ?_)
       ·have his : i < g.cw.length := by ((try clear h9 h10 hm n9 n10 n9' n10'); omega)
        have hst := hps i
        simp only [vsAll, loadA, loadRow, partA, partOk, okAll, stAll, opsA, opA, dstOk, nilSliceOp, Nat.reduceLT, Nat.reduceEqDiff, ↓reduceIte, reduceCtorEq, eq_self, wtAll]
        refine callK_pure (ghas_tri C i _ (by ((try clear h9 h10 hm n9 n10 n9' n10'); omega)) (by ((try clear h9 h10 hm n9 n10 n9' n10'); omega))) ?_
        simp only [vsAll, opA, ↓reduceIte, eq_self]
        refine condV (fun hc1 => ?_) (fun hc1 => ?_)
        ·rw [if_pos hc1] at hst
         have ed : updF 3 i (dlF b) [u64 ((crS b i ||| 2 ^ b.length : Nat) : Int)] = dlF (b ++ [(i : Int)]) := by
          funext c
          show (if c = i then _ else _) = _
          unfold dlF
          rw [crS_snoc]
          by_cases e : c = i
          ·subst e; rw [if_pos rfl, if_pos rfl]
          ·rw [if_neg e, if_neg (by ((try clear h9 h10 hm n9 n10 n9' n10'); omega))]
         have hb32 := crS32 (b := b) (by ((try clear h9 h10 hm n9 n10 n9' n10'); omega)) i
         simp only [vsAll, loadA, loadRow, partA, partOk, indexAddrA, okAll, stAll, opsA, opA, allocA, storeObj, dstOk, Nat.reduceMul, Nat.reduceLT, Nat.reduceEqDiff, ↓reduceIte, reduceCtorEq, eq_self, wtAll]
         intro i18 hh_i18; (try simp only [Hp.set_none, ite_none] at hh_i18)
         simp only [vsAll, cellA, okCells, implies_true, eq_self, dlF_at]
         have a1 := ne_some hh_i18 h9
         have a2 := ne_some hh_i18 h10
         have a3 := ne_some hh_i18 hm
         skip
         refine ⟨⟨by ((try clear h9 h10 hm n9 n10 n9' n10' hh_i18 a1 a2 a3); omega), by ((try clear h9 h10 hm n9 n10 n9' n10' hh_i18 a1 a2 a3); omega)⟩, by ((try clear h9 h10 hm n9 n10 n9' n10' hh_i18 a1 a2 a3); omega), ?_⟩
         rw [Hp.set_set]
         refine callK_pure (with_tri (crS b i) b.length _ (by ((try clear h9 h10 hm n9 n10 n9' n10' hh_i18 a1 a2 a3); omega)) (by ((try clear h9 h10 hm n9 n10 n9' n10' hh_i18 a1 a2 a3); omega))) ?_
         simp only [vsAll, binA, binLitA, intA, loadA, loadRow, partA, partOk, indexAddrA, cellA, cellsA, okAll, stAll, opsA, opA, newCells, okCells, storeObj, dstOk, Nat.reduceLT, Nat.reduceEqDiff, ↓reduceIte, reduceCtorEq, eq_self, wtAll, h10, a2, dlF_at]
         rw [ed, Hp.set_set]
         refine ⟨⟨by ((try clear h9 h10 hm n9 n10 n9' n10' hh_i18 a1 a2 a3); omega), by ((try clear h9 h10 hm n9 n10 n9' n10' hh_i18 a1 a2 a3); omega)⟩, by ((try clear h9 h10 hm n9 n10 n9' n10' hh_i18 a1 a2 a3); omega), by simp only [InR_i64]; ((try clear h9 h10 hm n9 n10 n9' n10' hh_i18 a1 a2 a3); omega), ?_⟩
         have hx : ∀ X : Hp, X i9 = some (.box 1 1 fun _ => [.map im]) → X i10 = some (.box 1 1 fun _ => [deF g S C i9 i10]) → X im = some (.memo (mmT g S C)) → PTri Tryz.prog (deF g S C i9 i10) [i64 ((b.length : Int) + 1), .arr 3 1 (dlF (b ++ [(i : Int)]))] X (i64 (dV (dO g S C n (b ++ [(i : Int)])))) := fun X x1 x2 x3 => by
          rw [← el (i : Int)]
          exact ih (b ++ [(i : Int)]) X (by rw [List.length_append, List.length_cons, List.length_nil]; ((try clear h9 h10 hm n9 n10 n9' n10' hh_i18 a1 a2 a3); omega)) x1 x2 x3
         have hpi : dO g S C n (b ++ [(i : Int)]) = dO g S C n (b ++ [(i : Int)]) := rfl
         refine callK_pure (hx _ (by simp only [vsAll, ↓reduceIte, eq_self, h9, a1]) (by simp only [vsAll, ↓reduceIte, eq_self, h10, a2]) (by simp only [vsAll, ↓reduceIte, eq_self, hm, a3])) ?_
         simp only [vsAll, binA, binLitA, intA, mmA, okAll, stAll, opsA, opA, dstOk, nilSliceOp, Nat.reduceLT, Nat.reduceEqDiff, ↓reduceIte, reduceCtorEq, eq_self]
         rw [← hst]
         refine ⟨by simp only [InR_i64]; ((try clear h9 h10 hm n9 n10 n9' n10' hh_i18 a1 a2 a3); omega), loop_next (i + 1) (by ((try clear h9 h10 hm n9 n10 n9' n10' hh_i18 a1 a2 a3); omega)) (by ((try clear h9 h10 hm n9 n10 n9' n10' hh_i18 a1 a2 a3); omega)) ?_ (by (repeat (first | exact HSub_rfl | refine HSub_put_eq (by simp only [vsAll, ↓reduceIte, eq_self, reduceCtorEq, Nat.reduceEqDiff, h9, h10, hm, n9, n10, n9', n10', hh_i18, a1, a2, a3]) ?_ | refine HSub_drop2 (by simp only [eq_self, hh_i18]) ?_ | refine HSub_keep_eq (by simp only [vsAll, ↓reduceIte, eq_self, reduceCtorEq, Nat.reduceEqDiff, h9, h10, hm, n9, n10, n9', n10', hh_i18, a1, a2, a3]) ?_)))⟩
         simp only [vsAll, Nat.reduceEqDiff, ↓reduceIte, reduceCtorEq, eq_self, Int.natCast_add, Int.natCast_one]
        ·rw [if_neg (by rw [hc1]; decide)] at hst
         rw [← hst]
         simp only [vsAll, binA, binLitA, intA, opA, dstOk, Nat.reduceLT, Nat.reduceEqDiff, ↓reduceIte, reduceCtorEq, eq_self]
         refine ⟨by simp only [InR_i64]; ((try clear h9 h10 hm n9 n10 n9' n10'); omega), loop_next (i + 1) (by ((try clear h9 h10 hm n9 n10 n9' n10'); omega)) (by ((try clear h9 h10 hm n9 n10 n9' n10'); omega)) ?_ HSub_rfl⟩
         simp only [vsAll, Nat.reduceEqDiff, ↓reduceIte, reduceCtorEq, eq_self, Int.natCast_add, Int.natCast_one]
       ·have ei : i = g.cw.length := by ((try clear h9 h10 hm n9 n10 n9' n10'); omega)
        subst ei
        simp only [vsAll, loadA, loadRow, partA, partOk, cellA, cellsA, fillA, okParts, partsA, partsOk, opA, mapUpA, dstOk, nilSliceOp, resA, retA.eq_1, Nat.reduceAdd, Nat.reduceLT, Nat.reduceLeDiff, Nat.reduceEqDiff, ↓reduceIte, reduceCtorEq, eq_self, wtAll, Tryz.results97, h9, hm, earr]
        refine ⟨146, 3, und143q, key146q, hkey, fun q v h => mmT_key hN h, ⟨b, by ((try clear h9 h10 hm n9 n10 n9' n10'); omega), rfl, ?_⟩, dropR_pure rfl HSub_rfl⟩
        rw [show g.N - b.length = n + 1 by ((try clear h9 h10 hm n9 n10 n9' n10'); omega), hend]
     ·obtain ⟨b', h1, h2, h3⟩ := hes en (by
       have := Array.getElem?_eq_some_iff.1 hj
       obtain ⟨hl, rfl⟩ := this
       simp)
      have hval : en.val = .int .i64 (dV (dO g S C (n + 1) b)) := by
       rw [hkn] at h2
       simp only [pcU, pcV, Value.agg.injEq, Array.mk.injEq, List.cons.injEq, Value.int.injEq, true_and, and_true] at h2
       obtain ⟨q1, q2, q3, q4⟩ := h2
       have e1 : b'.length = b.length := by ((try clear h9 h10 hm n9 n10 n9' n10'); omega)
       rw [h3, e1, show g.N - b.length = n + 1 by ((try clear h9 h10 hm n9 n10 n9' n10'); omega), dO_congr (n + 1) b' b e1 fun c hc => ?_]
       have : c = 0 ∨ c = 1 ∨ c = 2 := by ((try clear h9 h10 hm n9 n10 n9' n10'); omega)
       rcases this with rfl | rfl | rfl <;> ((try clear h9 h10 hm n9 n10 n9' n10'); omega)
      rw [dO_in hbit] at hval
      simp only [vsAll, opA, dstOk, nilSliceOp, resA, retA.eq_1, Nat.reduceLT, Nat.reduceEqDiff, ↓reduceIte, eq_self, Tryz.results97, hval]
      exact dropR_pure rfl hback
end Go.Proofs.YtdopkbldjagmlaaGreat
end
section
set_option linter.unusedVariables false
set_option linter.unusedSimpArgs false
set_option maxHeartbeats 1000000
set_option maxRecDepth 100000
namespace Go.Proofs.YtdopkbldjagmlaaGreat
open Go.V
theorem azT96q : azT Tryz.prog 101 = some (1, 1, [.nilFunc]) := by kernel_rfl
theorem azT151q : azT Tryz.prog 143 = some (1, 1, [.map none]) := by kernel_rfl
/-- The heap behind what tells hours. -/
abbrev deH (g : Gg) (S C : Nat) (H : Hp) (im i9 i10 : Nat) : Hp :=
 ((H.set im (.memo (mmT g S C))).set i9 (.box 1 1 fun _ => [.map im])).set i10 (.box 1 1 fun _ => [deF g S C i9 i10])
def deR (g : Gg) (S C : Nat) (H : Hp) : Res → Hp → Prop := fun r H' =>
 ∃ i9 i10 im, r = .ret (deF g S C i9 i10) ∧ (H im = none ∧ H i9 = none ∧ H i10 = none) ∧ ((¬ i9 = im ∧ ¬ im = i9) ∧ (¬ i10 = im ∧ ¬ im = i10) ∧ ¬ i10 = i9 ∧ ¬ i9 = i10) ∧ H' = deH g S C H im i9 i10
theorem deals_tri (g : Gg) (S C : Nat) (H : Hp) : Tri Tryz.prog (fnA 62) [gP g, u64 (S : Nat), u64 (C : Nat), tbsA g] H (deR g S C H) := by
 refine Tri.drop ?_
 refine tri_v0 (fun _ => false) Tryz.func62 (by kernel_rfl) rfl (by simp only [List.length_append, List.length_cons, List.length_nil, Tryz.ntmps62]; decide) ?_
 simp only [vsAll, loadA, loadRow, partA, partOk, boxA, boxZ, cellA, cellsA, okAll, stAll, opsA, opA, allocA, newCells, okCells, storeObj, nM, dstOk, nilSliceOp, resA, argFr, retA.eq_1, Nat.reduceLT, Nat.reduceEqDiff, ↓reduceIte, eq_self, wtAll, Tryz.ntmps62, Tryz.results62, azT96q, azT151q]
 intro im hh_im; (try simp only [Hp.set_none, ite_none] at hh_im); intro i9 hh_i9; (try simp only [ite_none] at hh_i9); intro i10 hh_i10; (try simp only [ite_none] at hh_i10)
 rw [Hp.set_set, Hp.set_set]
 refine ⟨deH g S C H im i9 i10, HSub.set (HSub.set (HSub.set (HSub.refl _) (memo_le (by simp) (by simp))) (.refl _)) (.refl _), i9, i10, im, rfl, ?_, ?_, rfl⟩
 ·refine ⟨?_, ?_, ?_⟩ <;> simp_all
 ·refine ⟨⟨?_, ?_⟩, ⟨?_, ?_⟩, ?_, ?_⟩ <;> simp_all
theorem deH_sub {g : Gg} {S C : Nat} {H : Hp} {im i9 i10 : Nat} (h : H im = none ∧ H i9 = none ∧ H i10 = none) : Go.V.HSub (deH g S C H im i9 i10) H := fun q o hq => by
 have h1 : ¬ q = i10 := fun e => by rw [e, h.2.2] at hq; cases hq
 have h2 : ¬ q = i9 := fun e => by rw [e, h.2.1] at hq; cases hq
 have h3 : ¬ q = im := fun e => by rw [e, h.1] at hq; cases hq
 exact ⟨o, by rw [deH, Hp.set_ne _ _ h1, Hp.set_ne _ _ h2, Hp.set_ne _ _ h3]; exact hq, .refl _⟩
/-- The least hour, told by what was made; more may lie there. -/
theorem toldG_tri {g : Gg} {S C : Nat} {H : Hp} {im i9 i10 : Nat} (k : OkG g) (hS : S < 32) (hC : C < 32) (n : Nat) (b : List Int) (hn : b.length + n = g.N)
  (h9 : H i9 = some (.box 1 1 fun _ => [.map im])) (h10 : H i10 = some (.box 1 1 fun _ => [deF g S C i9 i10])) (hm : H im = some (.memo (mmT g S C))) :
  PTri Tryz.prog (deF g S C i9 i10) [i64 b.length, dlA b] H (i64 (dV (dO g S C n b))) := de_tri k hS hC n b H hn h9 h10 hm
theorem lt5 {C m : Nat} (h : C < 2 ^ m) (hm : m ≤ 5) : C < 32 := Nat.lt_of_lt_of_le h (Nat.pow_le_pow_right (by decide) hm)
theorem agg3 {f : Nat → List AV} {a b c : AV} (h0 : f 0 = [a]) (h1 : f 1 = [b]) (h2 : f 2 = [c]) : AV.Le (.agg [a, b, c]) (.arr 3 1 f) := by
 intro S v hv
 cases hv with
 | agg hn hh =>
   refine .arr hn (fun i hi => ?_) fun i j hi hj => ?_
   ·match i, hi with
    | 0, _ => rw [h0]; rfl
    | 1, _ => rw [h1]; rfl
    | 2, _ => rw [h2]; rfl
   ·have ej : j = 0 := by omega
    subst ej
    have := hh i hi
    match i, hi with
    | 0, _ => rw [h0]; exact this
    | 1, _ => rw [h1]; exact this
    | 2, _ => rw [h2]; exact this
/-- The least hour of all deals, told by what was made. -/
theorem told0_tri {g : Gg} {S C : Nat} {H X : Hp} {im i9 i10 : Nat} (k : OkG g) (hS : S < 32) (hC : C < 32)
  (hd : (¬ i9 = im ∧ ¬ im = i9) ∧ (¬ i10 = im ∧ ¬ im = i10) ∧ ¬ i10 = i9 ∧ ¬ i9 = i10) :
  PTri Tryz.prog (deF g S C i9 i10) [i64 0, .agg [u64 0, u64 0, u64 0]] (deH g S C H im i9 i10) (i64 (dV (dO g S C g.N []))) := by
 refine Tri.args (args' := [i64 ([] : List Int).length, dlA []]) (toldG_tri k hS hC g.N [] (Nat.zero_add _) (by rw [deH, Hp.set_ne _ _ hd.2.2.2, Hp.set_same]) (by rw [deH, Hp.set_same]) (by rw [deH, Hp.set_ne _ _ hd.2.1.2, Hp.set_ne _ _ hd.1.2, Hp.set_same])) rfl fun q hq => ?_
 match q, hq with
 | 0, _ => exact AV.Le.refl _
 | 1, _ => exact agg3 rfl rfl rfl
/-- Is there a deal for the crews of a set? -/
theorem enough1_tri (g : Gg) (s i1 i2 : Nat) (H : Hp) (k : OkG g) (hs : s < 32) (h1 : H i1 = some (.box 1 1 fun _ => [gP g])) (h2 : H i2 = some (.box 1 1 fun _ => [tbsA g])) :
  PTri Tryz.prog (.func (.func 69) [] [.ref i1 0 1 0 0, .ref i2 0 1 0 0]) [u64 (s : Nat)] H (boo (genB g s)) := by
 have nS := k.nS
 refine Tri.drop ?_
 refine tri_v0 (fun _ => false) Tryz.func69 (by kernel_rfl) rfl (by simp only [List.length_append, List.length_cons, List.length_nil, Tryz.ntmps69]; decide) ?_
 skip
 simp only [vsAll, opA, dstOk, nilSliceOp, Nat.reduceLT, eq_self, Tryz.ntmps69]
 refine vs_draw2 [0, 0, 0, 0, 0, 0, 0, 0, 0, 0, 1, 0, 3, 4, 4] [([0, 1, 2, 3, 4, 5, 6, 7, 8, 9, 11], [], 10), ([], [], 12)] [13, 14] (by decide +kernel) ?_
 simp only [vsAll, loadA, loadRow, partA, partOk, fieldAddrA, lenA, nilCheckA, opA, dstOk, argFr, Nat.reduceLT, Nat.reduceEqDiff, ↓reduceIte, eq_self, wtAll, h1]
 refine qcall _ ⟨trivial, by simp only [vsAll, okAll, opsA, opA, ↓reduceIte, eq_self], every_tri g.sm.length _ nS⟩ ?_
 simp only [vsAll, loadA, loadRow, partA, partOk, okParts, okAll, stAll, opsA, partsA, partsOk, opA, dstOk, argFr, Nat.reduceLT, Nat.reduceEqDiff, ↓reduceIte, reduceCtorEq, eq_self, wtAll, h2]
 refine callK (deals_tri g (2 ^ g.sm.length - 1) s _) ?_
 rintro r H' ⟨i9, i10, im, rfl, hfr, hd, rfl⟩
 simp only [vsAll, okAll, stAll, opsA, opA, dstOk, Nat.reduceLT, Nat.reduceEqDiff, ↓reduceIte, eq_self]
 have hb := dV_le k (S := 2 ^ g.sm.length - 1) (C := s) (n := g.N) (b := []) (Nat.zero_add _)
 have hF : g.F = 2 ^ g.sm.length - 1 := rfl
 have eg : decide (dV (dO g (2 ^ g.sm.length - 1) s g.N []) < 10000) = genB g s := by
  unfold genB
  rw [hF, Bool.eq_iff_iff, decide_eq_true_eq]
  exact hb.2.2
 have hF5 : 2 ^ g.sm.length - 1 < 32 := by
  have := Nat.pow_le_pow_right (n := 2) (by decide) nS
  ((try clear h1 h2); omega)
 refine callK_pure (told0_tri k hF5 hs hd (X := H)) ?_
 simp only [vsAll, binA, binLitA, intA, opA, dstOk, resA, retA.eq_1, Nat.reduceLT, ↓reduceIte, eq_self, Tryz.results69, eg]
 exact dropR_pure rfl (deH_sub hfr)
end Go.Proofs.YtdopkbldjagmlaaGreat
end
section
set_option linter.unusedVariables false
set_option linter.unusedSimpArgs false
set_option maxHeartbeats 1000000
set_option maxRecDepth 100000
namespace Go.Proofs.YtdopkbldjagmlaaGreat
open Go.V
theorem dec_castG (a b : Nat) (x : Bool) : (decide ((a : Int) = (b : Int)) && x) = (decide (a = b) && x) := by
 rw [show decide ((a : Int) = (b : Int)) = decide (a = b) from decide_eq_decide.2 (by omega)]
theorem gfew_tri (f : Nat → Bool) (m : Nat) (fv : AV) (H : Hp) (hm : m ≤ 5) (hok : fv.ok) (hst : fv.st = fv) (hf : ∀ j : Nat, j < 2 ^ m → PTri Tryz.prog fv [u64 j] H (boo (f j))) :
  PTri Tryz.prog (fnA 68) [i64 m, fv] H (.tuple [u64 ((fewV f m).getD 0 : Nat), boo (fewV f m).isSome]) := by
 have hp : 2 ^ m ≤ 2 ^ 5 := Nat.pow_le_pow_right (by decide) hm
 have hp0 : 0 < 2 ^ m := Nat.pow_pos (by decide)
 have ep : (1 : Int) * 2 ^ m = ((2 ^ m : Nat) : Int) := by rw [Int.one_mul]; simp
 refine tri_v0 (fun _ => false) Tryz.func68 (by kernel_rfl) rfl (by simp only [List.length_append, List.length_cons, List.length_nil, Tryz.ntmps68]; decide) ?_
 skip
 simp only [vsAll, binA, binLitA, intA, opA, dstOk, nilSliceOp, argFr, Nat.reduceLT, ↓reduceIte, reduceCtorEq, eq_self, Tryz.ntmps68]
 refine ⟨by simp only [InR_i64]; ((try clear hok hst); omega), ?_⟩
 refine vs_loop (σ := Nat) (fun i => i ≤ m + 1 ∧ fewV f m = outF f m (m + 1 - i) i) (fun i => [(0, i64 m), (1, fv), (9, i64 ((m : Int) + 1)), (10, i64 i)]) (fun _ => H) (fun i => m + 1 - i) 0 ⟨by ((try clear hok hst); omega), rfl⟩ ?_ (HSub.refl _) fun i hi => ?_
 ·simp only [vsAll, argFr, Nat.reduceEqDiff, ↓reduceIte, reduceCtorEq, eq_self, Int.natCast_zero]
 ·obtain ⟨hi, hv⟩ := hi
  simp only [vsAll, binA, binLitA, intA, opA, dstOk, Nat.reduceLT, Nat.reduceEqDiff, ↓reduceIte, reduceCtorEq, eq_self]
  refine condD (fun hd => ?_) (fun hd => ?_)
  ·rw [show m + 1 - i = (m - i) + 1 by ((try clear hok hst); omega)] at hv
   simp only [vsAll, okAll, stAll, opsA, opA, dstOk, nilSliceOp, Nat.reduceLT, Nat.reduceEqDiff, ↓reduceIte, reduceCtorEq, eq_self]
   refine callK_pure (every_tri m _ hm) ?_
   have e15 : ((2 ^ m - 1 : Nat) : Int) + 1 = ((2 ^ m : Nat) : Int) := by ((try clear hok hst); omega)
   simp only [vsAll, binA, binLitA, intA, opA, dstOk, Nat.reduceLT, ↓reduceIte, eq_self, e15]
   refine ⟨by simp only [InR_u64]; ((try clear hok hst); omega), ?_⟩
   refine vs_loop (σ := Nat) (fun j => j ≤ 2 ^ m ∧ inn f i (2 ^ m) 0 = inn f i (2 ^ m - j) j) (fun j => [(0, i64 m), (1, fv), (6, i64 i), (9, i64 ((m : Int) + 1)), (10, i64 i), (15, u64 ((2 ^ m : Nat) : Int)), (16, u64 j)]) (fun _ => H) (fun j => 2 ^ m - j) 0 ⟨by ((try clear hok hst); omega), rfl⟩ ?_ (HSub.refl _) fun j hj => ?_
   ·simp only [vsAll, Nat.reduceEqDiff, ↓reduceIte, reduceCtorEq, eq_self, Int.natCast_zero]
   ·obtain ⟨hj, hw⟩ := hj
    simp only [vsAll, binA, binLitA, intA, opA, dstOk, Nat.reduceLT, Nat.reduceEqDiff, ↓reduceIte, reduceCtorEq, eq_self]
    refine condD (fun hd2 => ?_) (fun hd2 => ?_)
    ·rw [show 2 ^ m - j = (2 ^ m - (j + 1)) + 1 by ((try clear hok hst); omega), inn] at hw
     simp only [vsAll, okAll, stAll, opsA, opA, dstOk, nilSliceOp, Nat.reduceLT, Nat.reduceEqDiff, ↓reduceIte, reduceCtorEq, eq_self]
     refine callK_pure (ssize_tri j _ (by ((try clear hok hst); omega))) ?_
     simp only [vsAll, binA, binLitA, intA, opA, guardV, dstOk, Nat.reduceLT, Nat.reduceEqDiff, ↓reduceIte, reduceCtorEq, implies_true, eq_self, hok, hst]
     refine gcall _ (fun g => ⟨by simp only [vsAll, opA, Nat.reduceEqDiff, ↓reduceIte, eq_self, g], by simp only [vsAll, okAll, opsA, opA, ↓reduceIte, eq_self, g], hf j (by ((try clear hok hst); omega))⟩) ?_
     simp only [vsAll, pickA, opA, dstOk, Nat.reduceLT, Nat.reduceEqDiff, ↓reduceIte, implies_true, eq_self]
     rw [dec_castG]
     refine condV (fun hb => ?_) (fun hb => ?_)
     ·rw [hb, if_pos rfl] at hw
      have hr : fewV f m = some j := by rw [hv, outF, hw]
      simp only [vsAll, opA, dstOk, nilSliceOp, resA, retA.eq_2, Nat.reduceLT, Nat.reduceEqDiff, ↓reduceIte, eq_self, Tryz.results68, hr, Option.getD_some]
     ·rw [hb, if_neg (by decide)] at hw
      simp only [vsAll, binA, binLitA, intA, opA, dstOk, Nat.reduceLT, Nat.reduceEqDiff, ↓reduceIte, reduceCtorEq, eq_self]
      refine ⟨by simp only [InR_u64]; ((try clear hok hst); omega), loop_next (j + 1) ⟨by ((try clear hok hst); omega), hw⟩ (by ((try clear hok hst); omega)) ?_ (HSub.refl _)⟩
      simp only [vsAll, Nat.reduceEqDiff, ↓reduceIte, reduceCtorEq, eq_self, Int.natCast_add, Int.natCast_one]
    ·have ej : j = 2 ^ m := by ((try clear hok hst); omega)
     subst ej
     rw [Nat.sub_self, inn] at hw
     rw [outF, hw, show m - i = m + 1 - (i + 1) by ((try clear hok hst); omega)] at hv
     simp only [] at hv
     simp only [vsAll, binA, binLitA, intA, opA, dstOk, Nat.reduceLT, Nat.reduceEqDiff, ↓reduceIte, reduceCtorEq, eq_self]
     refine ⟨by simp only [InR_i64]; ((try clear hok hst); omega), loop_next (i + 1) ⟨by ((try clear hok hst); omega), hv⟩ (by ((try clear hok hst); omega)) ?_ (HSub.refl _)⟩
     simp only [vsAll, Nat.reduceEqDiff, ↓reduceIte, reduceCtorEq, eq_self, Int.natCast_add, Int.natCast_one]
  ·have ei : i = m + 1 := by ((try clear hok hst); omega)
   subst ei
   rw [Nat.sub_self, outF] at hv
   simp only [vsAll, opA, dstOk, nilSliceOp, resA, retA.eq_2, Nat.reduceLT, Nat.reduceEqDiff, ↓reduceIte, eq_self, Tryz.results68, hv, Option.getD_none, Int.natCast_zero]
/-- Is there a deal without the seams of a set? -/
theorem leave1_tri (g : Gg) (s i1 i2 i3 : Nat) (H : Hp) (k : OkG g) (hs : s < 32) (h1 : H i1 = some (.box 1 1 fun _ => [gP g])) (h2 : H i2 = some (.box 1 1 fun _ => [u64 (g.F : Nat)])) (h3 : H i3 = some (.box 1 1 fun _ => [tbsA g])) :
  PTri Tryz.prog (.func (.func 71) [] [.ref i1 0 1 0 0, .ref i2 0 1 0 0, .ref i3 0 1 0 0]) [u64 (s : Nat)] H (boo (leaB g s)) := by
 have nS := k.nS
 have nC := k.nC
 have hF5 : g.F < 32 := by
  have := Nat.pow_le_pow_right (n := 2) (by decide) nS
  unfold Gg.F Gg.N
  omega
 have hA5 : g.A < 32 := by
  have := Nat.pow_le_pow_right (n := 2) (by decide) (show g.cw.length ≤ 5 by omega)
  unfold Gg.A
  omega
 have hd5 : dif g.F s < 32 := dif_lt (n := 5) hF5
 refine Tri.drop ?_
 refine tri_v0 (fun _ => false) Tryz.func71 (by kernel_rfl) rfl (by simp only [List.length_append, List.length_cons, List.length_nil, Tryz.ntmps71]; decide) ?_
 skip
 simp only [vsAll, opA, dstOk, nilSliceOp, Nat.reduceLT, eq_self, Tryz.ntmps71]
 refine vs_draw2 [0, 0, 0, 0, 0, 0, 0, 0, 0, 0, 0, 0, 1, 0, 3, 4, 4] [([0, 1, 2, 3, 4, 5, 6, 7, 8, 9, 10, 11, 13], [], 12), ([], [], 14)] [15, 16] (by decide +kernel) ?_
 simp only [vsAll, loadA, loadRow, partA, partOk, opA, dstOk, argFr, Nat.reduceLT, Nat.reduceEqDiff, ↓reduceIte, reduceCtorEq, eq_self, wtAll, h1, h2]
 refine qcall _ ⟨trivial, by simp only [vsAll, okAll, opsA, opA, Nat.reduceEqDiff, ↓reduceIte, eq_self], without_tri g.F s _ (by ((try clear h1 h2 h3); omega)) (by ((try clear h1 h2 h3); omega))⟩ ?_
 simp only [vsAll, loadA, loadRow, partA, partOk, fieldAddrA, lenA, nilCheckA, opA, dstOk, argFr, Nat.reduceLT, Nat.reduceEqDiff, ↓reduceIte, eq_self, wtAll, h1]
 refine qcall _ ⟨trivial, by simp only [vsAll, okAll, opsA, opA, ↓reduceIte, eq_self], every_tri g.cw.length _ (by ((try clear h1 h2 h3); omega))⟩ ?_
 have eA : 2 ^ g.cw.length - 1 = g.A := rfl
 rw [eA]
 simp only [vsAll, loadA, loadRow, partA, partOk, okParts, okAll, stAll, opsA, partsA, partsOk, opA, dstOk, argFr, Nat.reduceLT, Nat.reduceEqDiff, ↓reduceIte, eq_self, wtAll, h3]
 refine callK (deals_tri g (dif g.F s) g.A _) ?_
 rintro r H' ⟨i9, i10, im, rfl, hfr, hd, rfl⟩
 simp only [vsAll, okAll, stAll, opsA, opA, dstOk, Nat.reduceLT, Nat.reduceEqDiff, ↓reduceIte, eq_self]
 have hb := dV_le k (S := dif g.F s) (C := g.A) (n := g.N) (b := []) (Nat.zero_add _)
 have eg : decide (dV (dO g (dif g.F s) g.A g.N []) < 10000) = leaB g s := by
  unfold leaB
  rw [Bool.eq_iff_iff, decide_eq_true_eq]
  exact hb.2.2
 refine callK_pure (told0_tri k hd5 hA5 hd (X := H)) ?_
 simp only [vsAll, binA, binLitA, intA, opA, dstOk, resA, retA.eq_1, Nat.reduceLT, ↓reduceIte, eq_self, Tryz.results71, eg]
 exact dropR_pure rfl (deH_sub hfr)
end Go.Proofs.YtdopkbldjagmlaaGreat
end
section
set_option linter.unusedVariables false
set_option linter.unusedSimpArgs false
namespace Go.Proofs.YtdopkbldjagmlaaGreat
open Go.V
theorem dP_ex {g : Gg} {C : Nat} {f : Nat → Option Int} {m : Int} : ∀ n, dP g C f n = some m → ∃ c, c < n ∧ f c = some m
 | 0, h => by cases h
 | n + 1, h => by
   simp only [dP] at h
   split at h
   ·cases h1 : dP g C f n with
    | none =>
      rw [h1] at h
      exact ⟨n, Nat.lt_succ_self n, h⟩
    | some a =>
      rw [h1] at h
      cases h2 : f n with
      | none =>
        rw [h2] at h
        simp only [comb, Option.some.injEq] at h
        subst h
        obtain ⟨c, hc, e⟩ := dP_ex n h1
        exact ⟨c, by omega, e⟩
      | some b =>
        rw [h2] at h
        simp only [comb, Option.some.injEq] at h
        by_cases e : a ≤ b
        ·rw [Int.min_eq_left e] at h
         subst h
         obtain ⟨c, hc, e⟩ := dP_ex n h1
         exact ⟨c, by omega, e⟩
        ·rw [Int.min_eq_right (by omega)] at h
         subst h
         exact ⟨n, Nat.lt_succ_self n, h2⟩
   ·obtain ⟨c, hc, e⟩ := dP_ex n h
    exact ⟨c, by omega, e⟩
theorem grd_ex {g : Gg} {m : Int} {n : Nat} {b : List Int} (hb : b.length < g.N) (h : dO g g.F g.A (n + 1) b = some m) : ∃ c, c < g.cw.length ∧ dO g g.F g.A n (b ++ [(c : Int)]) = some m := by
 rw [dO_in (F_bit g hb)] at h
 exact dP_ex _ h
theorem grd_hit {g : Gg} {m : Int} {n c : Nat} {b : List Int} (hc : c < g.cw.length) (h : dO g g.F g.A n (b ++ [(c : Int)]) = some m) (hn : ∀ d, d < c → ¬ dO g g.F g.A n (b ++ [(d : Int)]) = some m) :
  grdD g m (n + 1) b = grdD g m n (b ++ [(c : Int)]) := by
 have e : (List.range g.cw.length).find? (fun c : Nat => decide (dO g g.F g.A n (b ++ [(c : Int)]) = some m)) = some c := by
  rw [List.find?_range_eq_some]
  exact ⟨by simpa using h, List.mem_range.2 hc, fun j hj => by simpa using hn j hj⟩
 simp only [grdD]
 rw [e]
theorem dV_eq {g : Gg} (k : OkG g) {S C n : Nat} {b : List Int} (hb : b.length + n = g.N) {m : Int} (hm : m < 10000) : dV (dO g S C n b) = m ↔ dO g S C n b = some m := by
 cases h : dO g S C n b with
 | none =>
   show (10000 : Int) = m ↔ none = some m
   constructor
   ·intro e; omega
   ·intro e; cases e
 | some t =>
   show t = m ↔ some t = some m
   rw [Option.some.injEq]
end Go.Proofs.YtdopkbldjagmlaaGreat
end
section
set_option linter.unusedVariables false
set_option linter.unusedSimpArgs false
set_option maxHeartbeats 2000000
set_option maxRecDepth 100000
namespace Go.Proofs.YtdopkbldjagmlaaGreat
open Go.V
def dealE (g : Gg) : Int := if errG g true = 0 then if (dO g g.F g.A g.N []).isSome = true then 0 else 4 else errG g true
def dealH (g : Gg) : Int := if dealE g = 0 then dV (dO g g.F g.A g.N []) else 0
def dealL (g : Gg) : List Int := if dealE g = 0 then grdD g (dealH g) g.N [] else []
def dealR (g : Gg) (H : Hp) : Res → Hp → Prop := fun r H' => (¬ dealE g = 0 ∧ r = .ret (.tuple [i64 0, .lit (.slice none 0 0), i64 (dealE g)]) ∧ H' = H) ∨
 dealE g = 0 ∧ ∃ id, H id = none ∧ r = .ret (.tuple [i64 (dealH g), .sl id 1 (dealL g).length, i64 0]) ∧ H' = H.set id (.row 1 (dealL g).length (intF (dealL g)))
theorem hsub_none {A B : Hp} {i : Nat} (h : Go.V.HSub A B) (ha : A i = none) : B i = none := by
 cases hb : B i with
 | none => rfl
 | some o =>
   obtain ⟨o', q, _⟩ := h i o hb
   rw [ha] at q
   cases q
theorem wdealM_tri (g : Gg) (H : Hp) (kn : NearG g) : Tri Tryz.prog (fnA 21) [g.av] H (dealR g H) := by
 refine Tri.drop ?_
 refine tri_am (m := mset [9]) gans Tryz.func21 (by kernel_rfl) rfl (by simp only [List.length_append, List.length_cons, List.length_nil, Tryz.ntmps21]; decide) ?_
 simp only [vsAll, loadA, loadRow, partA, partOk, boxA, boxZ, okAll, stAll, opsA, opA, allocA, dstOk, nilSliceOp, argFr, Nat.reduceAdd, Nat.reduceLT, Nat.reduceEqDiff, Nat.reduceBEq, ↓reduceIte, eq_self, wtAll, Tryz.ntmps21]
 intro i4 hh_i4; (try simp only [Hp.set_none, ite_none] at hh_i4)
 refine gopen_call (openG_tri g _ true _ kn trivial rfl (fun k H' id ho => galways_tri (.ref id 0 8 0 0) H' id)) (fun he => ?_) (fun k hv => ?_)
 ·have e : dealE g = errG g true := if_neg he
  simp only [vsAll, loadA, loadRow, partA, partOk, resA, retA.eq_2, Nat.reduceEqDiff, ↓reduceIte, eq_self, wtAll, Tryz.results21]
  refine ⟨errG g true, i4, _, rfl, rfl, by simp only [↓reduceIte, eq_self]; try rfl, ?_⟩
  simp only [vsAll, Nat.reduceLT, ↓reduceIte, eq_self]
  refine ⟨H, by (repeat (first | exact HSub_rfl | refine HSub_put_eq (by simp only [vsAll, ↓reduceIte, eq_self, reduceCtorEq, Nat.reduceEqDiff, hh_i4]) ?_ | refine HSub_drop2 (by simp only [eq_self, hh_i4]) ?_ | refine HSub_keep_eq (by simp only [vsAll, ↓reduceIte, eq_self, reduceCtorEq, Nat.reduceEqDiff, hh_i4]) ?_)), .inl ⟨by rw [e]; exact he, ?_, rfl⟩⟩
  rw [e]
 ·have he : errG g true = 0 := errG_ok k
  have nC := k.nC
  have nS := k.nS
  have hN : g.N ≤ 5 := nS
  have hNe : g.sm.length = g.N := rfl
  have hF5 : g.F < 32 := by
   have := Nat.pow_le_pow_right (n := 2) (by decide) nS
   unfold Gg.F Gg.N
   ((try clear hh_i4); omega)
  have hA5 : g.A < 32 := by
   have := Nat.pow_le_pow_right (n := 2) (by decide) (show g.cw.length ≤ 5 by ((try clear hh_i4); omega))
   unfold Gg.A
   ((try clear hh_i4); omega)
  have eF : 2 ^ g.sm.length - 1 = g.F := rfl
  have eA : 2 ^ g.cw.length - 1 = g.A := rfl
  simp only [vsAll, opA, dstOk, nilSliceOp, Nat.reduceLT, Nat.reduceBEq, ↓reduceIte, eq_self]
  refine vs_draw2 [0, 0, 0, 0, 0, 0, 0, 0, 0, 0, 0, 0, 0, 0, 0, 0, 0, 1, 2] [([0, 1, 2, 3, 4, 5, 6, 7, 8, 9, 10, 11, 12, 13, 14, 15, 16], [], 17)] [18] (by decide +kernel) ?_
  simp only [vsAll, loadA, loadRow, partA, partOk, fieldAddrA, lenA, nilCheckA, opA, dstOk, Nat.reduceLT, Nat.reduceEqDiff, ↓reduceIte, eq_self, wtAll]
  refine qcall _ ⟨trivial, by simp only [vsAll, okAll, opsA, opA, ↓reduceIte, eq_self], every_tri g.sm.length _ nS⟩ ?_
  simp only [vsAll, loadA, loadRow, partA, partOk, fieldAddrA, lenA, nilCheckA, opA, dstOk, Nat.reduceLT, Nat.reduceEqDiff, ↓reduceIte, eq_self, wtAll]
  refine qcall _ ⟨trivial, by simp only [vsAll, okAll, opsA, opA, ↓reduceIte, eq_self], every_tri g.cw.length _ (by ((try clear hh_i4); omega))⟩ ?_
  simp only [vsAll, opA, dstOk, Nat.reduceLT, Nat.reduceEqDiff, ↓reduceIte, eq_self]
  refine qcall _ ⟨trivial, by simp only [vsAll, okAll, opsA, opA, ↓reduceIte, eq_self], tables_tri g _ k⟩ ?_
  rw [eF, eA]
  simp only [vsAll, okAll, stAll, opsA, opA, dstOk, Nat.reduceLT, Nat.reduceEqDiff, ↓reduceIte, eq_self]
  refine callK (deals_tri g g.F g.A _) ?_
  rintro r H' ⟨j9, j10, im, rfl, hfr, hd, rfl⟩
  have h0t := told0_tri (H := H.set i4 (.box 1 1 fun _ => [i64 0])) k hF5 hA5 hd (X := H)
  have hsub := deH_sub (g := g) (S := g.F) (C := g.A) hfr
  have h9 : deH g g.F g.A (H.set i4 (.box 1 1 fun _ => [i64 0])) im j9 j10 j9 = some (.box 1 1 fun _ => [.map im]) := by rw [deH, Hp.set_ne _ _ hd.2.2.2, Hp.set_same]
  have h10 : deH g g.F g.A (H.set i4 (.box 1 1 fun _ => [i64 0])) im j9 j10 j10 = some (.box 1 1 fun _ => [deF g g.F g.A j9 j10]) := by rw [deH, Hp.set_same]
  have hm : deH g g.F g.A (H.set i4 (.box 1 1 fun _ => [i64 0])) im j9 j10 im = some (.memo (mmT g g.F g.A)) := by rw [deH, Hp.set_ne _ _ hd.2.1.2, Hp.set_ne _ _ hd.1.2, Hp.set_same]
  have h4 : deH g g.F g.A (H.set i4 (.box 1 1 fun _ => [i64 0])) im j9 j10 i4 = some (.box 1 1 fun _ => [i64 0]) := by
   have n1 := ne_some hfr.2.2 (Hp.set_same H i4 (.box 1 1 fun _ => [i64 0]))
   have n2 := ne_some hfr.2.1 (Hp.set_same H i4 (.box 1 1 fun _ => [i64 0]))
   have n3 := ne_some hfr.1 (Hp.set_same H i4 (.box 1 1 fun _ => [i64 0]))
   rw [deH, Hp.set_ne _ _ n1.2, Hp.set_ne _ _ n2.2, Hp.set_ne _ _ n3.2, Hp.set_same]
  have hsubH := Go.V.HSub.trans hsub (HSub_drop2 hh_i4 HSub_rfl)
  generalize deH g g.F g.A (H.set i4 (.box 1 1 fun _ => [i64 0])) im j9 j10 = X at h0t hsub h9 h10 hm h4 hsubH ⊢
  skip
  simp only [vsAll, loadA, loadRow, okAll, stAll, opsA, opA, allocA, dstOk, Nat.reduceLT, Nat.reduceEqDiff, ↓reduceIte, eq_self, wtAll]
  intro i7 hh_i7; (try simp only [Hp.set_none, ite_none] at hh_i7)
  have a1 := ne_some hh_i7 h9
  have a2 := ne_some hh_i7 h10
  have a3 := ne_some hh_i7 hm
  have a4 := ne_some hh_i7 h4
  have hn7 : H i7 = none := hsub_none hsubH hh_i7
  skip
  refine callK_pure (toldG_tri (im := im) (i9 := j9) (i10 := j10) k hF5 hA5 g.N [] (Nat.zero_add _) (by simp only [vsAll, ↓reduceIte, eq_self, h9, a1]) (by simp only [vsAll, ↓reduceIte, eq_self, h10, a2]) (by simp only [vsAll, ↓reduceIte, eq_self, hm, a3])) ?_
  have hdv := dV_le k (S := g.F) (C := g.A) (n := g.N) (b := []) (Nat.zero_add _)
  simp only [vsAll, binA, binLitA, intA, okAll, stAll, opsA, opA, dstOk, nilSliceOp, Nat.reduceLT, Nat.reduceBEq, ↓reduceIte, eq_self]
  refine gask_call (fun hr => ?_) (fun hr => ?_)
  ·rw [decide_eq_true_eq] at hr
   have hs := hdv.2.2.1 hr
   have hE : dealE g = 0 := by unfold dealE; rw [if_pos he, if_pos hs]
   have hH : dealH g = dV (dO g g.F g.A g.N []) := if_pos hE
   have hL : dealL g = grdD g (dealH g) g.N [] := if_pos hE
   obtain ⟨m, hmm⟩ := Option.isSome_iff_exists.1 hs
   have hV : dV (dO g g.F g.A g.N []) = m := by rw [hmm]; rfl
   rw [hV] at hdv hH hr
   simp only [vsAll, loadA, loadRow, partA, partOk, fieldAddrA, lenA, nilCheckA, opA, dstOk, Nat.reduceLT, Nat.reduceEqDiff, Nat.reduceBEq, ↓reduceIte, eq_self, wtAll, Go.V.nilA, hV]
   intro i9 hh_i9; (try simp only [ite_none] at hh_i9)
   have b1 := ne_some hh_i9.2 h9
   have b2 := ne_some hh_i9.2 h10
   have b3 := ne_some hh_i9.2 hm
   have b4 := ne_some hh_i9.2 h4
   have hn9 : H i9 = none := hsub_none hsubH hh_i9.2
   skip
   refine vs_loop (σ := List Int) (fun b => b.length ≤ g.N ∧ dO g g.F g.A (g.N - b.length) b = some m ∧ grdD g m (g.N - b.length) b = grdD g m g.N []) (fun b => [(4, .ref i4 0 1 0 0), (5, gP g), (6, deF g g.F g.A j9 j10), (7, .ref i7 0 1 0 0), (8, i64 m), (9, .sl i9 1 b.length), (44, i64 g.N), (45, i64 b.length)]) (fun b => (X.set i7 (.box 1 3 (dlF b))).set i9 (.row 1 b.length (intF b))) (fun b => g.N - b.length) [] ⟨Nat.zero_le _, hmm, rfl⟩ ?_ ?_ fun b hb => ?_
   ·simp only [vsAll, Nat.reduceEqDiff, ↓reduceIte, eq_self, hNe, Int.natCast_zero]
   ·refine HSub_put (o' := .row 1 0 fun _ => []) (by simp only [vsAll, ↓reduceIte, eq_self]) (row0_le _ _ _) ?_
    refine HSub_put (o' := .box 1 3 fun _ => [u64 0]) (by simp only [vsAll, ↓reduceIte, eq_self, hh_i9]) (box_ext fun q _ => rfl) ?_
    exact HSub_drop2 hh_i9.2 (HSub_drop2 hh_i7 HSub_rfl)
   ·obtain ⟨hb1, hb2, hb3⟩ := hb
    simp only [vsAll, binA, binLitA, intA, opA, dstOk, Nat.reduceLT, Nat.reduceEqDiff, ↓reduceIte, eq_self]
    refine condD (fun hd1 => ?_) (fun hd1 => ?_)
    ·have hbs : b.length < g.N := by ((try clear hh_i4 h9 h10 hm h4 hh_i7 a1 a2 a3 a4 hh_i9 b1 b2 b3 b4); omega)
     obtain ⟨n, hn⟩ : ∃ n, g.N - b.length = n + 1 := ⟨g.N - b.length - 1, by ((try clear hh_i4 h9 h10 hm h4 hh_i7 a1 a2 a3 a4 hh_i9 b1 b2 b3 b4); omega)⟩
     rw [hn] at hb2 hb3
     simp only [vsAll, loadA, loadRow, partA, partOk, fieldAddrA, lenA, nilCheckA, opA, dstOk, nilSliceOp, Nat.reduceLT, Nat.reduceEqDiff, Nat.reduceBEq, ↓reduceIte, eq_self, wtAll]
     refine vs_loop (σ := Nat) (fun j => j ≤ g.cw.length ∧ ∀ d, d < j → ¬ dO g g.F g.A n (b ++ [(d : Int)]) = some m) (fun j => [(4, .ref i4 0 1 0 0), (5, gP g), (6, deF g g.F g.A j9 j10), (7, .ref i7 0 1 0 0), (8, i64 m), (9, .sl i9 1 b.length), (10, i64 b.length), (44, i64 g.N), (45, i64 b.length), (53, i64 g.cw.length), (54, i64 j)]) (fun _ => (X.set i7 (.box 1 3 (dlF b))).set i9 (.row 1 b.length (intF b))) (fun j => g.cw.length - j) 0 ⟨Nat.zero_le _, fun d hd => absurd hd (Nat.not_lt_zero d)⟩ ?_ HSub_rfl fun j hj => ?_
     ·simp only [vsAll, Nat.reduceEqDiff, ↓reduceIte, eq_self, Int.natCast_zero]
     ·obtain ⟨hj1, hj2⟩ := hj
      simp only [vsAll, binA, binLitA, intA, opA, dstOk, Nat.reduceLT, Nat.reduceEqDiff, ↓reduceIte, eq_self]
      refine condD (fun hd2 => ?_) (fun hd2 => ?_)
      ·have hjs : j < g.cw.length := by ((try clear hh_i4 h9 h10 hm h4 hh_i7 a1 a2 a3 a4 hh_i9 b1 b2 b3 b4); omega)
       have hb32 := crS32 (b := b) (by ((try clear hh_i4 h9 h10 hm h4 hh_i7 a1 a2 a3 a4 hh_i9 b1 b2 b3 b4); omega)) j
       have ed : updF 3 j (dlF b) [u64 ((crS b j ||| 2 ^ b.length : Nat) : Int)] = dlF (b ++ [(j : Int)]) := by
        funext c
        show (if c = j then _ else _) = _
        unfold dlF
        rw [crS_snoc]
        by_cases e : c = j
        ·subst e; rw [if_pos rfl, if_pos rfl]
        ·rw [if_neg e, if_neg (by ((try clear hh_i4 h9 h10 hm h4 hh_i7 a1 a2 a3 a4 hh_i9 b1 b2 b3 b4); omega))]
       have el : ((b ++ [(j : Int)]).length : Int) = (b.length : Int) + 1 := by simp
       have htl := fun Y => toldG_tri (im := im) (i9 := j9) (i10 := j10) (H := Y) k hF5 hA5 n (b ++ [(j : Int)]) (by rw [List.length_append, List.length_cons, List.length_nil]; ((try clear hh_i4 h9 h10 hm h4 hh_i7 a1 a2 a3 a4 hh_i9 b1 b2 b3 b4); omega))
       rw [el] at htl
       have hde := dV_eq k (S := g.F) (C := g.A) (n := n) (b := b ++ [(j : Int)]) (by rw [List.length_append, List.length_cons, List.length_nil]; ((try clear hh_i4 h9 h10 hm h4 hh_i7 a1 a2 a3 a4 hh_i9 b1 b2 b3 b4); omega)) hr
       simp only [vsAll, loadA, loadRow, partA, partOk, indexAddrA, okAll, stAll, opsA, opA, allocA, storeObj, dstOk, nilSliceOp, Nat.reduceMul, Nat.reduceLT, Nat.reduceEqDiff, Nat.reduceBEq, ↓reduceIte, eq_self, wtAll, hh_i9]
       intro i12 hh_i12; (try simp only [ite_none] at hh_i12)
       simp only [vsAll, cellA, okCells, implies_true, eq_self, dlF_at]
       have c1 := ne_some hh_i12.2.2 h9
       have c2 := ne_some hh_i12.2.2 h10
       have c3 := ne_some hh_i12.2.2 hm
       have c4 := ne_some hh_i12.2.2 h4
       skip
       refine ⟨⟨by ((try clear hh_i4 h9 h10 hm h4 hh_i7 a1 a2 a3 a4 hh_i9 b1 b2 b3 b4 hh_i12 c1 c2 c3 c4); omega), by ((try clear hh_i4 h9 h10 hm h4 hh_i7 a1 a2 a3 a4 hh_i9 b1 b2 b3 b4 hh_i12 c1 c2 c3 c4); omega)⟩, by ((try clear hh_i4 h9 h10 hm h4 hh_i7 a1 a2 a3 a4 hh_i9 b1 b2 b3 b4 hh_i12 c1 c2 c3 c4); omega), ?_⟩
       refine callK_pure (with_tri (crS b j) b.length _ (by ((try clear hh_i4 h9 h10 hm h4 hh_i7 a1 a2 a3 a4 hh_i9 b1 b2 b3 b4 hh_i12 c1 c2 c3 c4); omega)) (by ((try clear hh_i4 h9 h10 hm h4 hh_i7 a1 a2 a3 a4 hh_i9 b1 b2 b3 b4 hh_i12 c1 c2 c3 c4); omega))) ?_
       simp only [vsAll, binA, binLitA, intA, loadA, loadRow, indexAddrA, cellA, cellsA, okAll, stAll, opsA, opA, newCells, okCells, storeObj, dstOk, Nat.reduceLT, Nat.reduceEqDiff, ↓reduceIte, eq_self, wtAll, dlF_at]
       rw [ed, Hp.set_set, Hp.set_set]
       refine ⟨⟨by ((try clear hh_i4 h9 h10 hm h4 hh_i7 a1 a2 a3 a4 hh_i9 b1 b2 b3 b4 hh_i12 c1 c2 c3 c4); omega), by ((try clear hh_i4 h9 h10 hm h4 hh_i7 a1 a2 a3 a4 hh_i9 b1 b2 b3 b4 hh_i12 c1 c2 c3 c4); omega)⟩, by ((try clear hh_i4 h9 h10 hm h4 hh_i7 a1 a2 a3 a4 hh_i9 b1 b2 b3 b4 hh_i12 c1 c2 c3 c4); omega), by simp only [InR_i64]; ((try clear hh_i4 h9 h10 hm h4 hh_i7 a1 a2 a3 a4 hh_i9 b1 b2 b3 b4 hh_i12 c1 c2 c3 c4); omega), ?_⟩
       refine callK_pure (htl _ (by simp only [vsAll, ↓reduceIte, eq_self, h9, a1, b1, c1]) (by simp only [vsAll, ↓reduceIte, eq_self, h10, a2, b2, c2]) (by simp only [vsAll, ↓reduceIte, eq_self, hm, a3, b3, c3])) ?_
       have ecd : decide (dV (dO g g.F g.A n (b ++ [(j : Int)])) = m) = decide (dO g g.F g.A n (b ++ [(j : Int)]) = some m) := decide_eq_decide.2 hde
       simp only [vsAll, binA, binLitA, intA, opA, dstOk, Nat.reduceLT, Nat.reduceEqDiff, ↓reduceIte, eq_self, ecd]
       refine condV (fun hc => ?_) (fun hc => ?_)
       ·rw [decide_eq_true_eq] at hc
        simp only [vsAll]
        refine vs_draw2 [0, 0, 0, 1, 0, 3, 5] [([0, 1, 2, 4], [4], 3), ([], [4], 5), ([], [], 6)] [] (by decide +kernel) ?_
        simp only [vsAll, binA, binLitA, intA, loadA, loadRow, cellA, cellsA, okParts, buildSliceA, partIdx, elemsA, lensA, partsA, partsOk, opA, storeObj, appendA, dstOk, nilSliceOp, Nat.reduceMul, Nat.reduceLT, Nat.reduceLeDiff, Nat.reduceEqDiff, Nat.reduceBEq, ↓reduceIte, eq_self, wtAll, hh_i9, hh_i12]
        have hgh := grd_hit hjs hc hj2
        have hlen : (b ++ [(j : Int)]).length = b.length + 1 := by simp
        refine ⟨fun q hq => by (have : q = 0 := by ((try clear hh_i4 h9 h10 hm h4 hh_i7 a1 a2 a3 a4 hh_i9 b1 b2 b3 b4 hh_i12 c1 c2 c3 c4); omega)); subst this; simp only [vsAll, cellA, okCells, eq_self], by ((try clear hh_i4 h9 h10 hm h4 hh_i7 a1 a2 a3 a4 hh_i9 b1 b2 b3 b4 hh_i12 c1 c2 c3 c4); omega), by ((try clear hh_i4 h9 h10 hm h4 hh_i7 a1 a2 a3 a4 hh_i9 b1 b2 b3 b4 hh_i12 c1 c2 c3 c4); omega), fun q hq => ⟨rfl, trivial⟩, by simp only [InR_i64]; ((try clear hh_i4 h9 h10 hm h4 hh_i7 a1 a2 a3 a4 hh_i9 b1 b2 b3 b4 hh_i12 c1 c2 c3 c4); omega), loop_next (b ++ [(j : Int)]) ⟨?_, ?_, ?_⟩ ?_ ?_ ?_⟩
        ·rw [hlen]; ((try clear hh_i4 h9 h10 hm h4 hh_i7 a1 a2 a3 a4 hh_i9 b1 b2 b3 b4 hh_i12 c1 c2 c3 c4); omega)
        ·rw [hlen, show g.N - (b.length + 1) = n by ((try clear hh_i4 h9 h10 hm h4 hh_i7 a1 a2 a3 a4 hh_i9 b1 b2 b3 b4 hh_i12 c1 c2 c3 c4); omega)]; exact hc
        ·rw [hlen, show g.N - (b.length + 1) = n by ((try clear hh_i4 h9 h10 hm h4 hh_i7 a1 a2 a3 a4 hh_i9 b1 b2 b3 b4 hh_i12 c1 c2 c3 c4); omega), ← hgh]; exact hb3
        ·rw [hlen]; ((try clear hh_i4 h9 h10 hm h4 hh_i7 a1 a2 a3 a4 hh_i9 b1 b2 b3 b4 hh_i12 c1 c2 c3 c4); omega)
        ·simp only [vsAll, Nat.reduceEqDiff, ↓reduceIte, eq_self, hlen, Int.natCast_add, Int.natCast_one]
         try exact AV.Le.refl _
        ·rw [hlen, app_ints b (j : Int) _ rfl]
         (repeat (first | exact HSub_rfl | refine HSub_put_eq (by simp only [vsAll, ↓reduceIte, eq_self, hh_i9]) ?_ | refine HSub_drop2 (by simp only [eq_self, hh_i7, hh_i9, hh_i12]) ?_ | refine HSub_keep_eq (by simp only [vsAll, ↓reduceIte, eq_self, reduceCtorEq, Nat.reduceEqDiff, hh_i4, h9, h10, hm, h4, hh_i7, a1, a2, a3, a4, hh_i9, b1, b2, b3, b4, hh_i12, c1, c2, c3, c4]) ?_))
       ·rw [decide_eq_false_iff_not] at hc
        simp only [vsAll, binA, binLitA, intA, opA, dstOk, Nat.reduceLT, Nat.reduceEqDiff, ↓reduceIte, eq_self]
        refine ⟨by simp only [InR_i64]; ((try clear hh_i4 h9 h10 hm h4 hh_i7 a1 a2 a3 a4 hh_i9 b1 b2 b3 b4 hh_i12 c1 c2 c3 c4); omega), loop_next (j + 1) ⟨by ((try clear hh_i4 h9 h10 hm h4 hh_i7 a1 a2 a3 a4 hh_i9 b1 b2 b3 b4 hh_i12 c1 c2 c3 c4); omega), fun d hd => ?_⟩ (by ((try clear hh_i4 h9 h10 hm h4 hh_i7 a1 a2 a3 a4 hh_i9 b1 b2 b3 b4 hh_i12 c1 c2 c3 c4); omega)) ?_ (by (repeat (first | exact HSub_rfl | refine HSub_put_eq (by simp only [vsAll, ↓reduceIte, eq_self, hh_i9, hh_i12]) ?_ | refine HSub_drop2 (by simp only [eq_self, hh_i7, hh_i9, hh_i12]) ?_ | refine HSub_keep_eq (by simp only [vsAll, ↓reduceIte, eq_self, reduceCtorEq, Nat.reduceEqDiff, hh_i4, h9, h10, hm, h4, hh_i7, a1, a2, a3, a4, hh_i9, b1, b2, b3, b4, hh_i12, c1, c2, c3, c4]) ?_)))⟩
        ·by_cases e : d = j
         ·subst e; exact hc
         ·exact hj2 d (by ((try clear hh_i4 h9 h10 hm h4 hh_i7 a1 a2 a3 a4 hh_i9 b1 b2 b3 b4 hh_i12 c1 c2 c3 c4); omega))
        ·simp only [vsAll, Nat.reduceEqDiff, ↓reduceIte, eq_self, Int.natCast_add, Int.natCast_one]
      ·have hjm : j = g.cw.length := by ((try clear hh_i4 h9 h10 hm h4 hh_i7 a1 a2 a3 a4 hh_i9 b1 b2 b3 b4); omega)
       subst hjm
       obtain ⟨c, hc, e⟩ := grd_ex hbs hb2
       exact absurd e (hj2 c hc)
    ·have hbl : b.length = g.N := by ((try clear hh_i4 h9 h10 hm h4 hh_i7 a1 a2 a3 a4 hh_i9 b1 b2 b3 b4); omega)
     have hbe : b = dealL g := by
      rw [hL, hH, ← hb3, hbl, Nat.sub_self]; rfl
     simp only [vsAll, loadA, loadRow, partA, partOk, cellA, cellsA, opA, newCells, okCells, storeObj, dstOk, nilSliceOp, resA, retA.eq_2, Nat.reduceLT, Nat.reduceEqDiff, Nat.reduceBEq, ↓reduceIte, eq_self, wtAll, Tryz.results21, h4, a4, b4]
     refine ⟨i4, _, rfl, by simp only [↓reduceIte, eq_self]; try rfl, ?_⟩
     refine ⟨H.set i9 (.row 1 (dealL g).length (intF (dealL g))), ?_, .inr ⟨hE, i9, hn9, by rw [hH, ← hbe], rfl⟩⟩
     rw [← hbe]
     exact HSub_put_eq (by simp only [vsAll, ↓reduceIte, eq_self, b4]) (HSub_drop2 hh_i4 (HSub_drop2 hn9 (HSub_drop2 hn7 hsubH)))
  ·rw [decide_eq_false_iff_not, hdv.2.2] at hr
   have hE : dealE g = 4 := by unfold dealE; rw [if_pos he, if_neg hr]
   simp only [vsAll, loadA, loadRow, partA, partOk, resA, retA.eq_2, Nat.reduceEqDiff, ↓reduceIte, eq_self, wtAll, Tryz.results21, h4, a4]
   refine ⟨4, i4, _, rfl, rfl, by simp only [↓reduceIte, h4, a4]; try rfl, ?_⟩
   simp only [vsAll, Nat.reduceLT, ↓reduceIte, eq_self]
   refine ⟨H, ?_, .inl ⟨by rw [hE]; decide, by rw [hE], rfl⟩⟩
   exact HSub_drop2 hh_i4 (HSub_drop2 hn7 hsubH)
theorem wdeal_tri (g : Gg) (H : Hp) (kn : NearG g) : PTri Tryz.prog (fnA 21) [g.av] H (.tuple [i64 (dealH g), intsAV (dealL g), i64 (dealE g)]) := by
 have h1 : Tri Tryz.prog (fnA 21) [g.av] H fun r H' => H' = H ∧ ((¬ dealE g = 0 ∧ r = .ret (.tuple [i64 0, .lit (.slice none 0 0), i64 (dealE g)])) ∨ r = .ret (.tuple [i64 (dealH g), intsAV (dealL g), i64 (dealE g)])) := by
  refine Tri.thaw (wdealM_tri g H kn) ?_
  rintro r H' (⟨h1, rfl, rfl⟩ | ⟨h1, id, hid, rfl, rfl⟩)
  ·exact .inl ⟨rfl, .inl ⟨h1, rfl⟩⟩
  ·right
   refine ⟨_, id, 1, _, _, 1, rfl, Hp.set_same _ _ _, by simp, rfl, set_del hid, .inr ?_⟩
   rw [h1]; rfl
 refine Tri.resLe h1 fun r H' h => ?_
 obtain ⟨rfl, ⟨h2, rfl⟩ | rfl⟩ := h
 ·right
  refine ⟨_, .tuple [i64 (dealH g), intsAV (dealL g), i64 (dealE g)], rfl, AV.Le.tupleD rfl fun j hj => ?_, rfl, rfl⟩
  have e1 : dealH g = 0 := if_neg h2
  have e2 : dealL g = [] := if_neg h2
  rw [e1, e2]
  match j, hj with
  | 0, _ => exact AV.Le.refl _
  | 1, _ => exact AV.Le.nil _ _
  | 2, _ => exact AV.Le.refl _
 ·exact .inl ⟨rfl, rfl⟩
end Go.Proofs.YtdopkbldjagmlaaGreat
end
section
set_option linter.unusedVariables false
set_option linter.unusedSimpArgs false
set_option maxHeartbeats 4000000
set_option maxRecDepth 100000
namespace Go.Proofs.YtdopkbldjagmlaaGreat
open Go.V
def hotN (g : Gg) (i : Nat) : List Int := (List.range i).map fun i => ((hotV g.pt true i ((bestP g.pt).getD i (0, 0)).2.toNat : Nat) : Int)
theorem hotN_len (g : Gg) (i : Nat) : (hotN g i).length = i := by simp [hotN]
theorem hotN_succ (g : Gg) (i : Nat) : hotN g (i + 1) = hotN g i ++ [((hotV g.pt true i ((bestP g.pt).getD i (0, 0)).2.toNat : Nat) : Int)] := by simp [hotN, List.range_succ]
theorem dhotM_tri (g : Gg) (H : Hp) (k : OkG g) : Tri Tryz.prog (fnA 44) [g.av] H fun r H' => (¬ rgtE g.pt true = 0 ∧ r = .ret (.lit (.slice none 0 0)) ∧ H' = H) ∨ (rgtE g.pt true = 0 ∧ ∃ id, H id = none ∧ r = .ret (.sl id 1 (hotL g).length) ∧ H' = H.set id (.row 1 (hotL g).length (intF (hotL g)))) := by
 have kp := k.p
 refine Tri.drop ?_
 refine tri_v0 (mset [6]) Tryz.func44 (by kernel_rfl) rfl (by simp only [List.length_append, List.length_cons, List.length_nil, Tryz.ntmps44]; decide) ?_
 simp only [vsAll, loadA, loadRow, partA, partOk, fieldAddrA, boxA, boxZ, okAll, stAll, opsA, opA, dstOk, nilSliceOp, argFr, Nat.reduceAdd, Nat.reduceLT, Nat.reduceEqDiff, Nat.reduceBEq, ↓reduceIte, eq_self, wtAll, Tryz.ntmps44]
 refine callK_pure (rbest_tri g.pt _ kp.near) ?_
 by_cases he : rgtE g.pt true = 0
 ·have hb : RightP g.pt (bestP g.pt) := best_mem he
  have hbl := hb.len
  have nP := kp.nP
  have e4 : bestA g.pt = plsAV (bestP g.pt) := if_pos he
  have eL : hotL g = hotN g (bestP g.pt).length := if_pos he
  have hc : decide (rgtE g.pt true = 0) = true := decide_eq_true he
  rw [e4, he]
  simp only [vsAll, binA, binLitA, intA, extractA, opA, dstOk, nilSliceOp, Nat.reduceAdd, Nat.reduceLT, Nat.reduceEqDiff, Nat.reduceBEq, ↓reduceIte, eq_self, wtAll, Go.V.nilA]
  intro i6 hh_i6; (try simp only [Hp.set_none, ite_none] at hh_i6)
  refine vs_loop (σ := Nat) (fun i => i ≤ (bestP g.pt).length) (fun i => [(1, gptr g), (4, plsAV (bestP g.pt)), (6, .sl i6 1 i), (7, i64 i)]) (fun i => H.set i6 (.row 1 i (intF (hotN g i)))) (fun i => (bestP g.pt).length - i) 0 (Nat.zero_le _) ?_ ?_ fun i hi => ?_
  ·simp only [vsAll, Nat.reduceEqDiff, ↓reduceIte, eq_self, Int.natCast_zero]
   try exact AV.Le.refl _
  ·exact HSub.set (HSub.refl _) (row_ext fun q hq => absurd hq (by ((try clear hh_i6); omega)))
  ·simp only [vsAll, binA, binLitA, intA, lenA, opA, dstOk, Nat.reduceLT, Nat.reduceEqDiff, ↓reduceIte, eq_self, wtAll]
   refine condD (fun hd => ?_) (fun hd => ?_)
   ·have his : i < (bestP g.pt).length := by ((try clear hh_i6); omega)
    have hh := hb.hot kp his
    obtain ⟨f, t, e, hf, ht⟩ := place_nat (hb.pl i his)
    have e2 : ((bestP g.pt).getD i (0, 0)).2 = (t : Int) := by rw [e]
    have hn := hotN_succ g i
    rw [e2, Int.toNat_natCast] at hh hn
    have ea : aftV g.pt true i t = ((hotV g.pt true i t : Nat) : Int) := if_pos hh.2
    have hH := kp.H_eq
    have eap : appF i 1 (intF (hotN g i)) (fun q => [[AV.lit (.int .i64 ((hotV g.pt true i t : Nat) : Int))]].getD q []) = intF (hotN g (i + 1)) := by
     have h := app_ints (hotN g i) ((hotV g.pt true i t : Nat) : Int) (fun q => [[AV.lit (.int .i64 ((hotV g.pt true i t : Nat) : Int))]].getD q []) rfl
     rw [hotN_len] at h
     rw [hn]
     exact h
    simp only [vsAll]
    refine vs_draw2 [0, 0, 0, 0, 0, 0, 0, 0, 0, 0, 0, 1, 3] [([0, 1, 2, 3, 4, 5, 6, 7, 8, 9, 10], [], 11), ([], [], 12)] [] (by decide +kernel) ?_
    simp only [vsAll, loadA, loadRow, partA, partOk, fieldAddrA, indexAddrA, opA, dstOk, Nat.reduceAdd, Nat.reduceLT, Nat.reduceEqDiff, ↓reduceIte, eq_self, wtAll, plF_at, e2]
    refine ⟨⟨by ((try clear hh_i6); omega), by ((try clear hh_i6); omega)⟩, his, ?_⟩
    refine qcall _ ⟨trivial, by simp only [vsAll, okAll, opsA, opA, Nat.reduceEqDiff, ↓reduceIte, eq_self], rafter_tri g.pt i t true _ kp (by ((try clear hh_i6); omega)) (by ((try clear hh_i6); omega))⟩ ?_
    rw [ea]
    simp only [vsAll, binA, binLitA, intA, cellA, cellsA, okParts, buildSliceA, partIdx, elemsA, lensA, partsA, partsOk, opA, appendA, dstOk, nilSliceOp, Nat.reduceMul, Nat.reduceLT, Nat.reduceLeDiff, Nat.reduceEqDiff, Nat.reduceBEq, ↓reduceIte, eq_self, wtAll]
    rw [eap]
    refine ⟨fun q hq => by (have : q = 0 := by ((try clear hh_i6); omega)); subst this; exact ⟨rfl, trivial⟩, by ((try clear hh_i6); omega), by ((try clear hh_i6); omega), by simp only [InR_i64]; ((try clear hh_i6); omega), loop_next (i + 1) his (by ((try clear hh_i6); omega)) ?_ ?_⟩
    ·simp only [vsAll, Nat.reduceEqDiff, ↓reduceIte, eq_self, Int.natCast_add, Int.natCast_one]
    ·rw [Hp.set_set]; exact HSub_rfl
   ·have ei : i = (bestP g.pt).length := by ((try clear hh_i6); omega)
    subst ei
    have hl : (hotL g).length = (bestP g.pt).length := by rw [eL, hotN_len]
    simp only [vsAll, opA, dstOk, nilSliceOp, resA, retA.eq_1, Nat.reduceLT, Nat.reduceEqDiff, Nat.reduceBEq, ↓reduceIte, eq_self, Tryz.results44]
    refine ⟨H.set i6 (.row 1 (hotL g).length (intF (hotL g))), ?_, ⟨i6, hh_i6, by rw [hl], rfl⟩⟩
    rw [hl, eL]; exact HSub_rfl
 ·have hc : decide (rgtE g.pt true = 0) = false := decide_eq_false he
  have e4 : bestA g.pt = nilA := if_neg he
  rw [e4]
  simp only [vsAll, binA, binLitA, intA, extractA, opA, dstOk, nilA, nilSliceOp, resA, retA.eq_1, Nat.reduceAdd, Nat.reduceLT, Nat.reduceEqDiff, Nat.reduceBEq, ↓reduceIte, eq_self, Tryz.results44, hc]
  exact ⟨H, HSub_rfl, .inl ⟨he, rfl, rfl⟩⟩
theorem dhot_tri (g : Gg) (H : Hp) (k : OkG g) : PTri Tryz.prog (fnA 44) [g.av] H (intsAV (hotL g)) := by
 have h1 : Tri Tryz.prog (fnA 44) [g.av] H fun r H' => H' = H ∧ ((¬ rgtE g.pt true = 0 ∧ r = .ret (.lit (.slice none 0 0))) ∨ r = .ret (intsAV (hotL g))) := by
  refine Tri.thawX (dhotM_tri g H k) fun r H' hr => ?_
  rcases hr with ⟨h1, rfl, rfl⟩ | ⟨h1, id, hid, rfl, rfl⟩
  ·exact .inl ⟨rfl, .inl ⟨h1, rfl⟩⟩
  ·exact .inr ⟨_, intsAV (hotL g), id, 1, (hotL g).length, intF (hotL g), rfl, .inr ⟨Hp.set_same _ _ _, .leaf ⟨rfl, intF (hotL g), fun _ _ => rfl, rfl⟩⟩, set_del hid, .inr rfl⟩
 refine Tri.resLe h1 fun r H' h => ?_
 obtain ⟨rfl, ⟨h2, rfl⟩ | rfl⟩ := h
 ·right
  refine ⟨_, intsAV (hotL g), rfl, ?_, rfl, rfl⟩
  rw [hot_no h2]
  exact AV.Le.nil _ _
 ·exact .inl ⟨rfl, rfl⟩
theorem dbegin_tri (g : Gg) (n : Nat) (H : Hp) (k : OkG g) (hn : n < g.N) : PTri Tryz.prog (fnA 43) [g.av, intsAV (hotL g), i64 n] H (i64 (begV g n)) := by
 have nS := k.nS
 have hNe : g.N = g.sm.length := rfl
 have eS : g.sm.getD n sm0 = g.seam n := rfl
 have hs := k.seam hn
 unfold okS at hs
 refine Tri.drop ?_
 refine tri_v0 (fun _ => false) Tryz.func43 (by kernel_rfl) rfl (by simp only [List.length_append, List.length_cons, List.length_nil, Tryz.ntmps43]; decide) ?_
 simp only [vsAll, binA, binLitA, intA, loadA, loadRow, partA, partOk, fieldAddrA, indexAddrA, boxA, boxZ, cellA, opA, allocA, newCells, okCells, storeObj, dstOk, nilSliceOp, argFr, Nat.reduceAdd, Nat.reduceLT, Nat.reduceEqDiff, Int.reduceNeg, ↓reduceIte, eq_self, wtAll, Tryz.ntmps43, smF_at, eS]
 refine ⟨⟨by omega, by omega⟩, by omega, ?_⟩
 intro i7 hh_i7; (try simp only [Hp.set_none, ite_none] at hh_i7)
 refine condD (fun hc => ?_) (fun hc => ?_)
 ·have e : begV g n = (g.seam n).dr := by unfold begV; rw [if_pos hc]
  rw [e]
  simp only [vsAll, loadA, loadRow, partA, partOk, fieldAddrA, opA, dstOk, nilSliceOp, resA, retA.eq_1, Nat.reduceLT, Nat.reduceEqDiff, Int.reduceNeg, ↓reduceIte, eq_self, wtAll, Tryz.results43]
  exact dropR_pure rfl (by (repeat (first | exact HSub_rfl | refine HSub_put_eq (by simp only [vsAll, ↓reduceIte, eq_self, reduceCtorEq, Nat.reduceEqDiff, hh_i7]) ?_ | refine HSub_drop2 (by simp only [eq_self, hh_i7]) ?_ | refine HSub_keep_eq (by simp only [vsAll, ↓reduceIte, eq_self, reduceCtorEq, Nat.reduceEqDiff, hh_i7]) ?_)))
 ·simp only [vsAll, binA, binLitA, intA, lenA, opA, dstOk, argFr, Nat.reduceLT, Nat.reduceEqDiff, Int.reduceNeg, ↓reduceIte, eq_self, wtAll]
  refine condD (fun hd => ?_) (fun hd => ?_)
  ·have e : begV g n = -1 := by unfold begV; rw [if_neg hc, if_pos (by ((try clear hh_i7); omega))]
   rw [e]
   simp only [vsAll, opA, dstOk, nilSliceOp, resA, retA.eq_1, Nat.reduceLT, Int.reduceNeg, ↓reduceIte, eq_self, Tryz.results43]
   exact dropR_pure rfl (by (repeat (first | exact HSub_rfl | refine HSub_put_eq (by simp only [vsAll, ↓reduceIte, eq_self, reduceCtorEq, Nat.reduceEqDiff, hh_i7]) ?_ | refine HSub_drop2 (by simp only [eq_self, hh_i7]) ?_ | refine HSub_keep_eq (by simp only [vsAll, ↓reduceIte, eq_self, reduceCtorEq, Nat.reduceEqDiff, hh_i7]) ?_)))
  ·have e : begV g n = max (g.seam n).dr ((hotL g).getD (g.seam n).po.toNat 0) := by unfold begV; rw [if_neg hc, if_neg (by ((try clear hh_i7); omega))]
   rw [e]
   have hl : (hotL g).length = g.pt.ps.length := by
    by_cases h : rgtE g.pt true = 0
    ·exact hot_len h
    ·rw [hot_no h] at hd; exact absurd rfl hd
   simp only [vsAll]
   refine vs_draw2 [0, 0, 0, 0, 0, 0, 0, 0, 1] [([0, 1, 2, 3, 4, 5, 6, 7], [], 8)] [] (by decide +kernel) ?_
   simp only [vsAll, loadA, loadRow, partA, partOk, fieldAddrA, indexAddrA, mmA, okAll, stAll, opsA, opA, dstOk, nilSliceOp, resA, argFr, retA.eq_1, Nat.reduceLT, Nat.reduceEqDiff, ↓reduceIte, eq_self, wtAll, Tryz.results43, intF_at]
   exact ⟨⟨by ((try clear hh_i7); omega), by ((try clear hh_i7); omega)⟩, by ((try clear hh_i7); omega), dropR_pure rfl (by (repeat (first | exact HSub_rfl | refine HSub_put_eq (by simp only [vsAll, ↓reduceIte, eq_self, reduceCtorEq, Nat.reduceEqDiff, hh_i7]) ?_ | refine HSub_drop2 (by simp only [eq_self, hh_i7]) ?_ | refine HSub_keep_eq (by simp only [vsAll, ↓reduceIte, eq_self, reduceCtorEq, Nat.reduceEqDiff, hh_i7]) ?_)))⟩
end Go.Proofs.YtdopkbldjagmlaaGreat
end
section
set_option linter.unusedVariables false
set_option linter.unusedSimpArgs false
set_option maxHeartbeats 4000000
set_option maxRecDepth 100000
namespace Go.Proofs.YtdopkbldjagmlaaGreat
open Go.V
theorem dhas_tri (S n : Nat) (H : Hp) (hn : n ≤ 60) (hS : S < 2 ^ 60) : PTri Tryz.prog (fnA 91) [i64 S, i64 n] H (boo (S.testBit n)) := by
 refine tri_v0 (fun _ => false) Tryz.func91 (by kernel_rfl) rfl (by simp only [List.length_append, List.length_cons, List.length_nil, Tryz.ntmps91]; decide) ?_
 simp only [vsAll, okAll, stAll, opsA, opA, dstOk, nilSliceOp, argFr, Nat.reduceLT, Nat.reduceEqDiff, ↓reduceIte, reduceCtorEq, eq_self, Tryz.ntmps91]
 refine callK_pure (gpower_tri n H hn) ?_
 simp only [vsAll, binA, binLitA, intA, opA, dstOk, nilSliceOp, resA, retA.eq_1, Nat.reduceLT, Nat.reduceEqDiff, Int.reduceEq, ↓reduceIte, eq_self, ne_eq, Tryz.results91]
 have h0 : 0 < 2 ^ n := Nat.pos_of_ne_zero (by simp)
 have h1 : (S : Int).tdiv ((2 ^ n : Nat) : Int) = ((S / 2 ^ n : Nat) : Int) := by rw [Int.tdiv_eq_ediv_of_nonneg (by omega)]; rfl
 have h2 : S / 2 ^ n ≤ S := Nat.div_le_self _ _
 refine ⟨⟨by omega, ?_⟩, by rw [has_eq]⟩
 rw [h1, InR_i64]
 generalize S / 2 ^ n = q at *
 omega
theorem dtakes_tri (g : Gg) (n : Nat) (sp : Int) (H : Hp) (k : OkG g) (hn : n < g.N) (hsp : 1 ≤ sp ∧ sp ≤ 12) : PTri Tryz.prog (fnA 92) [g.av, i64 n, i64 sp] H (i64 (tkG g n sp)) := by
 have nS := k.nS
 have hNe : g.N = g.sm.length := rfl
 have eS : g.sm.getD n sm0 = g.seam n := rfl
 have hs := k.seam hn
 have ht := tk_le k hn hsp
 unfold okS at hs
 refine tri_v0 (fun _ => false) Tryz.func92 (by kernel_rfl) rfl (by simp only [List.length_append, List.length_cons, List.length_nil, Tryz.ntmps92]; decide) ?_
 simp only [vsAll, binA, binLitA, intA, loadA, loadRow, partA, partOk, fieldAddrA, indexAddrA, boxA, boxZ, opA, dstOk, nilSliceOp, resA, argFr, retA.eq_1, Nat.reduceAdd, Nat.reduceLT, Nat.reduceEqDiff, ↓reduceIte, eq_self, ne_eq, wtAll, Tryz.ntmps92, Tryz.results92, smF_at, eS]
 have ht2 : InR .i64 (((g.seam n).fa + sp - 1).tdiv sp) := by
  show InR .i64 (tkG g n sp)
  simp only [InR_i64]; omega
 exact ⟨⟨by omega, by omega⟩, by omega, by simp only [InR_i64]; omega, by simp only [InR_i64]; omega, ⟨by omega, ht2⟩, rfl⟩
def dnN (g : Gg) (sp : Int) (l : List Int) (i : Nat) : List Int := (List.range i).map fun j => donN g sp l (j + 1)
theorem dnN_len (g : Gg) (sp : Int) (l : List Int) (i : Nat) : (dnN g sp l i).length = i := by simp [dnN]
theorem dnN_succ (g : Gg) (sp : Int) (l : List Int) (i : Nat) : dnN g sp l (i + 1) = dnN g sp l i ++ [donN g sp l (i + 1)] := by simp [dnN, List.range_succ]
theorem dnN_at (g : Gg) (sp : Int) (l : List Int) {i n : Nat} (h : i < n) : (dnN g sp l n).getD i 0 = donN g sp l (i + 1) := by
 simp [dnN, List.getD_eq_getElem?_getD, h]
theorem ddoneM_tri (g : Gg) (sp : Int) (l : List Int) (H : Hp) (k : OkG g) (hsp : 1 ≤ sp ∧ sp ≤ 12) (hl : rowB g l = true) : Tri Tryz.prog (fnA 49) [g.av, intsAV (hotL g), i64 sp, intsAV l] H fun r H' => ∃ id, H id = none ∧ r = .ret (.sl id 1 (donL g sp l).length) ∧ H' = H.set id (.row 1 (donL g sp l).length (intF (donL g sp l))) := by
 have hll := row_len k hl
 have hdl : ∀ i, i ≤ l.length → 0 ≤ donN g sp l i ∧ donN g sp l i ≤ 24 + 60 * (i : Int) := fun i hi => donN_le k hsp hl i hi
 refine Tri.drop ?_
 refine tri_v0 (mset [9]) Tryz.func49 (by kernel_rfl) rfl (by simp only [List.length_append, List.length_cons, List.length_nil, Tryz.ntmps49]; decide) ?_
 simp only [vsAll, boxA, boxZ, opA, dstOk, nilSliceOp, argFr, Nat.reduceAdd, Nat.reduceLT, Nat.reduceBEq, eq_self, wtAll, Tryz.ntmps49, Go.V.nilA]
 intro i9 hh_i9; (try simp only [Hp.set_none, ite_none] at hh_i9)
 refine vs_loop (σ := Nat) (fun i => i ≤ l.length) (fun i => [(1, intsAV (hotL g)), (2, i64 sp), (3, intsAV l), (4, gptr g), (9, .sl i9 1 i), (10, i64 (donN g sp l i)), (11, i64 i)]) (fun i => H.set i9 (.row 1 i (intF (dnN g sp l i)))) (fun i => l.length - i) 0 (Nat.zero_le _) ?_ ?_ fun i hi => ?_
 ·simp only [vsAll, argFr, Nat.reduceEqDiff, ↓reduceIte, eq_self, Int.natCast_zero, donN]
  try exact AV.Le.refl _
 ·exact HSub.set (HSub.refl _) (row_ext fun q hq => absurd hq (by ((try clear hh_i9); omega)))
 ·simp only [vsAll, binA, binLitA, intA, lenA, opA, dstOk, Nat.reduceLT, Nat.reduceEqDiff, ↓reduceIte, eq_self, wtAll]
  refine condD (fun hd => ?_) (fun hd => ?_)
  ·have his : i < l.length := by ((try clear hh_i9); omega)
   obtain ⟨n, e, hn⟩ := row_nat hl his
   have ht := tk_le k hn hsp
   have hbg := beg_le k hn
   have h1 := hdl i hi
   have h2 := hdl (i + 1) his
   have es : donN g sp l (i + 1) = max (donN g sp l i) (begV g n) + tkG g n sp := by
    simp only [donN, stT, e, Int.toNat_natCast]
   have hsn := dnN_succ g sp l i
   have eap : appF i 1 (intF (dnN g sp l i)) (fun q => [[AV.lit (.int .i64 (donN g sp l (i + 1)))]].getD q []) = intF (dnN g sp l (i + 1)) := by
    have h := app_ints (dnN g sp l i) (donN g sp l (i + 1)) (fun q => [[AV.lit (.int .i64 (donN g sp l (i + 1)))]].getD q []) rfl
    rw [dnN_len] at h
    rw [hsn]
    exact h
   simp only [vsAll]
   refine vs_draw2 [0, 0, 0, 0, 0, 0, 0, 0, 0, 0, 0, 0, 0, 0, 0, 0, 0, 1] [([0, 1, 2, 3, 4, 5, 6, 7, 8, 9, 10, 11, 12, 13, 14, 15, 16], [], 17)] [] (by decide +kernel) ?_
   simp only [vsAll, loadA, loadRow, partA, partOk, indexAddrA, opA, dstOk, Nat.reduceLT, Nat.reduceEqDiff, ↓reduceIte, eq_self, wtAll, intF_at, e]
   refine ⟨⟨by ((try clear hh_i9); omega), by ((try clear hh_i9); omega)⟩, his, qcall _ ⟨trivial, by simp only [vsAll, okAll, opsA, opA, Nat.reduceEqDiff, ↓reduceIte, eq_self], dbegin_tri g n _ k hn⟩ ?_⟩
   simp only [vsAll, loadA, loadRow, partA, partOk, indexAddrA, mmA, okAll, stAll, opsA, opA, dstOk, Nat.reduceLT, Nat.reduceEqDiff, ↓reduceIte, eq_self, wtAll, intF_at, e]
   refine ⟨⟨by ((try clear hh_i9); omega), by ((try clear hh_i9); omega)⟩, his, qcall _ ⟨trivial, by simp only [vsAll, okAll, opsA, opA, Nat.reduceEqDiff, ↓reduceIte, eq_self], dtakes_tri g n sp _ k hn hsp⟩ ?_⟩
   simp only [vsAll, binA, binLitA, intA, cellA, cellsA, okParts, buildSliceA, partIdx, elemsA, lensA, partsA, partsOk, opA, appendA, dstOk, nilSliceOp, Nat.reduceMul, Nat.reduceLT, Nat.reduceLeDiff, Nat.reduceEqDiff, Nat.reduceBEq, ↓reduceIte, eq_self, wtAll, ← es]
   rw [eap]
   refine ⟨by simp only [InR_i64]; ((try clear hh_i9); omega), fun q hq => by (have : q = 0 := by ((try clear hh_i9); omega)); subst this; exact ⟨rfl, trivial⟩, by ((try clear hh_i9); omega), by ((try clear hh_i9); omega), by simp only [InR_i64]; ((try clear hh_i9); omega), loop_next (i + 1) his (by ((try clear hh_i9); omega)) ?_ ?_⟩
   ·simp only [vsAll, Nat.reduceEqDiff, ↓reduceIte, eq_self, Int.natCast_add, Int.natCast_one]
   ·rw [Hp.set_set]; exact HSub_rfl
  ·have ei : i = l.length := by ((try clear hh_i9); omega)
   subst ei
   have hdn : donL g sp l = dnN g sp l l.length := rfl
   have hdl2 : (donL g sp l).length = l.length := by rw [hdn, dnN_len]
   simp only [vsAll, opA, dstOk, nilSliceOp, resA, retA.eq_1, Nat.reduceLT, Nat.reduceEqDiff, Nat.reduceBEq, ↓reduceIte, eq_self, Tryz.results49]
   refine ⟨H.set i9 (.row 1 (donL g sp l).length (intF (donL g sp l))), ?_, i9, hh_i9, by rw [hdl2], rfl⟩
   rw [hdl2, hdn]; exact HSub_rfl
theorem ddone_tri (g : Gg) (sp : Int) (l : List Int) (H : Hp) (k : OkG g) (hsp : 1 ≤ sp ∧ sp ≤ 12) (hl : rowB g l = true) : PTri Tryz.prog (fnA 49) [g.av, intsAV (hotL g), i64 sp, intsAV l] H (intsAV (donL g sp l)) := by
 refine Tri.thawX (ddoneM_tri g sp l H k hsp hl) fun r H' hr => ?_
 obtain ⟨id, hid, rfl, rfl⟩ := hr
 exact .inr ⟨_, intsAV (donL g sp l), id, 1, (donL g sp l).length, intF (donL g sp l), rfl, .inr ⟨Hp.set_same _ _ _, .leaf ⟨rfl, intF (donL g sp l), fun _ _ => rfl, rfl⟩⟩, rfl, set_del hid⟩
theorem dknown_tri (g : Gg) (c : Nat) (l : List Int) (H : Hp) (k : OkG g) (hc : c < g.cw.length) (hl : rowB g l = true) : PTri Tryz.prog (fnA 48) [g.av, intsAV (hotL g), i64 c, intsAV l] H (boo (kwnB g c l)) := by
 have hll := row_len k hl
 have nC := k.nC
 have nS := k.nS
 have eC : g.cw.getD c cw0 = g.crew c := rfl
 have hst := st_lt k hc
 have est : (g.crew c).st = (((g.crew c).st.toNat : Nat) : Int) := by omega
 obtain ⟨z, hz⟩ : ∃ z : Nat, (g.crew c).st = (z : Int) := ⟨_, est⟩
 have hz32 : z < 32 := by have := hst.2.2; omega
 have hkn : ∀ n, knB g c n = (z.testBit n && decide (0 ≤ begV g n)) := fun n => by unfold knB; rw [hz, Int.toNat_natCast]
 refine tri_v0 (fun _ => false) Tryz.func48 (by kernel_rfl) rfl (by simp only [List.length_append, List.length_cons, List.length_nil, Tryz.ntmps48]; decide) ?_
 simp only [vsAll, boxA, boxZ, opA, dstOk, nilSliceOp, argFr, Nat.reduceAdd, Nat.reduceLT, eq_self, wtAll, Tryz.ntmps48]
 refine vs_loop (σ := Nat) (fun i => i ≤ l.length ∧ ∀ j, j < i → knB g c (l.getD j 0).toNat = true) (fun i => [(1, intsAV (hotL g)), (2, i64 c), (3, intsAV l), (4, gptr g), (9, i64 i)]) (fun _ => H) (fun i => l.length - i) 0 ⟨Nat.zero_le _, fun j hj => absurd hj (by omega)⟩ ?_ HSub_rfl fun i hi => ?_
 ·simp only [vsAll, argFr, Nat.reduceEqDiff, ↓reduceIte, eq_self, Int.natCast_zero]
 ·obtain ⟨hi, hall⟩ := hi
  simp only [vsAll, binA, binLitA, intA, lenA, opA, dstOk, Nat.reduceLT, Nat.reduceEqDiff, ↓reduceIte, eq_self, wtAll]
  refine condD (fun hd => ?_) (fun hd => ?_)
  ·have his : i < l.length := by omega
   obtain ⟨n, e, hn⟩ := row_nat hl his
   have hbg := beg_le k hn
   have hNe : g.N = g.sm.length := rfl
   simp only [vsAll]
   refine vs_draw2 [0, 0, 0, 0, 0, 0, 0, 0, 0, 0, 0, 0, 0, 0, 0, 0, 0, 0, 0, 0, 0, 0] [] [0, 1, 2, 3, 4, 5, 6, 7, 8, 9, 10, 11, 12, 13, 14, 15, 16, 17, 18, 19, 20, 21] (by decide +kernel) ?_
   simp only [vsAll, loadA, loadRow, partA, partOk, fieldAddrA, indexAddrA, opA, dstOk, Nat.reduceLT, Nat.reduceEqDiff, ↓reduceIte, eq_self, wtAll, intF_at, e, cwF_at, eC, hz]
   refine ⟨⟨by omega, by omega⟩, by omega, ⟨by omega, by omega⟩, his, qcall _ ⟨trivial, by simp only [vsAll, okAll, opsA, opA, Nat.reduceEqDiff, ↓reduceIte, eq_self], dhas_tri z n _ (by omega) (by omega)⟩ ?_⟩
   simp only [vsAll, unA, loadA, loadRow, partA, partOk, indexAddrA, opA, guardV, dstOk, Nat.reduceLT, Nat.reduceEqDiff, ↓reduceIte, implies_true, eq_self, wtAll, intF_at, e]
   refine ⟨fun q => ⟨q, q, by omega, by omega⟩, fun q => ⟨q, his⟩, qgcall (i64 (begV g n)) (fun q => ⟨by simp only [vsAll, opA], by simp only [vsAll, okAll, opsA, opA, Nat.reduceEqDiff, ↓reduceIte, eq_self, q], dbegin_tri g n _ k hn⟩) ?_⟩
   simp only [vsAll, binA, binLitA, intA, pickA, opA, guardV, dstOk, Nat.reduceLT, Nat.reduceEqDiff, ↓reduceIte, implies_true, eq_self]
   refine condV (fun hb => ?_) (fun hb => ?_)
   ·have hk : knB g c n = false := by
     rw [hkn]
     cases hz1 : z.testBit n with
     | false => rfl
     | true =>
       rw [hz1] at hb
       have : begV g n < 0 := by simpa using hb
       rw [decide_eq_false (by omega)]; rfl
    have e2 : kwnB g c l = false := by
     rw [← Bool.not_eq_true]
     intro h
     have := kwn_iff.1 h i his
     rw [e, Int.toNat_natCast, hk] at this
     cases this
    rw [e2]
    simp only [vsAll, opA, dstOk, nilSliceOp, resA, retA.eq_1, Nat.reduceLT, ↓reduceIte, eq_self, Tryz.results48]
   ·have hk : knB g c n = true := by
     rw [hkn]
     cases hz1 : z.testBit n with
     | false => rw [hz1] at hb; cases hb
     | true =>
       rw [hz1] at hb
       have : ¬ begV g n < 0 := by simpa using hb
       rw [decide_eq_true (by omega)]; rfl
    simp only [vsAll, binA, binLitA, intA, opA, dstOk, nilSliceOp, Nat.reduceLT, Nat.reduceEqDiff, ↓reduceIte, eq_self]
    refine ⟨by simp only [InR_i64]; omega, loop_next (i + 1) ⟨his, fun j hj => ?_⟩ (by omega) ?_ HSub_rfl⟩
    ·by_cases hji : j = i
     ·rw [hji, e, Int.toNat_natCast]; exact hk
     ·exact hall j (by omega)
    ·simp only [vsAll, Nat.reduceEqDiff, ↓reduceIte, eq_self, Int.natCast_add, Int.natCast_one]
  ·have ei : i = l.length := by omega
   subst ei
   have e : kwnB g c l = true := kwn_iff.2 hall
   rw [e]
   simp only [vsAll, opA, dstOk, nilSliceOp, resA, retA.eq_1, Nat.reduceLT, ↓reduceIte, eq_self, Tryz.results48]
theorem dlate_tri (g : Gg) (c : Nat) (l : List Int) (H : Hp) (k : OkG g) (hc : c < g.cw.length) (hl : rowB g l = true) : PTri Tryz.prog (fnA 50) [g.av, intsAV (hotL g), i64 c, intsAV l] H (i64 (((latO g c l).map fun i : Nat => (i : Int)).getD (-1))) := by
 have hll := row_len k hl
 have nC := k.nC
 have nS := k.nS
 have hNe : g.N = g.sm.length := rfl
 have eC : g.cw.getD c cw0 = g.crew c := rfl
 have hcc := k.crew hc
 unfold okC at hcc
 have hsp : 1 ≤ (g.crew c).lo ∧ (g.crew c).lo ≤ 12 := by omega
 have hdl : ∀ i, i ≤ l.length → 0 ≤ donN g (g.crew c).lo l i ∧ donN g (g.crew c).lo l i ≤ 24 + 60 * (i : Int) := fun i hi => donN_le k hsp hl i hi
 have hdn : donL g (g.crew c).lo l = dnN g (g.crew c).lo l l.length := rfl
 have hdl2 : (donL g (g.crew c).lo l).length = l.length := by rw [hdn, dnN_len]
 refine tri_v0 (fun _ => false) Tryz.func50 (by kernel_rfl) rfl (by simp only [List.length_append, List.length_cons, List.length_nil, Tryz.ntmps50]; decide) ?_
 simp only [vsAll, boxA, boxZ, opA, dstOk, nilSliceOp, argFr, Nat.reduceAdd, Nat.reduceLT, Int.reduceNeg, eq_self, wtAll, Tryz.ntmps50]
 refine vs_draw2 [0, 0, 0, 0, 0, 0, 0, 0, 0, 0, 1, 2] [([0, 1, 2, 3, 4, 5, 6, 7, 8, 9], [], 10)] [11] (by decide +kernel) ?_
 simp only [vsAll, loadA, loadRow, partA, partOk, fieldAddrA, indexAddrA, okAll, stAll, opsA, opA, dstOk, argFr, Nat.reduceLT, Nat.reduceEqDiff, Int.reduceNeg, ↓reduceIte, eq_self, wtAll, cwF_at, eC]
 refine ⟨⟨by omega, by omega⟩, by omega, callK_pure (ddone_tri g (g.crew c).lo l _ k hsp hl) ?_⟩
 simp only [vsAll, opA, dstOk, nilSliceOp, Nat.reduceLT, Int.reduceNeg, ↓reduceIte, eq_self]
 refine vs_loop (σ := Nat) (fun i => i ≤ l.length ∧ ∀ j, j < i → donN g (g.crew c).lo l (j + 1) ≤ (g.seam (l.getD j 0).toNat).fl) (fun i => [(3, intsAV l), (4, gptr g), (9, intsAV (donL g (g.crew c).lo l)), (10, i64 i)]) (fun _ => H) (fun i => l.length - i) 0 ⟨Nat.zero_le _, fun j hj => absurd hj (by omega)⟩ ?_ HSub_rfl fun i hi => ?_
 ·simp only [vsAll, argFr, Nat.reduceEqDiff, ↓reduceIte, eq_self, Int.natCast_zero]
 ·obtain ⟨hi, hall⟩ := hi
  simp only [vsAll, binA, binLitA, intA, lenA, opA, dstOk, Nat.reduceLT, Nat.reduceEqDiff, Int.reduceNeg, ↓reduceIte, eq_self, wtAll]
  refine condD (fun hd => ?_) (fun hd => ?_)
  ·have his : i < l.length := by omega
   obtain ⟨n, e, hn⟩ := row_nat hl his
   have eS : g.sm.getD n sm0 = g.seam n := rfl
   have edn : (donL g (g.crew c).lo l).getD i 0 = donN g (g.crew c).lo l (i + 1) := by rw [hdn]; exact dnN_at _ _ _ his
   simp only [vsAll, Int.reduceNeg]
   refine vs_draw2 [0, 0, 0, 0, 0, 0, 0, 0, 0, 0, 0, 0, 0, 0] [] [0, 1, 2, 3, 4, 5, 6, 7, 8, 9, 10, 11, 12, 13] (by decide +kernel) ?_
   simp only [vsAll, binA, binLitA, intA, loadA, loadRow, partA, partOk, fieldAddrA, indexAddrA, opA, dstOk, Nat.reduceLT, Nat.reduceEqDiff, Int.reduceNeg, ↓reduceIte, eq_self, wtAll, intF_at, e, edn, smF_at, eS, hdl2]
   refine ⟨⟨by omega, by omega⟩, his, ⟨by omega, by omega⟩, his, ⟨by omega, by omega⟩, by omega, ?_⟩
   refine condD (fun hb => ?_) (fun hb => ?_)
   ·have e2 : latO g c l = some i := lat_some.2 ⟨his, by rw [e, Int.toNat_natCast]; exact hb, hall⟩
    rw [e2]
    simp only [vsAll, opA, dstOk, nilSliceOp, resA, retA.eq_1, Nat.reduceLT, Nat.reduceEqDiff, Int.reduceNeg, ↓reduceIte, eq_self, Tryz.results50]
    rfl
   ·simp only [vsAll, binA, binLitA, intA, opA, dstOk, nilSliceOp, Nat.reduceLT, Nat.reduceEqDiff, Int.reduceNeg, ↓reduceIte, eq_self]
    refine ⟨by simp only [InR_i64]; omega, loop_next (i + 1) ⟨his, fun j hj => ?_⟩ (by omega) ?_ HSub_rfl⟩
    ·by_cases hji : j = i
     ·rw [hji, e, Int.toNat_natCast]; omega
     ·exact hall j (by omega)
    ·simp only [vsAll, Nat.reduceEqDiff, ↓reduceIte, eq_self, Int.natCast_add, Int.natCast_one]
  ·have ei : i = l.length := by omega
   subst ei
   have e : latO g c l = none := lat_none.2 hall
   rw [e]
   simp only [vsAll, opA, dstOk, nilSliceOp, resA, retA.eq_1, Nat.reduceLT, Int.reduceNeg, ↓reduceIte, eq_self, Tryz.results50]
   rfl
theorem dright_tri (g : Gg) (c : Nat) (l : List Int) (H : Hp) (k : OkG g) (hc : c < g.cw.length) (hl : rowB g l = true) : PTri Tryz.prog (fnA 96) [g.av, intsAV (hotL g), i64 c, intsAV l] H (boo (rgtB g c l)) := by
 have e : decide ((((latO g c l).map fun i : Nat => (i : Int)).getD (-1)) < 0) = (latO g c l).isNone := by
  cases latO g c l with
  | none => rfl
  | some i => exact decide_eq_false (by simp)
 refine tri_v0 (fun _ => false) Tryz.func96 (by kernel_rfl) rfl (by simp only [List.length_append, List.length_cons, List.length_nil, Tryz.ntmps96]; decide) ?_
 simp only [vsAll, loadA, loadRow, partA, partOk, boxA, boxZ, okAll, stAll, opsA, opA, dstOk, nilSliceOp, argFr, Nat.reduceAdd, Nat.reduceLT, Nat.reduceEqDiff, ↓reduceIte, eq_self, wtAll, Tryz.ntmps96]
 refine callK_pure (dknown_tri g c l _ k hc hl) ?_
 simp only [vsAll, loadA, loadRow, partA, partOk, opA, guardV, dstOk, argFr, Nat.reduceLT, Nat.reduceEqDiff, ↓reduceIte, implies_true, eq_self, wtAll]
 refine gcall (i64 (((latO g c l).map fun i : Nat => (i : Int)).getD (-1))) (fun hg => ⟨by simp only [vsAll, opA], by simp only [vsAll, okAll, opsA, opA, Nat.reduceEqDiff, ↓reduceIte, eq_self, hg], dlate_tri g c l _ k hc hl⟩) ?_
 simp only [vsAll, binA, binLitA, intA, pickA, opA, guardV, dstOk, nilSliceOp, resA, retA.eq_1, Nat.reduceLT, Nat.reduceEqDiff, Int.reduceNeg, ↓reduceIte, implies_true, eq_self, Tryz.results96, e]
 try rfl
end Go.Proofs.YtdopkbldjagmlaaGreat
end
section
set_option linter.unusedVariables false
set_option linter.unusedSimpArgs false
set_option maxHeartbeats 4000000
set_option maxRecDepth 100000
namespace Go.Proofs.YtdopkbldjagmlaaGreat
open Go.V
def rwsD (g : Gg) (c S n : Nat) (b : List Int) : List (List Int) := if rgtB g c b = true then rws g c S n b else []
def rwsG (g : Gg) (c S n : Nat) (b : List Int) (i : Nat) : List (List Int) := (List.range i).flatMap fun j : Nat => if (S.testBit j && !b.contains (j : Int)) = true then rwsD g c S n (b ++ [(j : Int)]) else []
theorem rws_G (g : Gg) (c S n : Nat) (b : List Int) : rws g c S (n + 1) b = rwsG g c S n b g.N := by
 simp only [rws, rwsG]
 congr 1
 funext j
 unfold goR rwsD
 cases S.testBit j <;> cases b.contains (j : Int) <;> cases rgtB g c (b ++ [(j : Int)]) <;> rfl
theorem rwsG_succ (g : Gg) (c S n : Nat) (b : List Int) (i : Nat) : rwsG g c S n b (i + 1) = rwsG g c S n b i ++ if (S.testBit i && !b.contains (i : Int)) = true then rwsD g c S n (b ++ [(i : Int)]) else [] := by
 simp only [rwsG, List.range_succ, List.flatMap_append, List.flatMap_cons, List.flatMap_nil, List.append_nil]
theorem rwsG_mono (g : Gg) (c S n : Nat) (b : List Int) (i : Nat) : ∀ j, i ≤ j → (rwsG g c S n b i).length ≤ (rwsG g c S n b j).length
 | 0, h => by rw [show i = 0 by omega]; exact Nat.le_refl _
 | j + 1, h => by
   by_cases e : i = j + 1
   ·subst e; exact Nat.le_refl _
   ·have := rwsG_mono g c S n b i j (by omega)
    rw [rwsG_succ, List.length_append]
    omega
theorem rws_bd (g : Gg) (c S : Nat) (hN : g.N ≤ 5) : ∀ n b, (rws g c S n b).length ≤ 5 ^ n
 | 0, b => Nat.le_refl _
 | n + 1, b => by
   rw [rws_G]
   have h : ∀ i, (rwsG g c S n b i).length ≤ i * 5 ^ n := fun i => by
    induction i with
    | zero => exact Nat.zero_le _
    | succ i ih =>
      rw [rwsG_succ, List.length_append, Nat.succ_mul]
      have h2 : (if (S.testBit i && !b.contains (i : Int)) = true then rwsD g c S n (b ++ [(i : Int)]) else []).length ≤ 5 ^ n := by
       split
       ·unfold rwsD
        split
        ·exact rws_bd g c S hN n _
        ·exact Nat.zero_le _
       ·exact Nat.zero_le _
      omega
   refine Nat.le_trans (h g.N) ?_
   rw [Nat.pow_succ, Nat.mul_comm]
   exact Nat.mul_le_mul_left _ hN
theorem posV_neg (l : List Int) (n : Int) : decide (posV l n < 0) = !l.contains n := by
 by_cases h : n ∈ l
 ·obtain ⟨i, hi, e⟩ := getD_mem 0 h
  have hx : ∃ i, i < l.length ∧ l.getD i 0 = n := ⟨i, hi, e⟩
  have hc : l.contains n = true := by rw [List.contains_iff_mem]; exact h
  have hp : 0 ≤ posV l n := by
   unfold posV
   cases hf : (List.range l.length).find? fun i => decide (l.getD i 0 = n) with
   | some j => exact Int.natCast_nonneg _
   | none =>
     rw [List.find?_eq_none] at hf
     exact absurd (decide_eq_true e) (hf i (List.mem_range.2 hi))
  rw [hc, decide_eq_false (by omega)]; rfl
 ·have hc : l.contains n = false := by rw [← Bool.not_eq_true, List.contains_iff_mem]; exact h
  have hp := posV_none (l := l) (n := n) fun j hj e => h (e ▸ mem_getD l j 0 hj)
  rw [hc, hp]; rfl
theorem cp_int (b : List Int) (x : Int) (q : Nat) (hq : q < b.length + 1) : appF b.length 1 (appF 0 b.length (fun _ => []) (intF b)) (fun i => [[i64 x]].getD i []) q = intF (b ++ [x]) q := by
 rw [← app_ints b x (fun i => [[i64 x]].getD i []) rfl]
 by_cases e : q < b.length
 ·rw [appF_at (by omega), if_pos e, appF_at (by omega), if_neg (by omega), Nat.sub_zero, appF_at (by omega), if_pos e]
 ·rw [appF_at (by omega), if_neg e, appF_at (by omega), if_neg e]
def rwR (g : Gg) (c S n : Nat) (b : List Int) (id : Nat) (O : List (List Int)) (H : Hp) : Res → Hp → Prop := fun r H' =>
 r = .ret (.sl id 1 (O ++ rwsD g c S n b).length) ∧ H' = H.set id (.row 1 (O ++ rwsD g c S n b).length (llF (O ++ rwsD g c S n b)))
theorem sub_rows {g : Gg} {c S n : Nat} {b : List Int} {x : Int} {id id1 : Nat} {O : List (List Int)} {X : Hp} (h1 : X id1 = some (.row 1 (b.length + 1) (intF (b ++ [x]))))
  (h : Tri Tryz.prog (fnA 56) [g.av, intsAV (hotL g), i64 c, i64 S, intsAV (b ++ [x]), .sl id 1 O.length] (X.del id1) (rwR g c S n (b ++ [x]) id O (X.del id1))) :
  Tri Tryz.prog (fnA 56) [g.av, intsAV (hotL g), i64 c, i64 S, .sl id1 1 (b.length + 1), .sl id 1 O.length] X (rwR g c S n (b ++ [x]) id O (X.del id1)) := by
 refine tri_freezeD (args' := [g.av, intsAV (hotL g), i64 c, i64 S, intsAV (b ++ [x]), .sl id 1 O.length]) h1 rfl (fun k hk => ?_) h
 match k, hk with
 | 0, _ => exact .same _
 | 1, _ => exact .same _
 | 2, _ => exact .same _
 | 3, _ => exact .same _
 | 4, _ =>
   have hl : (b ++ [x]).length = b.length + 1 := by simp
   show FrzD _ _ _ _ (AV.sl id1 1 (b.length + 1)) (AV.rsl (b ++ [x]).length 1 (intF (b ++ [x])))
   rw [hl]; exact .hit fun i hi => rfl
 | 5, _ => exact .same _
theorem drows_tri (g : Gg) (c S : Nat) (k : OkG g) (hc : c < g.cw.length) (hS : S < 2 ^ g.N) : ∀ (n : Nat) (b : List Int) (id : Nat) (O : List (List Int)) (H : Hp), b.length + n = pop S → RowOf S b → H id = some (.row 1 O.length (llF O)) → O.length + (rwsD g c S n b).length ≤ 2000000 →
  Tri Tryz.prog (fnA 56) [g.av, intsAV (hotL g), i64 c, i64 S, intsAV b, .sl id 1 O.length] H (rwR g c S n b id O H) := by
 have nS := k.nS
 have hN5 : g.N ≤ 5 := nS
 have hNe : g.N = g.sm.length := rfl
 have hS5 := lt32 hN5 hS
 intro n
 induction n with
 | zero =>
   intro b id O H hb hr ho hl
   have hrb := rowB_of hS hr
   have hbl := row_len k hrb
   refine Tri.drop ?_
   refine tri_v0 (mset []) Tryz.func56 (by kernel_rfl) rfl (by simp only [List.length_append, List.length_cons, List.length_nil, Tryz.ntmps56]; decide) ?_
   skip
   simp only [vsAll, loadA, loadRow, partA, partOk, boxA, boxZ, okAll, stAll, opsA, opA, dstOk, nilSliceOp, argFr, Nat.reduceAdd, Nat.reduceLT, Nat.reduceEqDiff, ↓reduceIte, eq_self, wtAll, Tryz.ntmps56]
   refine callK_pure (dright_tri g c b _ k hc hrb) ?_
   simp only [vsAll, unA, opA, dstOk, Nat.reduceLT, ↓reduceIte, eq_self]
   refine condV (fun hd => ?_) (fun hd => ?_)
   ·have e : rwsD g c S 0 b = [] := if_neg (by simpa using hd)
    simp only [vsAll, opA, dstOk, nilSliceOp, resA, argFr, retA.eq_1, Nat.reduceLT, Nat.reduceEqDiff, ↓reduceIte, eq_self, Tryz.results56]
    exact ⟨_, HSub_put_eq ho HSub_rfl, by rw [e, List.append_nil], by rw [e, List.append_nil]⟩
   ·have e : rwsD g c S 0 b = [b] := if_pos (by simpa using hd)
    rw [e] at hl
    simp only [List.length_cons, List.length_nil] at hl
    simp only [vsAll, lenA, okAll, stAll, opsA, opA, dstOk, argFr, Nat.reduceLT, Nat.reduceEqDiff, ↓reduceIte, eq_self, wtAll]
    refine callK_pure (gsize_tri S _ (by ((try clear ho); omega))) ?_
    simp only [vsAll, binA, binLitA, intA, opA, dstOk, Nat.reduceLT, Nat.reduceEqDiff, ↓reduceIte, eq_self]
    refine condD (fun hd2 => ?_) (fun hd2 => absurd (by ((try clear ho); omega)) hd2)
    simp only [vsAll, cellA, cellsA, okParts, buildSliceA, partIdx, elemsA, lensA, partsA, partsOk, opA, appendA, dstOk, nilSliceOp, resA, argFr, retA.eq_1, Nat.reduceMul, Nat.reduceLT, Nat.reduceLeDiff, Nat.reduceEqDiff, ↓reduceIte, eq_self, wtAll, Tryz.results56, ho]
    rw [app_ll _ b _ rfl]
    refine ⟨fun i hi => by (have : i = 0 := by ((try clear ho); omega)); subst this; simp only [vsAll, cellA, okCells, eq_self], by ((try clear ho); omega), by ((try clear ho); omega), _, HSub_rfl, ?_, ?_⟩
    ·rw [e]; simp
    ·rw [e]; simp
 | succ n ih =>
   intro b id O H hb hr ho hl
   have hrb := rowB_of hS hr
   have hbl := row_len k hrb
   refine Tri.drop ?_
   refine tri_v0 (mset [50]) Tryz.func56 (by kernel_rfl) rfl (by simp only [List.length_append, List.length_cons, List.length_nil, Tryz.ntmps56]; decide) ?_
   skip
   simp only [vsAll, loadA, loadRow, partA, partOk, boxA, boxZ, okAll, stAll, opsA, opA, dstOk, nilSliceOp, argFr, Nat.reduceAdd, Nat.reduceLT, Nat.reduceEqDiff, Nat.reduceBEq, ↓reduceIte, eq_self, wtAll, Tryz.ntmps56]
   refine callK_pure (dright_tri g c b _ k hc hrb) ?_
   simp only [vsAll, unA, opA, dstOk, Nat.reduceLT, ↓reduceIte, eq_self]
   refine condV (fun hd => ?_) (fun hd => ?_)
   ·have e : rwsD g c S (n + 1) b = [] := if_neg (by simpa using hd)
    simp only [vsAll, opA, dstOk, nilSliceOp, resA, argFr, retA.eq_1, Nat.reduceLT, Nat.reduceEqDiff, Nat.reduceBEq, ↓reduceIte, eq_self, Tryz.results56]
    exact ⟨_, HSub_put_eq ho HSub_rfl, by rw [e, List.append_nil], by rw [e, List.append_nil]⟩
   ·have e : rwsD g c S (n + 1) b = rwsG g c S n b g.N := (if_pos (by simpa using hd)).trans (rws_G g c S n b)
    rw [e] at hl
    simp only [vsAll, lenA, okAll, stAll, opsA, opA, dstOk, argFr, Nat.reduceLT, Nat.reduceEqDiff, ↓reduceIte, eq_self, wtAll]
    refine callK_pure (gsize_tri S _ (by ((try clear ho); omega))) ?_
    simp only [vsAll, binA, binLitA, intA, opA, dstOk, Nat.reduceLT, Nat.reduceEqDiff, ↓reduceIte, eq_self]
    refine condD (fun hd2 => absurd hd2 (by ((try clear ho); omega))) (fun hd2 => ?_)
    simp only [vsAll, opA, dstOk, nilSliceOp, Nat.reduceLT, Nat.reduceBEq, eq_self]
    refine vs_loop (σ := Nat) (fun i => i ≤ g.N) (fun i => [(1, intsAV (hotL g)), (2, i64 c), (3, i64 S), (4, intsAV b), (5, .sl id 1 (O ++ rwsG g c S n b i).length), (6, gptr g), (13, i64 i)])
     (fun i => H.set id (.row 1 (O ++ rwsG g c S n b i).length (llF (O ++ rwsG g c S n b i)))) (fun i => g.N - i) 0 (Nat.zero_le _) ?_ ?_ fun i hi => ?_
    ·have e0 : O ++ rwsG g c S n b 0 = O := by simp [rwsG]
     simp only [vsAll, argFr, Nat.reduceEqDiff, ↓reduceIte, eq_self, Int.natCast_zero, e0]
    ·have e0 : O ++ rwsG g c S n b 0 = O := by simp [rwsG]
     rw [e0]
     exact HSub_put_eq ho HSub_rfl
    ·simp only [vsAll, binA, binLitA, intA, loadA, loadRow, partA, partOk, fieldAddrA, lenA, opA, dstOk, Nat.reduceLT, Nat.reduceEqDiff, ↓reduceIte, eq_self, wtAll]
     refine condD (fun hd3 => ?_) (fun hd3 => ?_)
     ·have his : i < g.N := by ((try clear ho); omega)
      have hgs := rwsG_succ g c S n b i
      have hmo := rwsG_mono g c S n b (i + 1) g.N (by ((try clear ho); omega))
      simp only [vsAll, okAll, stAll, opsA, opA, dstOk, Nat.reduceLT, Nat.reduceEqDiff, ↓reduceIte, eq_self]
      refine callK_pure (dhas_tri S i _ (by ((try clear ho); omega)) (by ((try clear ho); omega))) ?_
      simp only [vsAll, opA, guardV, dstOk, Nat.reduceLT, Nat.reduceEqDiff, ↓reduceIte, implies_true, eq_self]
      refine gcall (i64 (posV b (i : Int))) (fun hg => ⟨by simp only [vsAll, opA], by simp only [vsAll, okAll, opsA, opA, Nat.reduceEqDiff, ↓reduceIte, eq_self, hg], gat_tri b (i : Int) _ (by ((try clear ho); omega))⟩) ?_
      simp only [vsAll, binA, binLitA, intA, pickA, opA, guardV, dstOk, Nat.reduceLT, Nat.reduceEqDiff, ↓reduceIte, implies_true, eq_self, posV_neg]
      refine condV (fun hd4 => ?_) (fun hd4 => ?_)
      ·rw [if_pos hd4] at hgs
       rw [hgs, List.length_append] at hmo
       rw [Bool.and_eq_true, Bool.not_eq_true', ← Bool.not_eq_true, List.contains_iff_mem] at hd4
       have hr2 : RowOf S (b ++ [(i : Int)]) := rowOf_snoc.2 ⟨hr, hd4.1, hd4.2⟩
       refine vs_draw2 [0, 0, 0, 0, 1, 0, 3, 0, 0, 5, 0, 7, 9] [([0, 1, 2, 3, 5, 7, 8, 10], [0], 4), ([], [0], 6), ([], [0], 9), ([], [], 11), ([], [], 12)] [] (by decide +kernel) ?_
       simp only [vsAll, loadA, loadRow, partA, partOk, cellA, cellsA, okParts, buildSliceA, buildMutA, partIdx, elemsA, lensA, okAll, stAll, opsA, partsA, partsOk, opA, appendA, dstOk, Nat.reduceMul, Nat.reduceLT, Nat.reduceLeDiff, Nat.reduceEqDiff, Nat.reduceBEq, ↓reduceIte, eq_self, wtAll]
       intro i50 hh_i50; (try simp only [ite_none] at hh_i50)
       have hY : (H.set id (.row 1 (O ++ rwsG g c S n b i).length (llF (O ++ rwsG g c S n b i)))) i50 = none := by rw [Hp.set_ne _ _ hh_i50.1.1]; exact hh_i50.2
       have eO : O ++ rwsG g c S n b i ++ rwsD g c S n (b ++ [(i : Int)]) = O ++ rwsG g c S n b (i + 1) := by rw [hgs, List.append_assoc]
       refine ⟨fun i hi => ⟨rfl, trivial⟩, by ((try clear ho hh_i50); omega), by ((try clear ho hh_i50); omega), fun i hi => by (have : i = 0 := by ((try clear ho hh_i50); omega)); subst this; exact ⟨rfl, trivial⟩, by ((try clear ho hh_i50); omega), by ((try clear ho hh_i50); omega), ?_⟩
       refine callK (Tri.less (HSub.set (HSub_drop2 (by simp only [vsAll, ↓reduceIte, eq_self, hh_i50]) (HSub_drop2 (by simp only [vsAll, ↓reduceIte, eq_self, hh_i50]) HSub_rfl)) (row_ext fun q hq => cp_int b (i : Int) q hq)) (sub_rows (n := n) (b := b) (x := (i : Int)) (id := id) (O := O ++ rwsG g c S n b i) (Hp.set_same _ _ _) (ih (b ++ [(i : Int)]) id (O ++ rwsG g c S n b i) _ (by simp; ((try clear ho hh_i50); omega)) hr2 (by rw [set_del hY, Hp.set_same]) (by rw [List.length_append]; ((try clear ho hh_i50); omega))))) ?_
       rintro r H' ⟨rfl, rfl⟩
       rw [set_del hY, Hp.set_set, eO]
       simp only [vsAll, binA, binLitA, intA, opA, dstOk, nilSliceOp, Nat.reduceLT, Nat.reduceEqDiff, Nat.reduceBEq, ↓reduceIte, eq_self]
       refine ⟨by simp only [InR_i64]; ((try clear ho hh_i50); omega), loop_next (i + 1) (by ((try clear ho hh_i50); omega)) (by ((try clear ho hh_i50); omega)) ?_ HSub_rfl⟩
       simp only [vsAll, Nat.reduceEqDiff, ↓reduceIte, eq_self, Int.natCast_add, Int.natCast_one]
      ·rw [if_neg (by rw [hd4]; decide), List.append_nil] at hgs
       simp only [vsAll, binA, binLitA, intA, opA, dstOk, nilSliceOp, Nat.reduceLT, Nat.reduceEqDiff, Nat.reduceBEq, ↓reduceIte, eq_self]
       refine ⟨by simp only [InR_i64]; ((try clear ho); omega), loop_next (i + 1) (by ((try clear ho); omega)) (by ((try clear ho); omega)) ?_ (by rw [hgs]; exact HSub_rfl)⟩
       simp only [vsAll, Nat.reduceEqDiff, ↓reduceIte, eq_self, hgs, Int.natCast_add, Int.natCast_one]
     ·have ei : i = g.N := by ((try clear ho); omega)
      subst ei
      simp only [vsAll, opA, dstOk, nilSliceOp, resA, retA.eq_1, Nat.reduceLT, Nat.reduceEqDiff, Nat.reduceBEq, ↓reduceIte, eq_self, Tryz.results56]
      exact ⟨_, HSub_rfl, by rw [e], by rw [e]⟩
end Go.Proofs.YtdopkbldjagmlaaGreat
end
section
set_option linter.unusedVariables false
set_option linter.unusedSimpArgs false
set_option maxHeartbeats 4000000
set_option maxRecDepth 100000
namespace Go.Proofs.YtdopkbldjagmlaaGreat
open Go.V
theorem HSub_eqn {A B : Hp} (h : ∀ q, B q = none ∨ A q = B q) : Go.V.HSub A B := fun q o hq => by
 rcases h q with e | e
 ·rw [e] at hq; cases hq
 ·exact ⟨o, by rw [e]; exact hq, .refl _⟩
theorem pop5 {S : Nat} (hS : S < 32) : pop S ≤ 5 := by
 have : ∀ a, a < 32 → pop a ≤ 5 := by decide +kernel
 exact this S hS
theorem rowsD_eq (g : Gg) (c S : Nat) : rwsD g c S (pop S) [] = rowsL g c S := if_pos (rgt_nil g c)
theorem rows_len (g : Gg) (c : Nat) {S : Nat} (hN : g.N ≤ 5) (hS : S < 32) : (rowsL g c S).length ≤ 3125 := by
 have h1 := rws_bd g c S hN (pop S) []
 have h2 : 5 ^ pop S ≤ 5 ^ 5 := Nat.pow_le_pow_right (by decide) (pop5 hS)
 exact Nat.le_trans h1 h2
theorem drows0_tri (g : Gg) (c S : Nat) (H : Hp) (k : OkG g) (hc : c < g.cw.length) (hS : S < 2 ^ g.N) : PTri Tryz.prog (fnA 56) [g.av, intsAV (hotL g), i64 c, i64 S, .lit (.slice none 0 0), .lit (.slice none 0 0)] H (llAV (rowsL g c S)) := by
 have hN5 : g.N ≤ 5 := k.nS
 have hl := rows_len g c hN5 (lt32 hN5 hS)
 have e0 := rowsD_eq g c S
 refine Tri.thawD (R1 := fun r H' => ∃ id, H id = none ∧ r = .ret (.sl id 1 (rowsL g c S).length) ∧ H' = H.set id (.row 1 (rowsL g c S).length (llF (rowsL g c S)))) ?_ ?_
 ·refine tri_nil (args' := fun id => [g.av, intsAV (hotL g), i64 c, i64 S, intsAV [], .sl id 1 0]) 1 (llF []) (fun _ => rfl) (fun id j hj => ?_) fun id hid => ?_
  ·match j, hj with
   | 0, _ => exact .inl (AV.Le.refl _)
   | 1, _ => exact .inl (AV.Le.refl _)
   | 2, _ => exact .inl (AV.Le.refl _)
   | 3, _ => exact .inl (AV.Le.refl _)
   | 4, _ => exact .inl (AV.Le.nil 1 _)
   | 5, _ => exact .inr ⟨rfl, rfl⟩
  ·have hb : ([] : List (List Int)).length + (rwsD g c S (pop S) []).length ≤ 2000000 := by rw [e0, List.length_nil, Nat.zero_add]; omega
   have h := drows_tri g c S k hc hS (pop S) [] id [] (H.set id (.row 1 0 (llF []))) (Nat.zero_add _) (rowOf_nil S) (Hp.set_same _ _ _) hb
   unfold rwR at h
   rw [e0, List.nil_append] at h
   generalize rowsL g c S = L at h ⊢
   refine Tri.mono h ?_
   rintro r H' ⟨rfl, rfl⟩
   exact ⟨id, hid, rfl, by rw [Hp.set_set]⟩
 ·rintro r H' ⟨id, hid, rfl, rfl⟩
  right
  exact ⟨_, _, id, 1, _, llF (rowsL g c S), rfl, Hp.set_same _ _ _, .hit fun _ _ => rfl, rfl, set_del hid⟩
def endD (g : Gg) (c S : Nat) : Int := (endO g c S).getD (-1)
theorem last_bd {g : Gg} (k : OkG g) {c S : Nat} (hc : c < g.cw.length) (hS : S < 2 ^ g.N) {l : List Int} (h : l ∈ rowsL g c S) : rowB g l = true ∧ l.length ≤ 5 ∧ 0 ≤ lastT g c l ∧ lastT g c l ≤ 400 := by
 have hr := rowB_of hS ((mem_rows hS).1 h).2.1
 have hl := row_len k hr
 have hcc := k.crew hc
 unfold okC at hcc
 have hd := donN_le k (sp := (g.crew c).lo) (by omega) hr l.length (Nat.le_refl _)
 refine ⟨hr, hl, hd.1, ?_⟩
 unfold lastT
 omega
theorem dend_tri (g : Gg) (c S : Nat) (H : Hp) (k : OkG g) (hc : c < g.cw.length) (hS : S < 2 ^ g.N) : PTri Tryz.prog (fnA 60) [g.av, intsAV (hotL g), i64 c, i64 S] H (i64 (endD g c S)) := by
 have hN5 : g.N ≤ 5 := k.nS
 have nC := k.nC
 have eC : g.cw.getD c cw0 = g.crew c := rfl
 have hll := rows_len g c hN5 (lt32 hN5 hS)
 have hcc := k.crew hc
 unfold okC at hcc
 have hsp : 1 ≤ (g.crew c).lo ∧ (g.crew c).lo ≤ 12 := by omega
 have hmem := fun l h => last_bd k hc hS (l := l) h
 have hE : endD g c S = (foldJ min ((rowsL g c S).map (lastT g c))).getD (-1) := rfl
 refine tri_v0 (fun _ => false) Tryz.func60 (by kernel_rfl) rfl (by simp only [List.length_append, List.length_cons, List.length_nil, Tryz.ntmps60]; decide) ?_
 simp only [vsAll, loadA, loadRow, partA, partOk, boxA, boxZ, okAll, stAll, opsA, opA, dstOk, nilSliceOp, argFr, Nat.reduceAdd, Nat.reduceLT, Nat.reduceEqDiff, Int.reduceNeg, ↓reduceIte, eq_self, wtAll, Tryz.ntmps60]
 refine callK_pure (drows0_tri g c S _ k hc hS) ?_
 rw [hE]
 generalize rowsL g c S = L at hll hmem ⊢
 simp only [vsAll, opA, dstOk, nilSliceOp, Nat.reduceLT, Int.reduceNeg, ↓reduceIte, eq_self]
 refine vs_loop (σ := Nat) (fun i => i ≤ L.length) (fun i => [(1, intsAV (hotL g)), (2, i64 c), (4, gptr g), (9, llAV L), (10, i64 ((foldJ min ((L.take i).map (lastT g c))).getD (-1))), (11, i64 i)]) (fun _ => H) (fun i => L.length - i) 0 (Nat.zero_le _) ?_ HSub_rfl fun i hi => ?_
 ·simp only [vsAll, argFr, Nat.reduceEqDiff, Int.reduceNeg, ↓reduceIte, eq_self, Int.natCast_zero]
  exact AV.Le.refl _
 ·simp only [vsAll, binA, binLitA, intA, lenA, opA, dstOk, Nat.reduceLT, Nat.reduceEqDiff, Int.reduceNeg, ↓reduceIte, eq_self, wtAll]
  refine condD (fun hd => ?_) (fun hd => ?_)
  ·have his : i < L.length := by omega
   have hm := mem_getD L i [] his
   obtain ⟨hrb, hl5, hx0, hx1⟩ := hmem _ hm
   have hst : (L.take (i + 1)).map (lastT g c) = (L.take i).map (lastT g c) ++ [lastT g c (L.getD i [])] := by
    rw [List.take_add_one, List.getElem?_eq_getElem his, List.getD_eq_getElem?_getD, List.getElem?_eq_getElem his, List.map_append]; rfl
   have hst2 : foldJ min ((L.take (i + 1)).map (lastT g c)) = comb min (foldJ min ((L.take i).map (lastT g c))) (some (lastT g c (L.getD i []))) := by
    rw [hst, foldJ_app]; rfl
   have hlt : lastT g c (L.getD i []) = donN g (g.crew c).lo (L.getD i []) (L.getD i []).length := rfl
   have hbd : ∀ m, foldJ min ((L.take i).map (lastT g c)) = some m → 0 ≤ m ∧ m ≤ 400 := fun m hmm => by
    obtain ⟨l, hl, e⟩ := List.mem_map.1 ((minS_fold _).is m hmm)
    have := hmem l (List.mem_of_mem_take hl)
    omega
   generalize foldJ min ((L.take i).map (lastT g c)) = E at hst2 hbd
   generalize hl0 : L.getD i [] = l at hrb hl5 hx0 hx1 hst2 hlt
   have hdl : (donL g (g.crew c).lo l).length = l.length := dnN_len _ _ _ _
   simp only [vsAll, opA, dstOk, nilSliceOp, Nat.reduceLT, Int.reduceNeg, eq_self]
   refine vs_draw2 [0, 0, 0, 0, 0, 0, 0, 0, 0, 0, 0, 0, 0, 0, 0] [] [0, 1, 2, 3, 4, 5, 6, 7, 8, 9, 10, 11, 12, 13, 14] (by decide +kernel) ?_
   simp only [vsAll, loadA, loadRow, partA, partOk, fieldAddrA, indexAddrA, opA, dstOk, Nat.reduceLT, Nat.reduceEqDiff, Int.reduceNeg, ↓reduceIte, eq_self, wtAll, cwF_at, eC, llF_at, hl0]
   refine ⟨⟨by omega, by omega⟩, by omega, ⟨by omega, by omega⟩, his, qcall _ ⟨trivial, by simp only [vsAll, okAll, opsA, opA, Nat.reduceEqDiff, Int.reduceNeg, ↓reduceIte, eq_self], ddone_tri g (g.crew c).lo l _ k hsp hrb⟩ ?_⟩
   simp only [vsAll, binA, binLitA, intA, lenA, opA, dstOk, Nat.reduceLT, Int.reduceNeg, ↓reduceIte, eq_self, wtAll]
   have hfin : ∀ x, x = lastT g c l → (decide (E.getD (-1) < 0) || decide (x < E.getD (-1))) = true → (foldJ min ((L.take (i + 1)).map (lastT g c))).getD (-1) = x := fun x hx hc => by
    rw [hst2, hx]
    cases hE0 : E with
    | none => rfl
    | some m =>
      have := hbd m hE0
      rw [hE0, hx] at hc
      have h2 : lastT g c l < m := by
       rw [Bool.or_eq_true, decide_eq_true_eq, decide_eq_true_eq] at hc
       rcases hc with q | q
       ·exact absurd (show m < 0 from q) (by omega)
       ·exact q
      show min m (lastT g c l) = _
      omega
   have hno : ∀ x, x = lastT g c l → (decide (E.getD (-1) < 0) || decide (x < E.getD (-1))) = false → (foldJ min ((L.take (i + 1)).map (lastT g c))).getD (-1) = E.getD (-1) := fun x hx hc => by
    rw [hst2]
    rw [Bool.or_eq_false_iff, decide_eq_false_iff_not, decide_eq_false_iff_not] at hc
    cases hE0 : E with
    | none => rw [hE0] at hc; exact absurd (show (-1 : Int) < 0 by omega) hc.1
    | some m =>
      rw [hE0, hx] at hc
      have h2 : ¬ lastT g c l < m := hc.2
      show min m (lastT g c l) = m
      omega
   have hEb : -1 ≤ E.getD (-1) ∧ E.getD (-1) ≤ 400 := by
    cases hE0 : E with
    | none => exact ⟨Int.le_refl _, by show (-1 : Int) ≤ 400; omega⟩
    | some m => have := hbd m hE0; show -1 ≤ m ∧ m ≤ 400; omega
   refine condD (fun hp => ?_) (fun hp => ?_)
   ·have edn : (donL g (g.crew c).lo l).getD (l.length - 1) 0 = lastT g c l := by
     have h := dnN_at g (g.crew c).lo l (i := l.length - 1) (n := l.length) (by omega)
     rw [show l.length - 1 + 1 = l.length by omega] at h
     exact h
    have ei : (l.length : Int) - 1 = ((l.length - 1 : Nat) : Int) := by omega
    simp only [vsAll, binA, binLitA, intA, loadA, loadRow, partA, partOk, indexAddrA, lenA, pickA, opA, guardV, dstOk, nilSliceOp, Nat.reduceLT, Nat.reduceEqDiff, Int.reduceNeg, ↓reduceIte, implies_true, eq_self, wtAll, intF_at, hdl, ei, edn]
    refine ⟨by simp only [InR_i64]; omega, ⟨by omega, by omega⟩, by omega, ?_⟩
    refine condV (fun hq => ?_) (fun hq => ?_)
    ·have h := hfin _ rfl hq
     simp only [vsAll, binA, binLitA, intA, opA, dstOk, nilSliceOp, Nat.reduceLT, Nat.reduceEqDiff, Int.reduceNeg, ↓reduceIte, eq_self]
     refine ⟨by simp only [InR_i64]; omega, loop_next (i + 1) his (by omega) ?_ HSub_rfl⟩
     simp only [vsAll, Nat.reduceEqDiff, Int.reduceNeg, ↓reduceIte, eq_self, h, Int.natCast_add, Int.natCast_one]
    ·have h := hno _ rfl hq
     simp only [vsAll, binA, binLitA, intA, opA, dstOk, nilSliceOp, Nat.reduceLT, Nat.reduceEqDiff, Int.reduceNeg, ↓reduceIte, eq_self]
     refine ⟨by simp only [InR_i64]; omega, loop_next (i + 1) his (by omega) ?_ HSub_rfl⟩
     simp only [vsAll, Nat.reduceEqDiff, Int.reduceNeg, ↓reduceIte, eq_self, h, Int.natCast_add, Int.natCast_one]
   ·have hx : 0 = lastT g c l := by
     have : l.length = 0 := by omega
     rw [hlt, this]; rfl
    simp only [vsAll, binA, binLitA, intA, pickA, opA, guardV, dstOk, Nat.reduceLT, Nat.reduceEqDiff, Int.reduceNeg, ↓reduceIte, implies_true, eq_self]
    refine condV (fun hq => ?_) (fun hq => ?_)
    ·have h := hfin _ hx hq
     simp only [vsAll, binA, binLitA, intA, opA, dstOk, nilSliceOp, Nat.reduceLT, Nat.reduceEqDiff, Int.reduceNeg, ↓reduceIte, eq_self]
     refine ⟨by simp only [InR_i64]; omega, loop_next (i + 1) his (by omega) ?_ HSub_rfl⟩
     simp only [vsAll, Nat.reduceEqDiff, Int.reduceNeg, ↓reduceIte, eq_self, h, Int.natCast_add, Int.natCast_one]
    ·have h := hno _ hx hq
     simp only [vsAll, binA, binLitA, intA, opA, dstOk, nilSliceOp, Nat.reduceLT, Nat.reduceEqDiff, Int.reduceNeg, ↓reduceIte, eq_self]
     refine ⟨by simp only [InR_i64]; omega, loop_next (i + 1) his (by omega) ?_ HSub_rfl⟩
     simp only [vsAll, Nat.reduceEqDiff, Int.reduceNeg, ↓reduceIte, eq_self, h, Int.natCast_add, Int.natCast_one]
  ·have ei : i = L.length := by omega
   subst ei
   simp only [vsAll, opA, dstOk, nilSliceOp, resA, retA.eq_1, Nat.reduceLT, Nat.reduceEqDiff, Int.reduceNeg, ↓reduceIte, eq_self, Tryz.results60, List.take_length]
def tabN (g : Gg) (c i : Nat) : List Int := (List.range i).map fun S => endD g c S
def tabL (g : Gg) (i : Nat) : List (List Int) := (List.range i).map fun c => tabN g c (2 ^ g.N)
def tabD (g : Gg) : List (List Int) := tabL g g.cw.length
theorem tabN_len (g : Gg) (c i : Nat) : (tabN g c i).length = i := by simp [tabN]
theorem tabN_succ (g : Gg) (c i : Nat) : tabN g c (i + 1) = tabN g c i ++ [endD g c i] := by simp [tabN, List.range_succ]
theorem tabL_len (g : Gg) (i : Nat) : (tabL g i).length = i := by simp [tabL]
theorem tabL_succ (g : Gg) (i : Nat) : tabL g (i + 1) = tabL g i ++ [tabN g i (2 ^ g.N)] := by simp [tabL, List.range_succ]
theorem tabD_at (g : Gg) {c : Nat} (h : c < g.cw.length) : (tabD g).getD c [] = tabN g c (2 ^ g.N) := by simp [tabD, tabL, List.getD_eq_getElem?_getD, h]
theorem tabN_at (g : Gg) (c : Nat) {S n : Nat} (h : S < n) : (tabN g c n).getD S 0 = endD g c S := by simp [tabN, List.getD_eq_getElem?_getD, h]
theorem llF_frz {ow : List (List Int)} {l : List Int} {il q c : Nat} (hq : q < ow.length + 1) (hc : c < 1) :
  Frz il 1 l.length (intF l) ((appF ow.length 1 (llF ow) (fun q => [[AV.sl il 1 l.length]].getD q []) q).getD c .any) ((llF (ow ++ [l]) q).getD c .any) := by
 have hc0 : c = 0 := by omega
 subst hc0
 rw [appF_at (by omega)]
 simp only [llF, getD_snoc]
 by_cases e : q = ow.length
 ·rw [if_neg (by omega), if_pos e, e, Nat.sub_self]; exact Frz.hit
 ·rw [if_pos (by omega), if_neg e]; exact Frz.rfl
theorem endD_bd {g : Gg} (k : OkG g) {c S : Nat} (hc : c < g.cw.length) (hS : S < 2 ^ g.N) : -1 ≤ endD g c S ∧ endD g c S ≤ 24 := by
 unfold endD
 cases h : endO g c S with
 | none => exact ⟨Int.le_refl _, by show (-1 : Int) ≤ 24; omega⟩
 | some t =>
   have := end_le k hc hS h
   show -1 ≤ t ∧ t ≤ 24
   omega
theorem dendsM_tri (g : Gg) (H : Hp) (k : OkG g) : Tri Tryz.prog (fnA 73) [g.av, intsAV (hotL g)] H fun r H' => ∃ id, H id = none ∧ r = .ret (.sl id 1 (tabD g).length) ∧ H' = H.set id (.row 1 (tabD g).length (llF (tabD g))) := by
 have hN5 : g.N ≤ 5 := k.nS
 have nC := k.nC
 have hNe : g.N = g.sm.length := rfl
 have hp5 : 2 ^ g.N ≤ 2 ^ 5 := Nat.pow_le_pow_right (by decide) hN5
 refine Tri.drop ?_
 refine tri_v0 (mset [5, 7]) Tryz.func73 (by kernel_rfl) rfl (by simp only [List.length_append, List.length_cons, List.length_nil, Tryz.ntmps73]; decide) ?_
 simp only [vsAll, boxA, boxZ, opA, dstOk, nilSliceOp, argFr, Nat.reduceAdd, Nat.reduceLT, Nat.reduceBEq, eq_self, wtAll, Tryz.ntmps73, Go.V.nilA]
 intro i5 hh_i5; (try simp only [Hp.set_none, ite_none] at hh_i5)
 refine vs_loop (σ := Nat) (fun i => i ≤ g.cw.length) (fun i => [(1, intsAV (hotL g)), (2, gptr g), (5, .sl i5 1 i), (6, i64 i)]) (fun i => H.set i5 (.row 1 i (llF (tabL g i)))) (fun i => g.cw.length - i) 0 (Nat.zero_le _) ?_ ?_ fun i hi => ?_
 ·simp only [vsAll, argFr, Nat.reduceEqDiff, ↓reduceIte, eq_self, Int.natCast_zero]
  try exact AV.Le.refl _
 ·exact HSub.set (HSub.refl _) (row_ext fun q hq => absurd hq (by ((try clear hh_i5); omega)))
 ·simp only [vsAll, binA, binLitA, intA, loadA, loadRow, partA, partOk, fieldAddrA, lenA, opA, dstOk, Nat.reduceLT, Nat.reduceEqDiff, ↓reduceIte, eq_self, wtAll]
  refine condD (fun hd => ?_) (fun hd => ?_)
  ·have his : i < g.cw.length := by ((try clear hh_i5); omega)
   simp only [vsAll, dstOk, Nat.reduceLT, Nat.reduceBEq, eq_self]
   intro i7 hh_i7; (try simp only [Hp.set_none] at hh_i7)
   simp only [vsAll, opA, dstOk, nilSliceOp, Nat.reduceLT, Nat.reduceBEq, eq_self]
   refine vs_loop (σ := Nat) (fun j => j ≤ 2 ^ g.N) (fun j => [(1, intsAV (hotL g)), (2, gptr g), (5, .sl i5 1 i), (6, i64 i), (7, .sl i7 1 j), (8, i64 j)]) (fun j => (H.set i5 (.row 1 i (llF (tabL g i)))).set i7 (.row 1 j (intF (tabN g i j)))) (fun j => 2 ^ g.N - j) 0 (Nat.zero_le _) ?_ ?_ fun j hj => ?_
   ·simp only [vsAll, Nat.reduceEqDiff, ↓reduceIte, eq_self, Int.natCast_zero]
    try exact AV.Le.refl _
   ·exact HSub.set (HSub.refl _) (row_ext fun q hq => absurd hq (by ((try clear hh_i5 hh_i7); omega)))
   ·simp only [vsAll, loadA, loadRow, partA, partOk, fieldAddrA, lenA, okAll, stAll, opsA, opA, dstOk, Nat.reduceLT, Nat.reduceEqDiff, ↓reduceIte, eq_self, wtAll]
    refine callK_pure (gpower_tri g.N _ (by ((try clear hh_i5 hh_i7); omega))) ?_
    simp only [vsAll, binA, binLitA, intA, opA, dstOk, Nat.reduceLT, Nat.reduceEqDiff, ↓reduceIte, eq_self]
    refine condD (fun hd2 => ?_) (fun hd2 => ?_)
    ·have hjs : j < 2 ^ g.N := by ((try clear hh_i5 hh_i7); omega)
     have hb := endD_bd k his hjs
     have eap : appF j 1 (intF (tabN g i j)) (fun q => [[AV.lit (.int .i64 (endD g i j))]].getD q []) = intF (tabN g i (j + 1)) := by
      have h := app_ints (tabN g i j) (endD g i j) (fun q => [[AV.lit (.int .i64 (endD g i j))]].getD q []) rfl
      rw [tabN_len] at h
      rw [tabN_succ]
      exact h
     simp only [vsAll, loadA, loadRow, partA, partOk, okAll, stAll, opsA, opA, dstOk, Nat.reduceLT, Nat.reduceEqDiff, ↓reduceIte, eq_self, wtAll]
     refine callK_pure (dend_tri g i j _ k his hjs) ?_
     simp only [vsAll, binA, binLitA, intA, cellA, cellsA, okParts, buildSliceA, partIdx, elemsA, lensA, partsA, partsOk, opA, appendA, dstOk, nilSliceOp, Nat.reduceMul, Nat.reduceLT, Nat.reduceLeDiff, Nat.reduceEqDiff, Nat.reduceBEq, ↓reduceIte, eq_self, wtAll]
     rw [eap]
     refine ⟨fun q hq => by (have : q = 0 := by ((try clear hh_i5 hh_i7); omega)); subst this; exact ⟨rfl, trivial⟩, by ((try clear hh_i5 hh_i7); omega), by ((try clear hh_i5 hh_i7); omega), by simp only [InR_i64]; ((try clear hh_i5 hh_i7); omega), loop_next (j + 1) hjs (by ((try clear hh_i5 hh_i7); omega)) ?_ ?_⟩
     ·simp only [vsAll, Nat.reduceEqDiff, ↓reduceIte, eq_self, Int.natCast_add, Int.natCast_one]
     ·rw [Hp.set_set]; exact HSub_rfl
    ·have ej : j = 2 ^ g.N := by ((try clear hh_i5 hh_i7); omega)
     subst ej
     simp only [vsAll, binA, binLitA, intA, cellA, cellsA, okParts, buildSliceA, partIdx, elemsA, lensA, partsA, partsOk, opA, appendA, dstOk, nilSliceOp, Nat.reduceMul, Nat.reduceLT, Nat.reduceLeDiff, Nat.reduceEqDiff, Nat.reduceBEq, ↓reduceIte, eq_self, wtAll, hh_i7]
     have eap : appF i 1 (llF (tabL g i)) (fun q => [[AV.sl i7 1 (2 ^ g.N)]].getD q []) = appF (tabL g i).length 1 (llF (tabL g i)) (fun q => [[AV.sl i7 1 (tabN g i (2 ^ g.N)).length]].getD q []) := by rw [tabL_len, tabN_len]
     refine ⟨fun q hq => by (have : q = 0 := by ((try clear hh_i5 hh_i7); omega)); subst this; exact ⟨rfl, trivial⟩, by ((try clear hh_i5 hh_i7); omega), by ((try clear hh_i5 hh_i7); omega), by simp only [InR_i64]; ((try clear hh_i5 hh_i7); omega), ?_⟩
     obtain ⟨n57, n75⟩ : ¬ i5 = i7 ∧ ¬ i7 = i5 := by simp_all
     have hn7 : H i7 = none := by simp_all
     refine loop_ent (Ent.freezeRow (s' := _) (id := i7) (st := 1) (n := 2 ^ g.N) (f := intF (tabN g i (2 ^ g.N))) (j := i5) (st' := 1) (n' := i + 1) (g := appF i 1 (llF (tabL g i)) (fun q => [[AV.sl i7 1 (2 ^ g.N)]].getD q []))
      (g' := llF (tabL g (i + 1))) (by simp only [vsAll, ↓reduceIte, eq_self, hh_i7]) (by simp only [vsAll, ↓reduceIte, eq_self]) n57 (fun t => .rfl) (fun q hq => rfl) (fun q d hq hd' => ?_) ?_)
     ·have h := llF_frz (ow := tabL g i) (l := tabN g i (2 ^ g.N)) (il := i7) (q := q) (c := d) (by rw [tabL_len]; exact hq) hd'
      rw [tabL_len, tabN_len, ← tabL_succ] at h
      exact h
     refine loop_next (i + 1) his (by ((try clear hh_i5 hh_i7); omega)) ?_ (HSub_eqn fun q => ?_)
     ·simp only [vsAll, Nat.reduceEqDiff, ↓reduceIte, eq_self, Int.natCast_add, Int.natCast_one]
     ·by_cases e5 : q = i5
      ·subst e5; right; rw [Hp.set_same, Hp.set_same]
      ·by_cases e7 : q = i7
       ·subst e7; left; rw [Hp.set_ne _ _ e5]; exact hn7
       ·right; rw [Hp.set_ne _ _ e5, Hp.del_ne _ e7, Hp.set_ne _ _ e5, Hp.set_ne _ _ e7, Hp.set_ne _ _ e5, Hp.set_ne _ _ e5]
  ·have ei : i = g.cw.length := by ((try clear hh_i5); omega)
   subst ei
   have hl : (tabD g).length = g.cw.length := tabL_len _ _
   simp only [vsAll, opA, dstOk, nilSliceOp, resA, retA.eq_1, Nat.reduceLT, Nat.reduceEqDiff, Nat.reduceBEq, ↓reduceIte, eq_self, Tryz.results73]
   refine ⟨H.set i5 (.row 1 (tabD g).length (llF (tabD g))), ?_, i5, hh_i5, by rw [hl], rfl⟩
   rw [hl]; exact HSub_rfl
theorem dends_tri (g : Gg) (H : Hp) (k : OkG g) : PTri Tryz.prog (fnA 73) [g.av, intsAV (hotL g)] H (llAV (tabD g)) := by
 refine Tri.thawX (dendsM_tri g H k) fun r H' hr => ?_
 obtain ⟨id, hid, rfl, rfl⟩ := hr
 exact .inr ⟨_, llAV (tabD g), id, 1, (tabD g).length, llF (tabD g), rfl, .inr ⟨Hp.set_same _ _ _, .leaf ⟨rfl, llF (tabD g), fun _ _ => rfl, rfl⟩⟩, rfl, set_del hid⟩
end Go.Proofs.YtdopkbldjagmlaaGreat
end
section
set_option linter.unusedVariables false
set_option linter.unusedSimpArgs false
set_option maxHeartbeats 1000000
set_option maxRecDepth 100000
namespace Go.Proofs.YtdopkbldjagmlaaGreat
open Go.V
def enoE (g : Gg) : Int := setE (errG g true) (fewV (genB g) g.cw.length)
def enoV (g : Gg) : Nat := setV (errG g true) (fewV (genB g) g.cw.length)
theorem wenough_tri (g : Gg) (H : Hp) (kn : NearG g) : PTri Tryz.prog (fnA 23) [g.av] H (.tuple [i64 (enoV g : Nat), i64 (enoE g)]) := by
 refine Tri.drop ?_
 refine tri_am (m := fun _ => false) gans Tryz.func23 (by kernel_rfl) rfl (by simp only [List.length_append, List.length_cons, List.length_nil, Tryz.ntmps23]; decide) ?_
 simp only [vsAll, loadA, loadRow, partA, partOk, boxA, boxZ, okAll, stAll, opsA, opA, allocA, dstOk, nilSliceOp, argFr, Nat.reduceAdd, Nat.reduceLT, Nat.reduceEqDiff, ↓reduceIte, eq_self, wtAll, Tryz.ntmps23]
 intro i3 hh_i3; (try simp only [Hp.set_none, ite_none] at hh_i3)
 refine gopen_call (openG_tri g _ true _ kn trivial rfl (fun k H' id ho => galways_tri (.ref id 0 8 0 0) H' id)) (fun he => ?_) (fun k hv => ?_)
 ·obtain ⟨e1, e2⟩ := setV_no (r := fewV (genB g) g.cw.length) he
  have e1' : enoE g = errG g true := e1
  have e2' : enoV g = 0 := e2
  simp only [vsAll, loadA, loadRow, partA, partOk, resA, retA.eq_2, Nat.reduceEqDiff, ↓reduceIte, eq_self, wtAll, Tryz.results23]
  refine ⟨errG g true, i3, _, rfl, rfl, by simp only [↓reduceIte, eq_self]; try rfl, ?_⟩
  simp only [vsAll, Nat.reduceLT, ↓reduceIte, eq_self]
  refine dropR_pure ?_ (by (repeat (first | exact HSub_rfl | refine HSub_put_eq (by simp only [vsAll, ↓reduceIte, eq_self, reduceCtorEq, Nat.reduceEqDiff, hh_i3]) ?_ | refine HSub_drop2 (by simp only [eq_self, hh_i3]) ?_ | refine HSub_keep_eq (by simp only [vsAll, ↓reduceIte, eq_self, reduceCtorEq, Nat.reduceEqDiff, hh_i3]) ?_)))
  simp only [eq_self, e1', e2', Int.natCast_zero]
 ·have he : errG g true = 0 := errG_ok k
  have nC := k.nC
  have nS := k.nS
  simp only [vsAll, loadA, loadRow, partA, partOk, cellA, cellsA, okAll, stAll, opsA, opA, allocA, newCells, okCells, storeObj, dstOk, Nat.reduceLT, Nat.reduceEqDiff, ↓reduceIte, eq_self, wtAll]
  intro i4 hh_i4; (try simp only [ite_none] at hh_i4)
  refine callK_pure (tables_tri g _ k) ?_
  simp only [vsAll, loadA, loadRow, partA, partOk, fieldAddrA, lenA, nilCheckA, cellA, cellsA, okAll, stAll, opsA, opA, allocA, newCells, okCells, storeObj, dstOk, Nat.reduceLT, Nat.reduceEqDiff, ↓reduceIte, eq_self, wtAll]
  intro i5 hh_i5; (try simp only [ite_none] at hh_i5)
  simp only [vsAll, Nat.reduceLT, ↓reduceIte, eq_self, hh_i5]
  rw [Hp.set_set, Hp.set_set]
  refine callK_pure (gfew_tri (genB g) g.cw.length _ _ (by ((try clear hh_i3 hh_i4 hh_i5); omega)) trivial rfl fun j hj => enough1_tri g j i4 i5 _ k (lt5 hj (by ((try clear hh_i3 hh_i4 hh_i5); omega))) (by simp only [vsAll, ↓reduceIte, eq_self, hh_i5]) (by simp only [vsAll, ↓reduceIte, eq_self])) ?_
  have hlt := fewV_lt (genB g) g.cw.length
  have h32 := lt5 hlt (by ((try clear hh_i3 hh_i4 hh_i5); omega))
  unfold enoV enoE
  rw [he]
  generalize fewV (genB g) g.cw.length = r at h32 ⊢
  simp only [vsAll, extractA, okAll, stAll, opsA, opA, dstOk, nilSliceOp, Nat.reduceAdd, Nat.reduceLT, Nat.reduceEqDiff, ↓reduceIte, eq_self]
  refine gask_call (fun hr => ?_) (fun hr => ?_)
  ·obtain ⟨e1, e2⟩ := setV_some hr
   rw [e1, e2]
   simp only [vsAll, loadA, loadRow, partA, partOk, cellA, cellsA, convA, opA, newCells, okCells, storeObj, dstOk, nilSliceOp, resA, retA.eq_2, Nat.reduceLT, Nat.reduceEqDiff, ↓reduceIte, eq_self, wtAll, Tryz.results23, hh_i4, hh_i5]
   refine ⟨by simp only [InR_i64]; ((try clear hh_i3 hh_i4 hh_i5); omega), i3, _, rfl, by simp only [↓reduceIte, eq_self]; try rfl, dropR_pure rfl (by (repeat (first | exact HSub_rfl | refine HSub_put_eq (by simp only [vsAll, ↓reduceIte, eq_self, reduceCtorEq, Nat.reduceEqDiff, hh_i3, hh_i4, hh_i5]) ?_ | refine HSub_drop2 (by simp only [eq_self, hh_i3, hh_i4, hh_i5]) ?_ | refine HSub_keep_eq (by simp only [vsAll, ↓reduceIte, eq_self, reduceCtorEq, Nat.reduceEqDiff, hh_i3, hh_i4, hh_i5]) ?_)))⟩
  ·obtain ⟨e1, e2⟩ := setV_none hr
   rw [e1, e2]
   simp only [vsAll, loadA, loadRow, partA, partOk, resA, retA.eq_2, Nat.reduceEqDiff, ↓reduceIte, eq_self, wtAll, Tryz.results23, hh_i4, hh_i5]
   refine ⟨4, i3, _, rfl, rfl, by simp only [↓reduceIte, eq_self, hh_i4, hh_i5]; try rfl, ?_⟩
   simp only [vsAll, Nat.reduceLT, ↓reduceIte, eq_self]
   exact dropR_pure rfl (by (repeat (first | exact HSub_rfl | refine HSub_put_eq (by simp only [vsAll, ↓reduceIte, eq_self, reduceCtorEq, Nat.reduceEqDiff, hh_i3, hh_i4, hh_i5]) ?_ | refine HSub_drop2 (by simp only [eq_self, hh_i3, hh_i4, hh_i5]) ?_ | refine HSub_keep_eq (by simp only [vsAll, ↓reduceIte, eq_self, reduceCtorEq, Nat.reduceEqDiff, hh_i3, hh_i4, hh_i5]) ?_)))
def leaE (g : Gg) : Int := errG g true
def leaV (g : Gg) : Nat := if leaE g = 0 then (fewV (leaB g) g.N).getD 0 else 0
theorem wleave_tri (g : Gg) (H : Hp) (kn : NearG g) : PTri Tryz.prog (fnA 25) [g.av] H (.tuple [i64 (leaV g : Nat), i64 (leaE g)]) := by
 refine Tri.drop ?_
 refine tri_am (m := fun _ => false) gans Tryz.func25 (by kernel_rfl) rfl (by simp only [List.length_append, List.length_cons, List.length_nil, Tryz.ntmps25]; decide) ?_
 simp only [vsAll, loadA, loadRow, partA, partOk, boxA, boxZ, okAll, stAll, opsA, opA, allocA, dstOk, nilSliceOp, argFr, Nat.reduceAdd, Nat.reduceLT, Nat.reduceEqDiff, ↓reduceIte, eq_self, wtAll, Tryz.ntmps25]
 intro i3 hh_i3; (try simp only [Hp.set_none, ite_none] at hh_i3)
 refine gopen_call (openG_tri g _ true _ kn trivial rfl (fun k H' id ho => galways_tri (.ref id 0 8 0 0) H' id)) (fun he => ?_) (fun k hv => ?_)
 ·have e1' : leaE g = errG g true := rfl
  have e2' : leaV g = 0 := if_neg he
  simp only [vsAll, loadA, loadRow, partA, partOk, resA, retA.eq_2, Nat.reduceEqDiff, ↓reduceIte, eq_self, wtAll, Tryz.results25]
  refine ⟨errG g true, i3, _, rfl, rfl, by simp only [↓reduceIte, eq_self]; try rfl, ?_⟩
  simp only [vsAll, Nat.reduceLT, ↓reduceIte, eq_self]
  refine dropR_pure ?_ (by (repeat (first | exact HSub_rfl | refine HSub_put_eq (by simp only [vsAll, ↓reduceIte, eq_self, reduceCtorEq, Nat.reduceEqDiff, hh_i3]) ?_ | refine HSub_drop2 (by simp only [eq_self, hh_i3]) ?_ | refine HSub_keep_eq (by simp only [vsAll, ↓reduceIte, eq_self, reduceCtorEq, Nat.reduceEqDiff, hh_i3]) ?_)))
  simp only [eq_self, e1', e2', Int.natCast_zero]
 ·have he : errG g true = 0 := errG_ok k
  have nC := k.nC
  have nS := k.nS
  have hN : g.N ≤ 5 := nS
  have hNe : g.sm.length = g.N := rfl
  have eV : leaV g = (fewV (leaB g) g.N).getD 0 := if_pos he
  have eE : leaE g = 0 := he
  simp only [vsAll, loadA, loadRow, partA, partOk, cellA, cellsA, okAll, stAll, opsA, opA, allocA, newCells, okCells, storeObj, dstOk, Nat.reduceLT, Nat.reduceEqDiff, ↓reduceIte, eq_self, wtAll]
  intro i4 hh_i4; (try simp only [ite_none] at hh_i4)
  refine callK_pure (tables_tri g _ k) ?_
  simp only [vsAll, loadA, loadRow, partA, partOk, fieldAddrA, lenA, nilCheckA, cellA, cellsA, okAll, stAll, opsA, opA, allocA, newCells, okCells, storeObj, dstOk, Nat.reduceLT, Nat.reduceEqDiff, ↓reduceIte, eq_self, wtAll]
  intro i5 hh_i5; (try simp only [ite_none] at hh_i5)
  simp only [vsAll, Nat.reduceLT, ↓reduceIte, eq_self, hh_i5]
  refine callK_pure (every_tri g.sm.length _ nS) ?_
  have eF : 2 ^ g.sm.length - 1 = g.F := rfl
  rw [eF]
  simp only [vsAll, loadA, loadRow, partA, partOk, fieldAddrA, lenA, nilCheckA, cellA, cellsA, okAll, stAll, opsA, opA, allocA, newCells, okCells, storeObj, dstOk, Nat.reduceLT, Nat.reduceEqDiff, ↓reduceIte, eq_self, wtAll, hh_i5]
  intro i6 hh_i6; (try simp only [ite_none] at hh_i6)
  simp only [vsAll, Nat.reduceLT, ↓reduceIte, eq_self, hh_i6, hNe]
  rw [Hp.set_set, Hp.set_set, Hp.set_set]
  refine callK_pure (gfew_tri (leaB g) g.N _ _ (by ((try clear hh_i3 hh_i4 hh_i5 hh_i6); omega)) trivial rfl fun j hj => leave1_tri g j i4 i6 i5 _ k (lt5 hj (by ((try clear hh_i3 hh_i4 hh_i5 hh_i6); omega))) (by simp only [vsAll, ↓reduceIte, eq_self, hh_i5, hh_i6]) (by simp only [vsAll, ↓reduceIte, eq_self]) (by simp only [vsAll, ↓reduceIte, eq_self, hh_i6])) ?_
  have hlt := fewV_lt (leaB g) g.N
  have h32 := lt5 hlt (by ((try clear hh_i3 hh_i4 hh_i5 hh_i6); omega))
  rw [eV, eE]
  generalize fewV (leaB g) g.N = r at h32 ⊢
  simp only [vsAll, loadA, loadRow, partA, partOk, extractA, cellA, cellsA, convA, opA, newCells, okCells, storeObj, dstOk, nilSliceOp, resA, retA.eq_2, Nat.reduceAdd, Nat.reduceLT, Nat.reduceEqDiff, ↓reduceIte, eq_self, wtAll, Tryz.results25, hh_i4, hh_i5, hh_i6]
  refine ⟨by simp only [InR_i64]; ((try clear hh_i3 hh_i4 hh_i5 hh_i6); omega), i3, _, rfl, by simp only [↓reduceIte, eq_self]; try rfl, dropR_pure rfl (by (repeat (first | exact HSub_rfl | refine HSub_put_eq (by simp only [vsAll, ↓reduceIte, eq_self, reduceCtorEq, Nat.reduceEqDiff, hh_i3, hh_i4, hh_i5, hh_i6]) ?_ | refine HSub_drop2 (by simp only [eq_self, hh_i3, hh_i4, hh_i5, hh_i6]) ?_ | refine HSub_keep_eq (by simp only [vsAll, ↓reduceIte, eq_self, reduceCtorEq, Nat.reduceEqDiff, hh_i3, hh_i4, hh_i5, hh_i6]) ?_)))⟩
end Go.Proofs.YtdopkbldjagmlaaGreat
end
section
set_option linter.unusedVariables false
set_option linter.unusedSimpArgs false
set_option maxHeartbeats 1000000
set_option maxRecDepth 100000
namespace Go.Proofs.YtdopkbldjagmlaaGreat
open Go.V
def stsN (g : Gg) (c i : Nat) : List Int := ((List.range i).filter fun S => (endO g c S).isSome).map fun S : Nat => (S : Int)
theorem stsN_yes {g : Gg} {c i : Nat} (h : (endO g c i).isSome = true) : stsN g c (i + 1) = stsN g c i ++ [(i : Int)] := by
 simp [stsN, List.range_succ, List.filter_append, h]
theorem stsN_no {g : Gg} {c i : Nat} (h : (endO g c i).isSome = false) : stsN g c (i + 1) = stsN g c i := by
 simp [stsN, List.range_succ, List.filter_append, h]
theorem stsN_len (g : Gg) (c i : Nat) : (stsN g c i).length ≤ i := by
 have := List.length_filter_le (fun S => (endO g c S).isSome) (List.range i)
 simpa [stsN] using this
def setsE (g : Gg) (c : Int) : Int := errG g (isCw g c)
def setsV (g : Gg) (c : Int) : List Int := if setsE g c = 0 then stsN g c.toNat (2 ^ g.N) else []
def setsR (g : Gg) (c : Int) (H : Hp) : Res → Hp → Prop := fun r H' => ∃ id, H id = none ∧ r = .ret (.tuple [.sl id 1 (setsV g c).length, i64 (setsE g c)]) ∧ H' = H.set id (.row 1 (setsV g c).length (intF (setsV g c)))
theorem wsetsM_tri (g : Gg) (c : Int) (H : Hp) (kn : NearG g) : Tri Tryz.prog (fnA 18) [g.av, i64 c] H (setsR g c H) := by
 refine Tri.drop ?_
 refine tri_am (m := mset [4]) gans Tryz.func18 (by kernel_rfl) rfl (by simp only [List.length_append, List.length_cons, List.length_nil, Tryz.ntmps18]; decide) ?_
 simp only [vsAll, loadA, loadRow, partA, partOk, boxA, boxZ, cellA, okAll, stAll, opsA, opA, allocA, dstOk, argFr, Nat.reduceAdd, Nat.reduceLT, Nat.reduceEqDiff, Nat.reduceBEq, ↓reduceIte, eq_self, wtAll, Tryz.ntmps18, Go.V.nilA]
 intro i4 hh_i4; (try simp only [Hp.set_none, ite_none] at hh_i4); intro i5 hh_i5; (try simp only [ite_none] at hh_i5)
 refine gopen_call (openG_tri g _ (isCw g c) _ kn trivial rfl (fun k H' id ho => sets1_tri g c id H' kn ho)) (fun he => ?_) (fun k hv => ?_)
 ·have e : setsE g c = errG g (isCw g c) := rfl
  have e2 : setsV g c = [] := if_neg he
  simp only [vsAll, loadA, loadRow, partA, partOk, resA, retA.eq_2, Nat.reduceEqDiff, ↓reduceIte, eq_self, wtAll, Tryz.results18]
  refine ⟨errG g (isCw g c), i5, _, rfl, rfl, by simp only [↓reduceIte, eq_self]; try rfl, ?_⟩
  simp only [vsAll, Nat.reduceLT, ↓reduceIte, eq_self]
  refine ⟨_, ?_, i4, hh_i4, by simp only [vsAll, eq_self, e2, e]; try rfl, rfl⟩
  rw [e2]
  refine HSub_put (o' := .row 1 0 fun _ => []) (by simp only [vsAll, ↓reduceIte, eq_self, hh_i5]) (row0_le _ _ _) ?_
  (repeat (first | exact HSub_rfl | refine HSub_put_eq (by simp only [vsAll, ↓reduceIte, eq_self, reduceCtorEq, Nat.reduceEqDiff, hh_i4, hh_i5]) ?_ | refine HSub_drop2 (by simp only [eq_self, hh_i4, hh_i5]) ?_ | refine HSub_keep_eq (by simp only [vsAll, ↓reduceIte, eq_self, reduceCtorEq, Nat.reduceEqDiff, hh_i4, hh_i5]) ?_))
 ·have he : setsE g c = 0 := by unfold setsE; rw [hv]; exact errG_ok k
  rw [isCw_iff] at hv
  obtain ⟨c, rfl⟩ : ∃ n : Nat, c = (n : Int) := ⟨c.toNat, by ((try clear hh_i4 hh_i5); omega)⟩
  have hc : c < g.cw.length := by ((try clear hh_i4 hh_i5); omega)
  have ev : setsV g (c : Int) = stsN g c (2 ^ g.N) := by unfold setsV; rw [if_pos he, Int.toNat_natCast]
  have hN : g.N ≤ 5 := k.nS
  have nS := k.nS
  have hNe : g.N = g.sm.length := rfl
  have hpw : 2 ^ g.N ≤ 2 ^ 5 := Nat.pow_le_pow_right (by ((try clear hh_i4 hh_i5); omega)) hN
  have ep : (1 : Int) * 2 ^ g.sm.length = ((2 ^ g.N : Nat) : Int) := by rw [Int.one_mul]; simp [Gg.N]
  simp only [vsAll, loadA, loadRow, partA, partOk, okAll, stAll, opsA, opA, dstOk, nilSliceOp, Nat.reduceLT, Nat.reduceEqDiff, Nat.reduceBEq, ↓reduceIte, eq_self, wtAll]
  refine callK_pure (table_tri g c _ k hc) ?_
  simp only [vsAll, binA, binLitA, intA, loadA, loadRow, partA, partOk, fieldAddrA, lenA, nilCheckA, opA, allocA, storeObj, dstOk, Nat.reduceMul, Nat.reduceLT, Nat.reduceEqDiff, ↓reduceIte, eq_self, wtAll, ep]
  intro i7 hh_i7; (try simp only [ite_none] at hh_i7)
  have eta : ∀ i, i < 2 ^ g.N → tabF g c i = [i64 (tabV g c i)] := fun i hi => tF_at g c _ _ hi
  generalize hM : 2 ^ g.N = M at hpw eta ev ep ⊢
  refine ⟨fun q _ => tF_ok g c _ _ q, ⟨by ((try clear hh_i4 hh_i5 hh_i7); omega), by ((try clear hh_i4 hh_i5 hh_i7); omega), by simp only [InR_i64]; ((try clear hh_i4 hh_i5 hh_i7); omega)⟩, ?_⟩
  rw [Hp.set_set]
  have hlen := fun i => stsN_len g c i
  refine vs_loop (σ := Nat) (fun i => i ≤ M) (fun i => [(4, .sl i4 1 (stsN g c i).length), (5, .ref i5 0 1 0 0), (7, .ref i7 0 1 0 0), (21, i64 M), (22, i64 i)]) (fun i => ((H.set i4 (.row 1 (stsN g c i).length (intF (stsN g c i)))).set i5 (.box 1 1 fun _ => [i64 0])).set i7 (.box 1 32 (tabF g c))) (fun i => M - i) 0 (Nat.zero_le _) ?_ ?_ fun i hi => ?_
  ·simp only [vsAll, Nat.reduceEqDiff, ↓reduceIte, eq_self, Int.natCast_zero]
   try exact AV.Le.refl _
  ·show Go.V.HSub _ (((H.set i4 (.row 1 0 (intF []))).set i5 (.box 1 1 fun _ => [i64 0])).set i7 (.box 1 32 (tabF g c)))
   refine HSub_put_eq (by simp only [vsAll, ↓reduceIte, eq_self]) ?_
   refine HSub_put_eq (by simp only [vsAll, ↓reduceIte, eq_self, hh_i7]) ?_
   refine HSub_put (o' := .row 1 0 fun _ => []) (by simp only [vsAll, ↓reduceIte, eq_self, hh_i5, hh_i7]) (row0_le _ _ _) ?_
   (repeat (first | exact HSub_rfl | refine HSub_put_eq (by simp only [vsAll, ↓reduceIte, eq_self, reduceCtorEq, Nat.reduceEqDiff, hh_i4, hh_i5, hh_i7]) ?_ | refine HSub_drop2 (by simp only [eq_self, hh_i4, hh_i5, hh_i7]) ?_ | refine HSub_keep_eq (by simp only [vsAll, ↓reduceIte, eq_self, reduceCtorEq, Nat.reduceEqDiff, hh_i4, hh_i5, hh_i7]) ?_))
  ·simp only [vsAll, binA, binLitA, intA, opA, dstOk, Nat.reduceLT, Nat.reduceEqDiff, ↓reduceIte, eq_self]
   refine condD (fun hd => ?_) (fun hd => ?_)
   ·have his : i < M := by ((try clear hh_i4 hh_i5 hh_i7); omega)
    have e1 := eta i his
    have htl := tab_le k hc (S := i) (by ((try clear hh_i4 hh_i5 hh_i7); omega))
    simp only [vsAll, binA, binLitA, intA, loadA, loadRow, partA, partOk, indexAddrA, opA, dstOk, nilSliceOp, Nat.reduceLT, Nat.reduceEqDiff, Nat.reduceBEq, ↓reduceIte, eq_self, wtAll, e1]
    refine ⟨⟨by ((try clear hh_i4 hh_i5 hh_i7); omega), by ((try clear hh_i4 hh_i5 hh_i7); omega)⟩, by ((try clear hh_i4 hh_i5 hh_i7); omega), ?_⟩
    refine condV (fun hc1 => ?_) (fun hc1 => ?_)
    ·rw [decide_eq_true_eq, htl.2.2] at hc1
     have es := stsN_yes hc1
     have hl := hlen i
     have el : (stsN g c (i + 1)).length = (stsN g c i).length + 1 := by rw [es]; simp
     simp only [vsAll, binA, binLitA, intA, cellA, cellsA, okParts, buildSliceA, partIdx, elemsA, lensA, partsA, partsOk, opA, appendA, dstOk, nilSliceOp, Nat.reduceMul, Nat.reduceLT, Nat.reduceLeDiff, Nat.reduceEqDiff, Nat.reduceBEq, ↓reduceIte, eq_self, wtAll, hh_i5, hh_i7]
     refine ⟨fun q hq => by (have : q = 0 := by ((try clear hh_i4 hh_i5 hh_i7); omega)); subst this; simp only [vsAll, cellA, okCells, eq_self], by ((try clear hh_i4 hh_i5 hh_i7); omega), by ((try clear hh_i4 hh_i5 hh_i7); omega), by simp only [InR_i64]; ((try clear hh_i4 hh_i5 hh_i7); omega), loop_next (i + 1) (by ((try clear hh_i4 hh_i5 hh_i7); omega)) (by ((try clear hh_i4 hh_i5 hh_i7); omega)) ?_ ?_⟩
     ·simp only [vsAll, Nat.reduceEqDiff, ↓reduceIte, eq_self, el, Int.natCast_add, Int.natCast_one]
      try exact AV.Le.refl _
     ·rw [el, es, app_ints (stsN g c i) (i : Int) _ rfl]
      (repeat (first | exact HSub_rfl | refine HSub_put_eq (by simp only [vsAll, ↓reduceIte, eq_self, hh_i5, hh_i7]) ?_ | refine HSub_drop2 (by simp only [eq_self, hh_i4, hh_i5, hh_i7]) ?_ | refine HSub_keep_eq (by simp only [vsAll, ↓reduceIte, eq_self, reduceCtorEq, Nat.reduceEqDiff, hh_i4, hh_i5, hh_i7]) ?_))
    ·rw [decide_eq_false_iff_not, htl.2.2, Bool.not_eq_true] at hc1
     have es := stsN_no hc1
     simp only [vsAll, binA, binLitA, intA, opA, dstOk, Nat.reduceLT, Nat.reduceEqDiff, ↓reduceIte, eq_self]
     refine ⟨by simp only [InR_i64]; ((try clear hh_i4 hh_i5 hh_i7); omega), loop_next (i + 1) (by ((try clear hh_i4 hh_i5 hh_i7); omega)) (by ((try clear hh_i4 hh_i5 hh_i7); omega)) ?_ ?_⟩
     ·simp only [vsAll, Nat.reduceEqDiff, ↓reduceIte, eq_self, es, Int.natCast_add, Int.natCast_one]
      try exact AV.Le.refl _
     ·rw [es]; exact HSub_rfl
   ·have ei : i = M := by ((try clear hh_i4 hh_i5 hh_i7); omega)
    subst ei
    simp only [vsAll, loadA, loadRow, partA, partOk, cellA, cellsA, opA, newCells, okCells, storeObj, dstOk, nilSliceOp, resA, retA.eq_2, Nat.reduceLT, Nat.reduceEqDiff, Nat.reduceBEq, ↓reduceIte, eq_self, wtAll, Tryz.results18, hh_i7]
    refine ⟨i5, _, rfl, by simp only [↓reduceIte, eq_self]; try rfl, ?_⟩
    refine ⟨H.set i4 (.row 1 (setsV g c).length (intF (setsV g c))), ?_, i4, hh_i4, by rw [ev, he], rfl⟩
    rw [ev]
    (repeat (first | exact HSub_rfl | refine HSub_put_eq (by simp only [vsAll, ↓reduceIte, eq_self, hh_i5, hh_i7]) ?_ | refine HSub_drop2 (by simp only [eq_self, hh_i4, hh_i5, hh_i7]) ?_ | refine HSub_keep_eq (by simp only [vsAll, ↓reduceIte, eq_self, reduceCtorEq, Nat.reduceEqDiff, hh_i4, hh_i5, hh_i7]) ?_))
theorem wsets_tri (g : Gg) (c : Int) (H : Hp) (kn : NearG g) : PTri Tryz.prog (fnA 18) [g.av, i64 c] H (.tuple [intsAV (setsV g c), i64 (setsE g c)]) := by
 refine Tri.thaw (wsetsM_tri g c H kn) ?_
 rintro r H' ⟨id, hid, rfl, rfl⟩
 right
 exact ⟨_, id, 1, _, _, 0, rfl, Hp.set_same _ _ _, by simp, rfl, rfl, set_del hid⟩
end Go.Proofs.YtdopkbldjagmlaaGreat
end
section
set_option linter.unusedVariables false
set_option linter.unusedSimpArgs false
set_option maxRecDepth 100000
namespace Go.Proofs.YtdopkbldjagmlaaGreat
open Go.V
def smG (f : Int) : Gg := ⟨[⟨20, 2, 12, -1⟩, ⟨12, 0, f, 0⟩, ⟨9, 3, 12, 1⟩], [⟨5, 6, 7⟩, ⟨4, 4, 6⟩], ⟨8, 1, 16, [4, 0], [⟨4, 0, 8⟩, ⟨6, 0, 8⟩]⟩⟩
theorem sm_ok : OkG (smG 10) := by decide +kernel
theorem sm_ok8 : OkG (smG 8) := by decide +kernel
theorem sm1 : readyV (smG 10) 1 = 6 := by decide +kernel
theorem sm2 : readyE (smG 10) 1 = 0 := by decide +kernel
theorem sm3 : rowV (smG 10) 0 [0, 1, 2] = [(6, 6), (8, 9), (10, 11)] := by decide +kernel
theorem sm4 : rowE (smG 10) 0 [0, 1, 2] = 0 := by decide +kernel
theorem sm5 : chkV (smG 10) 0 [1, 0] = 0 := by decide +kernel
theorem sm6 : chkE (smG 10) 0 [1, 0] = 0 := by decide +kernel
theorem sm7 : canV (smG 10) 1 6 = [1, 2] := by decide +kernel
theorem sm8 : canE (smG 10) 1 6 = 0 := by decide +kernel
theorem sm9 : setsV (smG 10) 1 = [0, 2, 4, 6] := by decide +kernel
theorem sm10 : setsE (smG 10) 1 = 0 := by decide +kernel
theorem sm11 : dealH (smG 10) = 9 := by decide +kernel
theorem sm12 : dealL (smG 10) = [0, 0, 1] := by decide +kernel
theorem sm13 : dealE (smG 10) = 0 := by decide +kernel
theorem sm14 : enoV (smG 10) = 1 := by decide +kernel
theorem sm15 : enoE (smG 10) = 0 := by decide +kernel
theorem sm16 : leaV (smG 8) = 2 := by decide +kernel
theorem sm17 : leaE (smG 8) = 0 := by decide +kernel
theorem sm18 : canV (smG 10) 0 7 = [0, 1, 2] := by decide +kernel
theorem sm19 : canE (smG 10) 0 7 = 0 := by decide +kernel
end Go.Proofs.YtdopkbldjagmlaaGreat
end
section
set_option linter.unusedVariables false
set_option linter.unusedSimpArgs false
set_option maxHeartbeats 2000000
set_option maxRecDepth 100000
namespace Go.Proofs.YtdopkbldjagmlaaGreat
open Go.V
theorem gints_tri (a b : List Int) (H : Hp) (ha : a.length < 2 ^ 60) (hb : b.length < 2 ^ 60) : PTri Tryz.prog (fnA 20) [intsAV a, intsAV b] H (boo (decide (a = b))) := by
 refine tri_v0 (fun _ => false) Tryz.func20 (by kernel_rfl) rfl (by simp only [List.length_append, List.length_cons, List.length_nil, Tryz.ntmps20]; decide) ?_
 simp only [vsAll, binA, binLitA, intA, lenA, opA, dstOk, nilSliceOp, argFr, Nat.reduceLT, Nat.reduceEqDiff, ↓reduceIte, reduceCtorEq, eq_self, wtAll, Tryz.ntmps20]
 refine condV (fun hc => ?_) (fun hc => ?_)
 ·have : decide (a = b) = false := decide_eq_false fun e => by subst e; simp at hc
  simp only [vsAll, opA, dstOk, nilSliceOp, resA, retA.eq_1, Nat.reduceLT, ↓reduceIte, eq_self, Tryz.results20, this]
 ·simp only [Bool.not_eq_false', decide_eq_true_eq] at hc
  simp only [vsAll, opA, dstOk, nilSliceOp, Nat.reduceLT, eq_self]
  refine vs_loop (σ := Nat) (fun i => i ≤ a.length ∧ ∀ j, j < i → a.getD j 0 = b.getD j 0) (fun i => [(0, intsAV a), (1, intsAV b), (5, i64 i)]) (fun _ => H) (fun i => a.length - i) 0 ⟨Nat.zero_le _, fun j hj => absurd hj (by omega)⟩ ?_ ?_ fun i hi => ?_
  ·simp only [vsAll, argFr, Nat.reduceEqDiff, ↓reduceIte, reduceCtorEq, eq_self, Int.natCast_zero]
  ·simp only [HSub_refl]
  ·obtain ⟨hi, hall⟩ := hi
   simp only [vsAll, binA, binLitA, intA, lenA, opA, dstOk, Nat.reduceLT, Nat.reduceEqDiff, ↓reduceIte, reduceCtorEq, eq_self, wtAll]
   refine condD (fun hd => ?_) (fun hd => ?_)
   ·simp only [vsAll]
    refine vs_draw 9 (by decide +kernel) ?_
    simp only [vsAll, binA, binLitA, intA, loadA, loadRow, partA, partOk, indexAddrA, opA, dstOk, Nat.reduceLT, Nat.reduceEqDiff, ↓reduceIte, reduceCtorEq, eq_self, wtAll, intF_at]
    refine ⟨by omega, by omega, by omega, by omega, condV (fun hf => ?_) (fun hf => ?_)⟩
    ·have : decide (a = b) = false := decide_eq_false fun e => by subst e; simp at hf
     simp only [vsAll, opA, dstOk, nilSliceOp, resA, retA.eq_1, Nat.reduceLT, ↓reduceIte, eq_self, Tryz.results20, this]
    ·simp only [Bool.not_eq_false', decide_eq_true_eq] at hf
     simp only [vsAll, binA, binLitA, intA, opA, dstOk, nilSliceOp, Nat.reduceLT, Nat.reduceEqDiff, ↓reduceIte, reduceCtorEq, eq_self]
     refine ⟨by simp only [InR_i64]; omega, loop_next (i + 1) ⟨by omega, fun j hj => ?_⟩ (by omega) ?_ ?_⟩
     ·by_cases e : j = i
      ·subst e; exact hf
      ·exact hall j (by omega)
     ·simp only [vsAll, Nat.reduceEqDiff, ↓reduceIte, reduceCtorEq, eq_self, Int.natCast_add, Int.natCast_one]
     ·simp only [HSub_refl]
   ·have ei : i = a.length := by omega
    subst ei
    have : decide (a = b) = true := decide_eq_true (by
     apply List.ext_getElem (by omega)
     intro j h1 h2
     have := hall j h1
     rw [List.getD_eq_getElem?_getD, List.getD_eq_getElem?_getD, List.getElem?_eq_getElem h1, List.getElem?_eq_getElem h2] at this
     exact this)
    simp only [vsAll, opA, dstOk, nilSliceOp, resA, retA.eq_1, Nat.reduceLT, ↓reduceIte, eq_self, Tryz.results20, this]
theorem eq59q : eqT Tryz.prog 59 2 := eqT_of (by kernel_rfl) (by kernel_rfl) (by kernel_rfl) (by kernel_rfl) (by kernel_rfl)
theorem gspans_tri (a b : List (Int × Int)) (H : Hp) (ha : a.length < 2 ^ 60) (hb : b.length < 2 ^ 60) : PTri Tryz.prog (fnA 15) [spaAV a, spaAV b] H (boo (decide (a = b))) := by
 refine tri_v0 (fun _ => false) Tryz.func15 (by kernel_rfl) rfl (by simp only [List.length_append, List.length_cons, List.length_nil, Tryz.ntmps15]; decide) ?_
 simp only [vsAll, binA, binLitA, intA, lenA, opA, dstOk, nilSliceOp, argFr, Nat.reduceLT, Nat.reduceEqDiff, ↓reduceIte, reduceCtorEq, eq_self, wtAll, Tryz.ntmps15]
 refine condV (fun hc => ?_) (fun hc => ?_)
 ·have : decide (a = b) = false := decide_eq_false fun e => by subst e; simp at hc
  simp only [vsAll, opA, dstOk, nilSliceOp, resA, retA.eq_1, Nat.reduceLT, ↓reduceIte, eq_self, Tryz.results15, this]
 ·simp only [Bool.not_eq_false', decide_eq_true_eq] at hc
  simp only [vsAll, opA, dstOk, nilSliceOp, Nat.reduceLT, eq_self]
  refine vs_loop (σ := Nat) (fun i => i ≤ a.length ∧ ∀ j, j < i → a.getD j (0, 0) = b.getD j (0, 0)) (fun i => [(0, spaAV a), (1, spaAV b), (5, i64 i)]) (fun _ => H) (fun i => a.length - i) 0 ⟨Nat.zero_le _, fun j hj => absurd hj (by omega)⟩ ?_ ?_ fun i hi => ?_
  ·simp only [vsAll, argFr, Nat.reduceEqDiff, ↓reduceIte, reduceCtorEq, eq_self, Int.natCast_zero]
  ·simp only [HSub_refl]
  ·obtain ⟨hi, hall⟩ := hi
   simp only [vsAll, binA, binLitA, intA, lenA, opA, dstOk, Nat.reduceLT, Nat.reduceEqDiff, ↓reduceIte, reduceCtorEq, eq_self, wtAll]
   refine condD (fun hd => ?_) (fun hd => ?_)
   ·simp only [vsAll]
    refine vs_draw 9 (by decide +kernel) ?_
    simp only [vsAll, binA, aggA, loadA, loadRow, partA, partOk, indexAddrA, opA, dstOk, Nat.reduceAdd, Nat.reduceLT, Nat.reduceEqDiff, ↓reduceIte, reduceCtorEq, eq_self, wtAll, spaF_at]
    have ep : ∀ x y : Int × Int, ([x.1, x.2] = [y.1, y.2]) = (x = y) := fun x y => by
     rcases x with ⟨x1, x2⟩; rcases y with ⟨y1, y2⟩; simp
    refine ⟨by omega, by omega, by omega, by omega, eq59q, condV (fun hf => ?_) (fun hf => ?_)⟩
    ·have : decide (a = b) = false := decide_eq_false fun e => by subst e; simp at hf
     simp only [vsAll, opA, dstOk, nilSliceOp, resA, retA.eq_1, Nat.reduceLT, ↓reduceIte, eq_self, Tryz.results15, this]
    ·simp only [Bool.not_eq_false', decide_eq_true_eq, ep] at hf
     simp only [vsAll, binA, binLitA, intA, opA, dstOk, nilSliceOp, Nat.reduceLT, Nat.reduceEqDiff, ↓reduceIte, reduceCtorEq, eq_self]
     refine ⟨by simp only [InR_i64]; omega, loop_next (i + 1) ⟨by omega, fun j hj => ?_⟩ (by omega) ?_ ?_⟩
     ·by_cases e : j = i
      ·subst e; exact hf
      ·exact hall j (by omega)
     ·simp only [vsAll, Nat.reduceEqDiff, ↓reduceIte, reduceCtorEq, eq_self, Int.natCast_add, Int.natCast_one]
     ·simp only [HSub_refl]
   ·have ei : i = a.length := by omega
    subst ei
    have : decide (a = b) = true := decide_eq_true (by
     apply List.ext_getElem (by omega)
     intro j h1 h2
     have := hall j h1
     rw [List.getD_eq_getElem?_getD, List.getD_eq_getElem?_getD, List.getElem?_eq_getElem h1, List.getElem?_eq_getElem h2] at this
     exact this)
    simp only [vsAll, opA, dstOk, nilSliceOp, resA, retA.eq_1, Nat.reduceLT, ↓reduceIte, eq_self, Tryz.results15, this]
/-- Too large to be looked at. -/
def farG (g : Gg) (n : Nat) : Bool := decide ((40 : Int) < max (max (max (max (g.sm.length : Int) (g.cw.length : Int)) (g.pt.fs.length : Int)) (g.pt.ps.length : Int)) (n : Int))
theorem gfar_tri (g : Gg) (l : List Int) (H : Hp) : PTri Tryz.prog (fnA 27) [g.av, intsAV l] H (boo (farG g l.length)) := by
 refine tri_v0 (fun _ => false) Tryz.func27 (by kernel_rfl) rfl (by simp only [List.length_append, List.length_cons, List.length_nil, Tryz.ntmps27]; decide) ?_
 simp only [vsAll, binA, binLitA, intA, loadA, loadRow, partA, partOk, fieldAddrA, lenA, boxA, boxZ, mmA, okAll, stAll, opsA, opA, dstOk, nilSliceOp, resA, argFr, retA.eq_1, Nat.reduceAdd, Nat.reduceLT, Nat.reduceEqDiff, ↓reduceIte, eq_self, wtAll, Tryz.ntmps27, Tryz.results27]
 rfl
theorem farG_near {g : Gg} {n : Nat} (h : farG g n = false) : NearG g ∧ n ≤ 40 := by
 have := of_decide_eq_false h
 exact ⟨⟨by omega, by omega, ⟨by omega, by omega⟩⟩, by omega⟩
def fineG (g : Gg) : Bool := !farG g 0 && decide (OkG g)
theorem gspan_tri (a b : Int) (H : Hp) : PTri Tryz.prog (fnA 35) [i64 a, i64 b] H (.agg [i64 a, i64 b]) := by
 refine Tri.drop ?_
 refine tri_v0 (fun _ => false) Tryz.func35 (by kernel_rfl) rfl (by simp only [List.length_append, List.length_cons, List.length_nil, Tryz.ntmps35]; decide) ?_
 simp only [vsAll, loadA, loadRow, partA, partOk, cellA, cellsA, fillA, okParts, partsA, partsOk, opA, allocA, newCells, okCells, storeObj, dstOk, resA, argFr, retA.eq_1, Nat.reduceAdd, Nat.reduceLT, Nat.reduceLeDiff, Nat.reduceEqDiff, ↓reduceIte, reduceCtorEq, eq_self, wtAll, Tryz.ntmps35, Tryz.results35]
 intro i4 hh_i4; (try simp only [Hp.set_none, ite_none] at hh_i4)
 refine dropR_pure ?_ (by (repeat (first | exact HSub_rfl | refine HSub_put_eq (by simp only [vsAll, ↓reduceIte, eq_self, reduceCtorEq, Nat.reduceEqDiff, hh_i4]) ?_ | refine HSub_drop2 (by simp only [eq_self, hh_i4]) ?_ | refine HSub_keep_eq (by simp only [vsAll, ↓reduceIte, eq_self, reduceCtorEq, Nat.reduceEqDiff, hh_i4]) ?_)))
 rfl
theorem setL_take (l : List Int) {i : Nat} (hi : i < l.length) : setL (l.take (i + 1)) = setL (l.take i) ||| 2 ^ (l.getD i 0).toNat := by
 rw [List.take_add_one, List.getElem?_eq_getElem hi]
 simp only [Option.toList_some, setL_snoc]
 rw [List.getD_eq_getElem?_getD, List.getElem?_eq_getElem hi]
 rfl
theorem setL_bd (l : List Int) (h : ∀ i, i < l.length → 0 ≤ l.getD i 0 ∧ l.getD i 0 < 5) : ∀ i, i ≤ l.length → setL (l.take i) < 2 ^ 5
 | 0, _ => by simp [setL]
 | i + 1, hi => by
   rw [setL_take l (by omega)]
   have := h i (by omega)
   exact Nat.or_lt_two_pow (setL_bd l h i (by omega)) (Nat.pow_lt_pow_right (by decide) (by omega))
end Go.Proofs.YtdopkbldjagmlaaGreat
end
section
set_option linter.unusedVariables false
set_option linter.unusedSimpArgs false
set_option maxHeartbeats 4000000
set_option maxRecDepth 100000
namespace Go.Proofs.YtdopkbldjagmlaaGreat
open Go.V
theorem errG_zero {g : Gg} {v : Bool} (h : errG g v = 0) : OkG g ∧ v = true := by
 unfold errG at h
 split at h
 ·rename_i k
  refine ⟨k, ?_⟩
  split at h
  ·assumption
  ·cases h
 ·cases h
theorem dchk_tri (g : Gg) (v : Bool) (H : Hp) (kn : NearG g) : PTri Tryz.prog (fnA 41) [g.av, boo v] H (i64 (errG g v)) := by
 refine tri_v0 (fun _ => false) Tryz.func41 (by kernel_rfl) rfl (by simp only [List.length_append, List.length_cons, List.length_nil, Tryz.ntmps41]; decide) ?_
 simp only [vsAll, loadA, loadRow, partA, partOk, boxA, boxZ, okAll, stAll, opsA, opA, dstOk, nilSliceOp, argFr, Nat.reduceAdd, Nat.reduceLT, Nat.reduceEqDiff, ↓reduceIte, eq_self, wtAll, Tryz.ntmps41]
 refine callK_pure (gangs_tri g _ kn) ?_
 by_cases k : OkG g
 ·have e : decide (OkG g) = true := decide_eq_true k
  simp only [vsAll, unA, opA, dstOk, argFr, Nat.reduceLT, Nat.reduceEqDiff, ↓reduceIte, eq_self, e]
  cases v with
  | true => rw [errG_ok k]; simp only [vsAll, opA, dstOk, nilSliceOp, resA, retA.eq_1, Nat.reduceLT, ↓reduceIte, eq_self, Tryz.results41]
  | false => rw [errG_bad k]; simp only [vsAll, opA, dstOk, nilSliceOp, resA, retA.eq_1, Nat.reduceLT, ↓reduceIte, eq_self, Tryz.results41]
 ·have e : decide (OkG g) = false := decide_eq_false k
  rw [errG_no k]
  simp only [vsAll, unA, opA, dstOk, nilSliceOp, resA, retA.eq_1, Nat.reduceLT, ↓reduceIte, eq_self, Tryz.results41, e]
def spN (g : Gg) (c : Nat) (l : List Int) (i : Nat) : List (Int × Int) := (List.range i).map fun j => (donN g (g.crew c).hi l (j + 1), donN g (g.crew c).lo l (j + 1))
end Go.Proofs.YtdopkbldjagmlaaGreat
end
section
set_option linter.unusedVariables false
set_option linter.unusedSimpArgs false
namespace Go.Proofs.YtdopkbldjagmlaaGreat
open Go.V
/-- Seams of some gangs are those of others, by other numbers. -/
structure RenS (h g : Gg) (φ : Nat → Nat) : Prop where
 s : ∀ n, n < h.N → φ n < g.N ∧ begV h n = begV g (φ n) ∧ (h.seam n).fa = (g.seam (φ n)).fa ∧ (h.seam n).fl = (g.seam (φ n)).fl
 i : ∀ n m, n < h.N → m < h.N → φ n = φ m → n = m
/-- A crew is another one, by other numbers of seams. -/
structure RenC (h g : Gg) (φ : Nat → Nat) (c d : Nat) : Prop where
 lo : (h.crew c).lo = (g.crew d).lo
 hi : (h.crew c).hi = (g.crew d).hi
 k : ∀ n, n < h.N → (h.crew c).st.toNat.testBit n = (g.crew d).st.toNat.testBit (φ n)
structure Ren (h g : Gg) (φ ψ : Nat → Nat) : Prop extends RenS h g φ where
 c : ∀ c, c < h.cw.length → ψ c < g.cw.length ∧ RenC h g φ c (ψ c)
def mpL (φ : Nat → Nat) (l : List Int) : List Int := l.map fun x => ((φ x.toNat : Nat) : Int)
theorem mpL_len (φ : Nat → Nat) (l : List Int) : (mpL φ l).length = l.length := by simp [mpL]
theorem mpL_at (φ : Nat → Nat) (l : List Int) {i : Nat} (h : i < l.length) : (mpL φ l).getD i 0 = ((φ (l.getD i 0).toNat : Nat) : Int) := by
 simp [mpL, List.getD_eq_getElem?_getD, h]
/-- All of a list are seams. -/
def InG (h : Gg) (l : List Int) : Prop := ∀ i, i < l.length → ∃ n : Nat, l.getD i 0 = (n : Int) ∧ n < h.N
theorem ren_don {h g : Gg} {φ : Nat → Nat} (R : RenS h g φ) (sp : Int) {l : List Int} (hl : InG h l) : ∀ i, i ≤ l.length → donN g sp (mpL φ l) i = donN h sp l i
 | 0, _ => rfl
 | i + 1, hi => by
   obtain ⟨n, e, hn⟩ := hl i (by omega)
   obtain ⟨s1, s2, s3, s4⟩ := R.s n hn
   simp only [donN]
   rw [ren_don R sp hl i (by omega), mpL_at φ l (by omega), e, Int.toNat_natCast, Int.toNat_natCast]
   unfold stT tkG
   rw [s2, s3]
theorem ren_kn {h g : Gg} {φ : Nat → Nat} {c d : Nat} (R : RenS h g φ) (rc : RenC h g φ c d) {n : Nat} (hn : n < h.N) : knB g d (φ n) = knB h c n := by
 unfold knB
 rw [rc.k n hn, (R.s n hn).2.1]
theorem ren_rgt {h g : Gg} {φ : Nat → Nat} {c d : Nat} (R : RenS h g φ) (rc : RenC h g φ c d) {l : List Int} (hl : InG h l) : rgtB g d (mpL φ l) = rgtB h c l := by
 rw [Bool.eq_iff_iff, rgt_iff, rgt_iff, mpL_len]
 refine forall_congr' fun i => forall_congr' fun hi => ?_
 obtain ⟨n, e, hn⟩ := hl i hi
 rw [mpL_at φ l hi, e, Int.toNat_natCast, Int.toNat_natCast, ren_kn R rc hn, ren_don R _ hl _ hi, (R.s n hn).2.2.2, rc.lo]
/-- A set, by the other numbers. -/
def Img (h : Gg) (φ : Nat → Nat) (S T : Nat) : Prop := S < 2 ^ h.N ∧ ∀ n, T.testBit n = true ↔ ∃ m, S.testBit m = true ∧ φ m = n
theorem Img.lt {h g : Gg} {φ : Nat → Nat} (R : RenS h g φ) {S T : Nat} (I : Img h φ S T) : T < 2 ^ g.N := by
 refine Nat.lt_pow_two_of_testBit _ fun i hi => ?_
 cases e : T.testBit i with
 | false => rfl
 | true =>
   obtain ⟨m, h1, h2⟩ := (I.2 i).1 e
   have := (R.s m (bit_lt I.1 h1)).1
   omega
theorem row_in {h : Gg} {S : Nat} (hS : S < 2 ^ h.N) {l : List Int} (hl : RowOf S l) : InG h l := fun i hi => by
 obtain ⟨n, e, hn⟩ := hl.at_ i hi
 exact ⟨n, e, bit_lt hS hn⟩
theorem mpL_mem {φ : Nat → Nat} {l : List Int} {x : Int} : x ∈ mpL φ l ↔ ∃ y ∈ l, ((φ y.toNat : Nat) : Int) = x := by simp [mpL]
theorem ren_row {h g : Gg} {φ : Nat → Nat} (R : RenS h g φ) {S T : Nat} (I : Img h φ S T) {l : List Int} (hl : RowOf S l) : RowOf T (mpL φ l) := by
 have hi := row_in I.1 hl
 refine ⟨fun i hi2 => ?_, fun i j hij hj e => ?_⟩
 ·rw [mpL_len] at hi2
  obtain ⟨n, e, hn⟩ := hl.at_ i hi2
  exact ⟨φ n, by rw [mpL_at φ l hi2, e, Int.toNat_natCast], (I.2 _).2 ⟨n, hn, rfl⟩⟩
 ·rw [mpL_len] at hj
  rw [mpL_at φ l (by omega), mpL_at φ l hj] at e
  obtain ⟨n, e1, hn⟩ := hi i (by omega)
  obtain ⟨m, e2, hm⟩ := hi j hj
  rw [e1, e2, Int.toNat_natCast, Int.toNat_natCast] at e
  have := R.i n m hn hm (by omega)
  subst this
  exact hl.nd i j hij hj (by rw [e1, e2])
theorem ren_full {h g : Gg} {φ : Nat → Nat} (R : RenS h g φ) (hN : g.N ≤ 5) (hM : h.N ≤ 5) {S T : Nat} (I : Img h φ S T) {l : List Int} (hl : RowOf S l) : (mpL φ l).length = pop T ↔ l.length = pop S := by
 have hr := ren_row R I hl
 rw [← (rowOf_full (lt32 hN (Img.lt R I)) hr).2, ← (rowOf_full (lt32 hM I.1) hl).2]
 have hi := row_in I.1 hl
 constructor
 ·intro e
  refine Nat.eq_of_testBit_eq fun n => ?_
  rw [Bool.eq_iff_iff]
  constructor
  ·exact fun hb => rowOf_sub hl hb
  ·intro hb
   have : T.testBit (φ n) = true := (I.2 _).2 ⟨n, hb, rfl⟩
   rw [← e, setL_bit] at this
   obtain ⟨x, hx, ex⟩ := this
   obtain ⟨y, hy, ey⟩ := mpL_mem.1 hx
   obtain ⟨i, hi1, hi2⟩ := mem_at.1 hy
   obtain ⟨m, e1, hm⟩ := hi i hi1
   rw [setL_bit]
   refine ⟨y, hy, ?_⟩
   rw [hi2] at e1
   subst e1
   rw [Int.toNat_natCast] at ey ⊢
   exact R.i m n hm (bit_lt I.1 hb) (by omega)
 ·intro e
  refine Nat.eq_of_testBit_eq fun n => ?_
  rw [Bool.eq_iff_iff]
  constructor
  ·exact fun hb => rowOf_sub hr hb
  ·intro hb
   obtain ⟨m, hm, em⟩ := (I.2 n).1 hb
   rw [← e, rowOf_set hl] at hm
   rw [rowOf_set hr, mpL_mem]
   exact ⟨(m : Int), hm, by rw [Int.toNat_natCast, em]⟩
theorem ren_back {h g : Gg} {φ : Nat → Nat} (R : RenS h g φ) {S T : Nat} (I : Img h φ S T) {l : List Int} : RowOf T l → ∃ m, l = mpL φ m ∧ RowOf S m := by
 refine snoc_ind (P := fun l => RowOf T l → ∃ m, l = mpL φ m ∧ RowOf S m) (fun _ => ⟨[], rfl, rowOf_nil S⟩) (fun b x ih hr => ?_) l
 obtain ⟨m, e, hm⟩ := ih (rowOf_pre hr)
 obtain ⟨n, ex, hn⟩ := hr.at_ b.length (by simp)
 rw [snoc_end] at ex
 subst ex
 obtain ⟨q, hq, eq⟩ := (I.2 n).1 hn
 have e2 : b ++ [(n : Int)] = mpL φ (m ++ [(q : Int)]) := by
  rw [e]
  simp [mpL, eq]
 refine ⟨m ++ [(q : Int)], e2, rowOf_snoc.2 ⟨hm, hq, fun hmem => ?_⟩⟩
 have h3 := (rowOf_snoc.1 hr).2.2
 refine h3 ?_
 rw [e, mpL_mem]
 exact ⟨(q : Int), hmem, by rw [Int.toNat_natCast, eq]⟩
theorem ren_end {h g : Gg} {φ : Nat → Nat} {c d : Nat} (R : RenS h g φ) (rc : RenC h g φ c d) (hN : g.N ≤ 5) (hM : h.N ≤ 5) {S T : Nat} (I : Img h φ S T) : endO h c S = endO g d T := by
 refine (end_min I.1).uniq ((end_min (Img.lt R I)).congr fun x => ?_)
 constructor
 ·rintro ⟨l, h1, h2, h3, h4⟩
  obtain ⟨m, e, hm⟩ := ren_back R I h2
  subst e
  have hi := row_in I.1 hm
  rw [ren_rgt R rc hi] at h3
  refine ⟨m, (ren_full R hN hM I hm).1 h1, hm, h3, ?_⟩
  rw [← h4]
  unfold lastT
  rw [mpL_len, ren_don R _ hi _ (Nat.le_refl _), rc.lo]
 ·rintro ⟨l, h1, h2, h3, h4⟩
  have hi := row_in I.1 h2
  refine ⟨mpL φ l, (ren_full R hN hM I h2).2 h1, ren_row R I h2, by rw [ren_rgt R rc hi]; exact h3, ?_⟩
  rw [← h4]
  unfold lastT
  rw [mpL_len, ren_don R _ hi _ (Nat.le_refl _), rc.lo]

/-- Crews are numbered otherwise, all of them. -/
structure Prm (M : Nat) (ψ ψ' : Nat → Nat) : Prop where
 a : ∀ c, c < M → ψ c < M ∧ ψ' (ψ c) = c
 b : ∀ c, c < M → ψ' c < M ∧ ψ (ψ' c) = c
theorem dom_prm {g h : Gg} {f f' : Nat → Nat} {ψ ψ' : Nat → Nat} {M : Nat} (p : Prm M ψ ψ') (e : ∀ c, c < M → endO h c (f' c) = endO g (ψ c) (f (ψ c))) : domN h f' M = domN g f M := by
 have hs : (domN h f' M).isSome = (domN g f M).isSome := by
  rw [Bool.eq_iff_iff, domN_some, domN_some]
  constructor
  ·intro q c hc
   have := q (ψ' c) (p.b c hc).1
   rw [e _ (p.b c hc).1, (p.b c hc).2] at this
   exact this
  ·intro q c hc
   rw [e c hc]
   exact q _ (p.a c hc).1
 cases h1 : domN h f' M with
 | none =>
   rw [h1] at hs
   cases h2 : domN g f M with
   | none => rfl
   | some n => rw [h2] at hs; cases hs
 | some m =>
   rw [h1] at hs
   cases h2 : domN g f M with
   | none => rw [h2] at hs; cases hs
   | some n =>
     obtain ⟨a1, a2, a3⟩ := domN_le M h1
     obtain ⟨b1, b2, b3⟩ := domN_le M h2
     congr 1
     refine Int.le_antisymm ?_ ?_
     ·rcases a3 with a3 | ⟨c, hc, a3⟩
      ·omega
      ·rw [e c hc] at a3
       obtain ⟨t, ht, hle⟩ := b2 (ψ c) (p.a c hc).1
       rw [ht] at a3
       cases a3
       exact hle
     ·rcases b3 with b3 | ⟨c, hc, b3⟩
      ·omega
      ·obtain ⟨t, ht, hle⟩ := a2 (ψ' c) (p.b c hc).1
       rw [e _ (p.b c hc).1, (p.b c hc).2] at ht
       rw [ht] at b3
       cases b3
       exact hle
/-- The same deal, by either numbers. -/
structure DR (h g : Gg) (φ ψ : Nat → Nat) (S T C D : Nat) (l l' : List Int) : Prop where
 n1 : l.length = h.N
 n2 : l'.length = g.N
 at_ : ∀ m, m < h.N → S.testBit m = true → ∃ c : Nat, c < h.cw.length ∧ l.getD m 0 = (c : Int) ∧ C.testBit c = true ∧ l'.getD (φ m) 0 = ((ψ c : Nat) : Int)
 o1 : ∀ m, m < h.N → S.testBit m = false → l.getD m 0 = -1
 o2 : ∀ n, n < g.N → T.testBit n = false → l'.getD n 0 = -1
section
variable {h g : Gg} {φ ψ ψ' : Nat → Nat} {S T C D : Nat} {l l' : List Int}
theorem DR.img (d : DR h g φ ψ S T C D l l') (R : Ren h g φ ψ) (p : Prm h.cw.length ψ ψ') (I : Img h φ S T) {c : Nat} (hc : c < h.cw.length) : Img h φ (crS l c) (crS l' (ψ c)) := by
 refine ⟨by have := crN_lt l c l.length; rw [d.n1] at this; unfold crS; rw [d.n1]; exact this, fun n => ?_⟩
 rw [crS_bit, d.n2]
 constructor
 ·rintro ⟨hn, e⟩
  cases ht : T.testBit n with
  | false => rw [d.o2 n hn ht] at e; omega
  | true =>
    obtain ⟨m, hm, em⟩ := (I.2 n).1 ht
    have hm2 := bit_lt I.1 hm
    obtain ⟨c2, hc2, e1, _, e3⟩ := d.at_ m hm2 hm
    rw [em, e] at e3
    have : c2 = c := by rw [← (p.a c2 hc2).2, ← (p.a c hc).2]; congr 1; omega
    subst this
    exact ⟨m, crS_bit.2 ⟨by rw [d.n1]; exact hm2, e1⟩, em⟩
 ·rintro ⟨m, hm, em⟩
  rw [crS_bit, d.n1] at hm
  obtain ⟨hm2, e⟩ := hm
  cases hs : S.testBit m with
  | false => rw [d.o1 m hm2 hs] at e; omega
  | true =>
    obtain ⟨c2, hc2, e1, _, e3⟩ := d.at_ m hm2 hs
    have : c2 = c := by omega
    subst this
    subst em
    exact ⟨(R.s m hm2).1, e3⟩
theorem DR.dom (d : DR h g φ ψ S T C D l l') (R : Ren h g φ ψ) (p : Prm h.cw.length ψ ψ') (I : Img h φ S T) (hN : g.N ≤ 5) (hM : h.N ≤ 5) (hL : h.cw.length = g.cw.length) : domO h l = domO g l' := by
 unfold domO
 rw [← hL]
 exact dom_prm p fun c hc => ren_end R.toRenS (R.c c hc).2 hN hM (d.img R p I hc)
end
end Go.Proofs.YtdopkbldjagmlaaGreat
end
section
set_option linter.unusedVariables false
set_option linter.unusedSimpArgs false
namespace Go.Proofs.YtdopkbldjagmlaaGreat
open Go.V
def onlN (g : Gg) (s i : Nat) : List Cw := (List.range g.cw.length).map fun c => if c < i ∧ s.testBit c = false then ⟨(g.crew c).lo, (g.crew c).hi, 0⟩ else g.crew c
def onlG (g : Gg) (s : Nat) : Gg := ⟨g.sm, onlN g s g.cw.length, g.pt⟩
/-- The seams that are kept, of the first ones. -/
def kpN (S i : Nat) : List Nat := (List.range i).filter fun n => !S.testBit n
/-- A set, by the new numbers. -/
def mkN (st : Nat) (l : List Nat) : Nat → Nat
 | 0 => 0
 | i + 1 => if st.testBit (l.getD i 0) = true then mkN st l i ||| 2 ^ i else mkN st l i
/-- The gangs, if so many seams have been looked at. -/
def wthN (g : Gg) (S i : Nat) : Gg := ⟨(kpN S i).map g.seam, (List.range g.cw.length).map fun c => ⟨(g.crew c).lo, (g.crew c).hi, (mkN (g.crew c).st.toNat (kpN S i) (kpN S i).length : Nat)⟩, g.pt⟩
def wthG (g : Gg) (S : Nat) : Gg := wthN g S g.N
end Go.Proofs.YtdopkbldjagmlaaGreat
end
