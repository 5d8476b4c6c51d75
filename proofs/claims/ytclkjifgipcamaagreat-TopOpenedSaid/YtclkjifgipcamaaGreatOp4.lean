/- Helper lemmas of this claim, part 4. -/
import Derived.Test.YtclkjifgipcamaaGreatOp3
section
set_option linter.unusedVariables false
set_option linter.unusedSimpArgs false
set_option maxHeartbeats 8000000
set_option maxRecDepth 100000
namespace Go.Proofs.YtclkjifgipcamaaGreat
open Go.V
theorem nb_succ {be : List (Int × Int)} {k : Nat} (hk : k < be.length) (i : Int) : nbL (be.take (k + 1)) i = nbL (be.take k) i ++ nb1 i (be.getD k (0, 0)) := by
 have e : be.take (k + 1) = be.take k ++ [be.getD k (0, 0)] := by
  rw [List.take_add_one, List.getD_eq_getElem?_getD, List.getElem?_eq_getElem hk]; rfl
 unfold nbL
 rw [e, List.flatMap_append]
 simp
theorem nb_le (be : List (Int × Int)) (k : Nat) (i : Int) : (nbL (be.take k) i).length ≤ (nbL be i).length := by
 have e : be = be.take k ++ be.drop k := (List.take_append_drop _ _).symm
 have : nbL be i = nbL (be.take k) i ++ nbL (be.drop k) i := by
  conv => lhs; rw [e]
  exact List.flatMap_append ..
 rw [this, List.length_append]; omega
theorem nb_out {d : Dr} (k : OkD d) {i : Int} (hi : (d.lim.length : Int) ≤ i) : nbL d.be i = [] := by
 unfold nbL
 rw [List.flatMap_eq_nil_iff]
 intro p hp
 obtain ⟨q, hq, rfl⟩ := List.getElem_of_mem hp
 have := k.p q hq
 rw [List.getD_eq_getElem?_getD, List.getElem?_eq_getElem hq] at this
 dsimp only [Option.getD_some] at this
 unfold nb1
 rw [if_neg (by omega), if_neg (by omega)]
theorem nb_len {d : Dr} (k : OkD d) (i : Nat) (q : Nat) : (nbL (d.be.take q) i).length ≤ 5 := by
 have h1 := nb_le d.be q i
 by_cases hi : i < d.lim.length
 ·have := k.l i hi; omega
 ·rw [nb_out k (by omega)] at h1
  simp at h1; simp [h1]
/-- A hull while it is looked at: rows of a family. -/
def slL (ids : Nat → Nat) (nb : Nat → List Int) : List AV := [.sl (ids 0) 1 (nb 0).length, .sl (ids 1) 1 (nb 1).length, .sl (ids 2) 1 (nb 2).length, .sl (ids 3) 1 (nb 3).length, .sl (ids 4) 1 (nb 4).length, .sl (ids 5) 1 (nb 5).length]
def hcL (d : Dr) (ids : Nat → Nat) (nb : Nat → List Int) : List AV := intsAV d.lim :: prAV d.be :: prAV d.bl :: slL ids nb
def opH (d : Dr) (H : Hp) (ih : Nat) (ids : Nat → Nat) (nb : Nat → List Int) : Hp := fun q =>
 if q = ih then some (.box 9 1 fun _ => hcL d ids nb) else match (List.range 6).find? fun j => decide (ids j = q) with
  | some j => some (.row 1 (nb j).length (intF (nb j)))
  | none => H q
structure IdOk (H : Hp) (ih : Nat) (ids : Nat → Nat) : Prop where
 inj : ∀ i j, i < 6 → j < 6 → ids i = ids j → i = j
 ne : ∀ i, i < 6 → ids i ≠ ih
 z : ∀ i, i < 6 → H (ids i) = none
 zh : H ih = none
theorem opH_ih {d : Dr} {H : Hp} {ih : Nat} {ids : Nat → Nat} {nb : Nat → List Int} : opH d H ih ids nb ih = some (.box 9 1 fun _ => hcL d ids nb) := if_pos rfl
theorem opH_row {d : Dr} {H : Hp} {ih : Nat} {ids : Nat → Nat} {nb : Nat → List Int} (k : IdOk H ih ids) {a : Nat} (ha : a < 6) : opH d H ih ids nb (ids a) = some (.row 1 (nb a).length (intF (nb a))) := by
 unfold opH
 rw [if_neg (k.ne a ha)]
 have : (List.range 6).find? (fun j => decide (ids j = ids a)) = some a := by
  rw [List.find?_range_eq_some]
  exact ⟨decide_eq_true rfl, List.mem_range.2 ha, fun j hj => by rw [decide_eq_false fun e => by have := k.inj j a (by omega) ha e; omega]; rfl⟩
 rw [this]
theorem opH_out {d : Dr} {H : Hp} {ih : Nat} {ids : Nat → Nat} {nb : Nat → List Int} {q : Nat} (h1 : q ≠ ih) (h2 : ∀ a, a < 6 → q ≠ ids a) : opH d H ih ids nb q = H q := by
 unfold opH
 rw [if_neg h1]
 have : (List.range 6).find? (fun j => decide (ids j = q)) = none := by
  rw [List.find?_range_eq_none]
  exact fun j hj => by rw [decide_eq_false fun e => h2 j hj e.symm]; rfl
 rw [this]
theorem opH_none {d : Dr} {H : Hp} {ih : Nat} {ids : Nat → Nat} {nb : Nat → List Int} (k : IdOk H ih ids) {q : Nat} (h : opH d H ih ids nb q = none) : q ≠ ih ∧ (∀ a, a < 6 → q ≠ ids a) ∧ H q = none := by
 have h1 : q ≠ ih := fun e => by rw [e, opH_ih] at h; cases h
 have h2 : ∀ a, a < 6 → q ≠ ids a := fun a ha e => by rw [e, opH_row k ha] at h; cases h
 exact ⟨h1, h2, by rw [opH_out h1 h2] at h; exact h⟩
theorem opH_step {d : Dr} {H : Hp} {ih : Nat} {ids : Nat → Nat} {nb' : Nat → List Int} (k : IdOk H ih ids) {X : Hp} (hi : X ih = some (.box 9 1 fun _ => hcL d ids nb')) (hr : ∀ a, a < 6 → X (ids a) = some (.row 1 (nb' a).length (intF (nb' a)))) (ho : ∀ q, q ≠ ih → (∀ a, a < 6 → q ≠ ids a) → H q = none ∨ X q = H q) : Go.V.HSub X (opH d H ih ids nb') :=
 HSub_eqn fun q => by
  by_cases h1 : q = ih
  ·subst h1; right; rw [hi, opH_ih]
  ·by_cases h2 : ∀ a, a < 6 → q ≠ ids a
   ·rw [opH_out h1 h2]
    exact ho q h1 h2
   ·simp only [Classical.not_forall, Classical.not_not] at h2
    obtain ⟨a, ha, e⟩ := h2
    right; rw [e, hr a ha, opH_row k ha]
theorem hcL_at (d : Dr) (ids : Nat → Nat) (nb : Nat → List Int) {a : Nat} (ha : a < 6) : (List.drop (3 + a * 1) (hcL d ids nb)).getD 0 .any = .sl (ids a) 1 (nb a).length := by
 rcases (by omega : a = 0 ∨ a = 1 ∨ a = 2 ∨ a = 3 ∨ a = 4 ∨ a = 5) with rfl | rfl | rfl | rfl | rfl | rfl <;> rfl
theorem hcL_put (d : Dr) (ids : Nat → Nat) (nb nb' : Nat → List Int) {a : Nat} (ha : a < 6) (hn : ∀ j, j < 6 → j ≠ a → nb' j = nb j) : List.take (3 + a * 1) (hcL d ids nb) ++ [.sl (ids a) 1 (nb' a).length] ++ List.drop (3 + a * 1 + 1) (hcL d ids nb) = hcL d ids nb' := by
 rcases (by omega : a = 0 ∨ a = 1 ∨ a = 2 ∨ a = 3 ∨ a = 4 ∨ a = 5) with rfl | rfl | rfl | rfl | rfl | rfl <;>
 (simp only [hcL, slL]; simp (disch := decide) [hn])
def putN (nb : Nat → List Int) (a : Nat) (l : List Int) : Nat → List Int := fun j => if j = a then l else nb j
theorem ret_freezeB {P : Program} {fn : Func} {R : Res → Hp → Prop} {s : Fr} {H : Hp} {t id st n i j : Nat} {f : Nat → List AV} (hr : fn.results.toList = [.tmp t]) (hs : s t = .ref id 0 st i j)
  (ho : H id = some (.box st n f)) (h : R (.ret (.rptr n st f i j)) (H.del id)) : FnPost P fn R .ret s [] H := by
 refine Ent.freezeB (s' := put s (some t) (.rptr n st f i j)) ho (fun u => ?_) ?_
 ·simp only [put]
  split
  ·rename_i e; subst e; exact .inr ⟨i, j, hs, rfl⟩
  ·exact .inl rfl
 ·rw [hr]
  refine ⟨rfl, ?_⟩
  simp only [resA, put, if_pos]
  exact ⟨trivial, h⟩
theorem open_tri (d : Dr) (v : Bool) (H : Hp) (k : OkD d) : Tri Tryz.prog (fnA 25) [d.av, boo v] H fun r H' => H' = H ∧ r = if v then .ret (hP d) else .pan (refD 2) := by
 have n1 := k.n1
 have n6 := k.n6
 have nb := k.nb
 have hm := k.m
 refine tri_vs (m := mset [7, 10, 27]) Tryz.func25 (by kernel_rfl) rfl (by simp only [List.length_append, List.length_cons, List.length_nil, Tryz.ntmps25]; decide) ?_
 have c0 : (decide ((1 : Int) ≤ d.lim.length) && decide ((d.lim.length : Int) ≤ 6)) = true := by rw [decide_eq_true (by omega), decide_eq_true (by omega)]; rfl
 have c1 : decide ((d.bl.length : Int) = d.lim.length) = true := decide_eq_true (by omega)
 simp only [vsAll, loadA, loadRow, partA, partOk, fieldAddrA, lenA, boxA, boxZ, okAll, stAll, opsA, opA, dstOk, nilSliceOp, argFr, Nat.reduceAdd, Nat.reduceLT, Nat.reduceEqDiff, Nat.reduceBEq, ↓reduceIte, eq_self, wtAll, Tryz.ntmps25]
 refine callK_pure (dwithin_tri _ _ _ _) ?_
 rw [c0]
 simp only [vsAll, binA, binLitA, intA, loadA, loadRow, partA, partOk, fieldAddrA, lenA, pickA, okAll, stAll, opsA, opA, guardV, dstOk, Nat.reduceLT, Nat.reduceEqDiff, ↓reduceIte, implies_true, eq_self, wtAll, c1]
 refine dwant_call (fun _ => ?_) (fun hb => by cases hb)
 simp only [vsAll, loadA, loadRow, partA, partOk, fieldAddrA, lenA, cellsA, fillA, okParts, partsA, partsOk, opA, boxMutA, dstOk, nilSliceOp, Nat.reduceAdd, Nat.reduceLT, Nat.reduceLeDiff, Nat.reduceEqDiff, Nat.reduceBEq, ↓reduceIte, eq_self, wtAll]
 intro ih hh_ih; (try simp only [Hp.set_none, ite_none] at hh_ih)
 refine vs_entL (Ent.nilBox 1 (intF []) (fun id _ => [intsAV d.lim, prAV d.be, prAV d.bl, .sl id 1 0, .lit (.slice none 0 0), .lit (.slice none 0 0), .lit (.slice none 0 0), .lit (.slice none 0 0), .lit (.slice none 0 0)]) (j := ih) (st' := 9) (n' := 1) (g := fun _ => [intsAV d.lim, prAV d.be, prAV d.bl, .lit (.slice none 0 0), .lit (.slice none 0 0), .lit (.slice none 0 0), .lit (.slice none 0 0), .lit (.slice none 0 0), .lit (.slice none 0 0)]) (by simp only [vsAll, ↓reduceIte, eq_self]) (fun _ _ _ => rfl) (fun id q c hq hc => ?_) fun r0 hr0 => ?_)
 ·match c, hc with
  | 0, _ => exact .rfl
  | 1, _ => exact .rfl
  | 2, _ => exact .rfl
  | 3, _ => exact .hit
  | 4, _ => exact .rfl
  | 5, _ => exact .rfl
  | 6, _ => exact .rfl
  | 7, _ => exact .rfl
  | 8, _ => exact .rfl
 simp only [Hp.set_none] at hr0
 obtain ⟨r0_ih, r0_z⟩ : ¬ r0 = ih ∧ H r0 = none := by simp_all
 have r0_ih' : ¬ ih = r0 := fun e => r0_ih e.symm
 skip
 refine vs_entL (Ent.nilBox 1 (intF []) (fun id _ => [intsAV d.lim, prAV d.be, prAV d.bl, .sl r0 1 0, .sl id 1 0, .lit (.slice none 0 0), .lit (.slice none 0 0), .lit (.slice none 0 0), .lit (.slice none 0 0)]) (j := ih) (st' := 9) (n' := 1) (g := fun _ => [intsAV d.lim, prAV d.be, prAV d.bl, .sl r0 1 0, .lit (.slice none 0 0), .lit (.slice none 0 0), .lit (.slice none 0 0), .lit (.slice none 0 0), .lit (.slice none 0 0)]) (by simp only [vsAll, ↓reduceIte, eq_self]) (fun _ _ _ => rfl) (fun id q c hq hc => ?_) fun r1 hr1 => ?_)
 ·match c, hc with
  | 0, _ => exact .rfl
  | 1, _ => exact .rfl
  | 2, _ => exact .rfl
  | 3, _ => exact .rfl
  | 4, _ => exact .hit
  | 5, _ => exact .rfl
  | 6, _ => exact .rfl
  | 7, _ => exact .rfl
  | 8, _ => exact .rfl
 simp only [Hp.set_none] at hr1
 obtain ⟨r1_ih, r1_r0, r1_z⟩ : ¬ r1 = ih ∧ ¬ r1 = r0 ∧ H r1 = none := by simp_all
 have r1_ih' : ¬ ih = r1 := fun e => r1_ih e.symm
 have r1_r0' : ¬ r0 = r1 := fun e => r1_r0 e.symm
 skip
 refine vs_entL (Ent.nilBox 1 (intF []) (fun id _ => [intsAV d.lim, prAV d.be, prAV d.bl, .sl r0 1 0, .sl r1 1 0, .sl id 1 0, .lit (.slice none 0 0), .lit (.slice none 0 0), .lit (.slice none 0 0)]) (j := ih) (st' := 9) (n' := 1) (g := fun _ => [intsAV d.lim, prAV d.be, prAV d.bl, .sl r0 1 0, .sl r1 1 0, .lit (.slice none 0 0), .lit (.slice none 0 0), .lit (.slice none 0 0), .lit (.slice none 0 0)]) (by simp only [vsAll, ↓reduceIte, eq_self]) (fun _ _ _ => rfl) (fun id q c hq hc => ?_) fun r2 hr2 => ?_)
 ·match c, hc with
  | 0, _ => exact .rfl
  | 1, _ => exact .rfl
  | 2, _ => exact .rfl
  | 3, _ => exact .rfl
  | 4, _ => exact .rfl
  | 5, _ => exact .hit
  | 6, _ => exact .rfl
  | 7, _ => exact .rfl
  | 8, _ => exact .rfl
 simp only [Hp.set_none] at hr2
 obtain ⟨r2_ih, r2_r0, r2_r1, r2_z⟩ : ¬ r2 = ih ∧ ¬ r2 = r0 ∧ ¬ r2 = r1 ∧ H r2 = none := by simp_all
 have r2_ih' : ¬ ih = r2 := fun e => r2_ih e.symm
 have r2_r0' : ¬ r0 = r2 := fun e => r2_r0 e.symm
 have r2_r1' : ¬ r1 = r2 := fun e => r2_r1 e.symm
 skip
 refine vs_entL (Ent.nilBox 1 (intF []) (fun id _ => [intsAV d.lim, prAV d.be, prAV d.bl, .sl r0 1 0, .sl r1 1 0, .sl r2 1 0, .sl id 1 0, .lit (.slice none 0 0), .lit (.slice none 0 0)]) (j := ih) (st' := 9) (n' := 1) (g := fun _ => [intsAV d.lim, prAV d.be, prAV d.bl, .sl r0 1 0, .sl r1 1 0, .sl r2 1 0, .lit (.slice none 0 0), .lit (.slice none 0 0), .lit (.slice none 0 0)]) (by simp only [vsAll, ↓reduceIte, eq_self]) (fun _ _ _ => rfl) (fun id q c hq hc => ?_) fun r3 hr3 => ?_)
 ·match c, hc with
  | 0, _ => exact .rfl
  | 1, _ => exact .rfl
  | 2, _ => exact .rfl
  | 3, _ => exact .rfl
  | 4, _ => exact .rfl
  | 5, _ => exact .rfl
  | 6, _ => exact .hit
  | 7, _ => exact .rfl
  | 8, _ => exact .rfl
 simp only [Hp.set_none] at hr3
 obtain ⟨r3_ih, r3_r0, r3_r1, r3_r2, r3_z⟩ : ¬ r3 = ih ∧ ¬ r3 = r0 ∧ ¬ r3 = r1 ∧ ¬ r3 = r2 ∧ H r3 = none := by simp_all
 have r3_ih' : ¬ ih = r3 := fun e => r3_ih e.symm
 have r3_r0' : ¬ r0 = r3 := fun e => r3_r0 e.symm
 have r3_r1' : ¬ r1 = r3 := fun e => r3_r1 e.symm
 have r3_r2' : ¬ r2 = r3 := fun e => r3_r2 e.symm
 skip
 refine vs_entL (Ent.nilBox 1 (intF []) (fun id _ => [intsAV d.lim, prAV d.be, prAV d.bl, .sl r0 1 0, .sl r1 1 0, .sl r2 1 0, .sl r3 1 0, .sl id 1 0, .lit (.slice none 0 0)]) (j := ih) (st' := 9) (n' := 1) (g := fun _ => [intsAV d.lim, prAV d.be, prAV d.bl, .sl r0 1 0, .sl r1 1 0, .sl r2 1 0, .sl r3 1 0, .lit (.slice none 0 0), .lit (.slice none 0 0)]) (by simp only [vsAll, ↓reduceIte, eq_self]) (fun _ _ _ => rfl) (fun id q c hq hc => ?_) fun r4 hr4 => ?_)
 ·match c, hc with
  | 0, _ => exact .rfl
  | 1, _ => exact .rfl
  | 2, _ => exact .rfl
  | 3, _ => exact .rfl
  | 4, _ => exact .rfl
  | 5, _ => exact .rfl
  | 6, _ => exact .rfl
  | 7, _ => exact .hit
  | 8, _ => exact .rfl
 simp only [Hp.set_none] at hr4
 obtain ⟨r4_ih, r4_r0, r4_r1, r4_r2, r4_r3, r4_z⟩ : ¬ r4 = ih ∧ ¬ r4 = r0 ∧ ¬ r4 = r1 ∧ ¬ r4 = r2 ∧ ¬ r4 = r3 ∧ H r4 = none := by simp_all
 have r4_ih' : ¬ ih = r4 := fun e => r4_ih e.symm
 have r4_r0' : ¬ r0 = r4 := fun e => r4_r0 e.symm
 have r4_r1' : ¬ r1 = r4 := fun e => r4_r1 e.symm
 have r4_r2' : ¬ r2 = r4 := fun e => r4_r2 e.symm
 have r4_r3' : ¬ r3 = r4 := fun e => r4_r3 e.symm
 skip
 refine vs_entL (Ent.nilBox 1 (intF []) (fun id _ => [intsAV d.lim, prAV d.be, prAV d.bl, .sl r0 1 0, .sl r1 1 0, .sl r2 1 0, .sl r3 1 0, .sl r4 1 0, .sl id 1 0]) (j := ih) (st' := 9) (n' := 1) (g := fun _ => [intsAV d.lim, prAV d.be, prAV d.bl, .sl r0 1 0, .sl r1 1 0, .sl r2 1 0, .sl r3 1 0, .sl r4 1 0, .lit (.slice none 0 0)]) (by simp only [vsAll, ↓reduceIte, eq_self]) (fun _ _ _ => rfl) (fun id q c hq hc => ?_) fun r5 hr5 => ?_)
 ·match c, hc with
  | 0, _ => exact .rfl
  | 1, _ => exact .rfl
  | 2, _ => exact .rfl
  | 3, _ => exact .rfl
  | 4, _ => exact .rfl
  | 5, _ => exact .rfl
  | 6, _ => exact .rfl
  | 7, _ => exact .rfl
  | 8, _ => exact .hit
 simp only [Hp.set_none] at hr5
 obtain ⟨r5_ih, r5_r0, r5_r1, r5_r2, r5_r3, r5_r4, r5_z⟩ : ¬ r5 = ih ∧ ¬ r5 = r0 ∧ ¬ r5 = r1 ∧ ¬ r5 = r2 ∧ ¬ r5 = r3 ∧ ¬ r5 = r4 ∧ H r5 = none := by simp_all
 have r5_ih' : ¬ ih = r5 := fun e => r5_ih e.symm
 have r5_r0' : ¬ r0 = r5 := fun e => r5_r0 e.symm
 have r5_r1' : ¬ r1 = r5 := fun e => r5_r1 e.symm
 have r5_r2' : ¬ r2 = r5 := fun e => r5_r2 e.symm
 have r5_r3' : ¬ r3 = r5 := fun e => r5_r3 e.symm
 have r5_r4' : ¬ r4 = r5 := fun e => r5_r4 e.symm
 skip
 generalize hids : (fun j : Nat => [r0, r1, r2, r3, r4, r5].getD j 0) = ids
 have hid : ids 0 = r0 ∧ ids 1 = r1 ∧ ids 2 = r2 ∧ ids 3 = r3 ∧ ids 4 = r4 ∧ ids 5 = r5 := by subst hids; exact ⟨rfl, rfl, rfl, rfl, rfl, rfl⟩
 obtain ⟨d0, d1, d2, d3, d4, d5⟩ := hid
 have kI : IdOk H ih ids := by
  refine ⟨fun i j hi hj e => ?_, fun i hi => ?_, fun i hi => ?_, by simpa using hh_ih⟩
  ·rcases (by ((try clear hh_ih r0_ih r0_ih' r0_z r1_ih r1_ih' r1_r0 r1_r0' r1_z r2_ih r2_ih' r2_r0 r2_r0' r2_r1 r2_r1' r2_z r3_ih r3_ih' r3_r0 r3_r0' r3_r1 r3_r1' r3_r2 r3_r2' r3_z r4_ih r4_ih' r4_r0 r4_r0' r4_r1 r4_r1' r4_r2 r4_r2' r4_r3 r4_r3' r4_z r5_ih r5_ih' r5_r0 r5_r0' r5_r1 r5_r1' r5_r2 r5_r2' r5_r3 r5_r3' r5_r4 r5_r4' r5_z); omega) : i = 0 ∨ i = 1 ∨ i = 2 ∨ i = 3 ∨ i = 4 ∨ i = 5) with rfl | rfl | rfl | rfl | rfl | rfl <;>
   rcases (by ((try clear hh_ih r0_ih r0_ih' r0_z r1_ih r1_ih' r1_r0 r1_r0' r1_z r2_ih r2_ih' r2_r0 r2_r0' r2_r1 r2_r1' r2_z r3_ih r3_ih' r3_r0 r3_r0' r3_r1 r3_r1' r3_r2 r3_r2' r3_z r4_ih r4_ih' r4_r0 r4_r0' r4_r1 r4_r1' r4_r2 r4_r2' r4_r3 r4_r3' r4_z r5_ih r5_ih' r5_r0 r5_r0' r5_r1 r5_r1' r5_r2 r5_r2' r5_r3 r5_r3' r5_r4 r5_r4' r5_z); omega) : j = 0 ∨ j = 1 ∨ j = 2 ∨ j = 3 ∨ j = 4 ∨ j = 5) with rfl | rfl | rfl | rfl | rfl | rfl <;>
   first | rfl | (exfalso; simp only [d0, d1, d2, d3, d4, d5] at e; simp_all)
  ·rcases (by ((try clear hh_ih r0_ih r0_ih' r0_z r1_ih r1_ih' r1_r0 r1_r0' r1_z r2_ih r2_ih' r2_r0 r2_r0' r2_r1 r2_r1' r2_z r3_ih r3_ih' r3_r0 r3_r0' r3_r1 r3_r1' r3_r2 r3_r2' r3_z r4_ih r4_ih' r4_r0 r4_r0' r4_r1 r4_r1' r4_r2 r4_r2' r4_r3 r4_r3' r4_z r5_ih r5_ih' r5_r0 r5_r0' r5_r1 r5_r1' r5_r2 r5_r2' r5_r3 r5_r3' r5_r4 r5_r4' r5_z); omega) : i = 0 ∨ i = 1 ∨ i = 2 ∨ i = 3 ∨ i = 4 ∨ i = 5) with rfl | rfl | rfl | rfl | rfl | rfl <;> simp only [d0, d1, d2, d3, d4, d5] <;> assumption
  ·rcases (by ((try clear hh_ih r0_ih r0_ih' r0_z r1_ih r1_ih' r1_r0 r1_r0' r1_z r2_ih r2_ih' r2_r0 r2_r0' r2_r1 r2_r1' r2_z r3_ih r3_ih' r3_r0 r3_r0' r3_r1 r3_r1' r3_r2 r3_r2' r3_z r4_ih r4_ih' r4_r0 r4_r0' r4_r1 r4_r1' r4_r2 r4_r2' r4_r3 r4_r3' r4_z r5_ih r5_ih' r5_r0 r5_r0' r5_r1 r5_r1' r5_r2 r5_r2' r5_r3 r5_r3' r5_r4 r5_r4' r5_z); omega) : i = 0 ∨ i = 1 ∨ i = 2 ∨ i = 3 ∨ i = 4 ∨ i = 5) with rfl | rfl | rfl | rfl | rfl | rfl <;> simp only [d0, d1, d2, d3, d4, d5] <;> assumption
 refine vs_loop (σ := Nat) (fun i => i ≤ d.be.length) (fun i => [(1, boo v), (2, dptr d), (5, .ref ih 0 9 0 0), (29, prAV d.be), (30, i64 d.be.length), (31, i64 i)])
  (fun i => opH d H ih ids fun j => nbL (d.be.take i) j) (fun i => d.be.length - i) 0 (Nat.zero_le _) ?_ ?_ fun i hi => ?_
 ·simp only [vsAll, argFr, Nat.reduceEqDiff, ↓reduceIte, eq_self, Int.natCast_zero]
 ·refine opH_step kI ?_ (fun a ha => ?_) (fun q h1 h2 => ?_)
  ·have eN : ∀ j : Int, nbL [] j = [] := fun _ => rfl
   simp only [hcL, slL, List.take_zero, eN, List.length_nil, d0, d1, d2, d3, d4, d5]
   exact Hp.set_same _ _ _
  ·have eN : ∀ j : Int, nbL [] j = [] := fun _ => rfl
   rcases (by ((try clear hh_ih r0_ih r0_ih' r0_z r1_ih r1_ih' r1_r0 r1_r0' r1_z r2_ih r2_ih' r2_r0 r2_r0' r2_r1 r2_r1' r2_z r3_ih r3_ih' r3_r0 r3_r0' r3_r1 r3_r1' r3_r2 r3_r2' r3_z r4_ih r4_ih' r4_r0 r4_r0' r4_r1 r4_r1' r4_r2 r4_r2' r4_r3 r4_r3' r4_z r5_ih r5_ih' r5_r0 r5_r0' r5_r1 r5_r1' r5_r2 r5_r2' r5_r3 r5_r3' r5_r4 r5_r4' r5_z); omega) : a = 0 ∨ a = 1 ∨ a = 2 ∨ a = 3 ∨ a = 4 ∨ a = 5) with rfl | rfl | rfl | rfl | rfl | rfl <;> simp only [d0, d1, d2, d3, d4, d5, List.take_zero, eN, List.length_nil] <;> simp only [vsAll, ↓reduceIte, eq_self, r0_ih, r1_ih, r1_r0', r2_ih, r2_r0', r2_r1', r3_ih, r3_r0', r3_r1', r3_r2', r4_ih, r4_r0', r4_r1', r4_r2', r4_r3', r5_ih, r5_r0', r5_r1', r5_r2', r5_r3', r5_r4']
  ·right
   have g0 := h2 0 (by decide)
   have g1 := h2 1 (by decide)
   have g2 := h2 2 (by decide)
   have g3 := h2 3 (by decide)
   have g4 := h2 4 (by decide)
   have g5 := h2 5 (by decide)
   simp only [d0, d1, d2, d3, d4, d5] at g0 g1 g2 g3 g4 g5
   simp [Hp.set, h1, g0, g1, g2, g3, g4, g5]
 ·have hih := opH_ih (d := d) (H := H) (ih := ih) (ids := ids) (nb := fun j => nbL (d.be.take i) j)
  clear hids d0 d1 d2 d3 d4 d5 hr0 hr1 hr2 hr3 hr4 hr5
  skip
  simp only [vsAll, binA, binLitA, intA, opA, dstOk, Nat.reduceLT, Nat.reduceEqDiff, ↓reduceIte, eq_self]
  refine condD (fun hd => ?_) (fun hd => ?_)
  ·have his : i < d.be.length := by ((try clear hh_ih r0_ih r0_ih' r0_z r1_ih r1_ih' r1_r0 r1_r0' r1_z r2_ih r2_ih' r2_r0 r2_r0' r2_r1 r2_r1' r2_z r3_ih r3_ih' r3_r0 r3_r0' r3_r1 r3_r1' r3_r2 r3_r2' r3_z r4_ih r4_ih' r4_r0 r4_r0' r4_r1 r4_r1' r4_r2 r4_r2' r4_r3 r4_r3' r4_z r5_ih r5_ih' r5_r0 r5_r0' r5_r1 r5_r1' r5_r2 r5_r2' r5_r3 r5_r3' r5_r4 r5_r4' r5_z hih); omega)
   have kp := k.p i his
   have hA : (decide (0 ≤ (d.be.getD i (0, 0)).1) && decide ((d.be.getD i (0, 0)).1 ≤ (d.lim.length : Int) - 1)) = true := by rw [decide_eq_true (by ((try clear hh_ih r0_ih r0_ih' r0_z r1_ih r1_ih' r1_r0 r1_r0' r1_z r2_ih r2_ih' r2_r0 r2_r0' r2_r1 r2_r1' r2_z r3_ih r3_ih' r3_r0 r3_r0' r3_r1 r3_r1' r3_r2 r3_r2' r3_z r4_ih r4_ih' r4_r0 r4_r0' r4_r1 r4_r1' r4_r2 r4_r2' r4_r3 r4_r3' r4_z r5_ih r5_ih' r5_r0 r5_r0' r5_r1 r5_r1' r5_r2 r5_r2' r5_r3 r5_r3' r5_r4 r5_r4' r5_z hih); omega)), decide_eq_true (by ((try clear hh_ih r0_ih r0_ih' r0_z r1_ih r1_ih' r1_r0 r1_r0' r1_z r2_ih r2_ih' r2_r0 r2_r0' r2_r1 r2_r1' r2_z r3_ih r3_ih' r3_r0 r3_r0' r3_r1 r3_r1' r3_r2 r3_r2' r3_z r4_ih r4_ih' r4_r0 r4_r0' r4_r1 r4_r1' r4_r2 r4_r2' r4_r3 r4_r3' r4_z r5_ih r5_ih' r5_r0 r5_r0' r5_r1 r5_r1' r5_r2 r5_r2' r5_r3 r5_r3' r5_r4 r5_r4' r5_z hih); omega))]; rfl
   have hB : (decide (0 ≤ (d.be.getD i (0, 0)).2) && decide ((d.be.getD i (0, 0)).2 ≤ (d.lim.length : Int) - 1)) = true := by rw [decide_eq_true (by ((try clear hh_ih r0_ih r0_ih' r0_z r1_ih r1_ih' r1_r0 r1_r0' r1_z r2_ih r2_ih' r2_r0 r2_r0' r2_r1 r2_r1' r2_z r3_ih r3_ih' r3_r0 r3_r0' r3_r1 r3_r1' r3_r2 r3_r2' r3_z r4_ih r4_ih' r4_r0 r4_r0' r4_r1 r4_r1' r4_r2 r4_r2' r4_r3 r4_r3' r4_z r5_ih r5_ih' r5_r0 r5_r0' r5_r1 r5_r1' r5_r2 r5_r2' r5_r3 r5_r3' r5_r4 r5_r4' r5_z hih); omega)), decide_eq_true (by ((try clear hh_ih r0_ih r0_ih' r0_z r1_ih r1_ih' r1_r0 r1_r0' r1_z r2_ih r2_ih' r2_r0 r2_r0' r2_r1 r2_r1' r2_z r3_ih r3_ih' r3_r0 r3_r0' r3_r1 r3_r1' r3_r2 r3_r2' r3_z r4_ih r4_ih' r4_r0 r4_r0' r4_r1 r4_r1' r4_r2 r4_r2' r4_r3 r4_r3' r4_z r5_ih r5_ih' r5_r0 r5_r0' r5_r1 r5_r1' r5_r2 r5_r2' r5_r3 r5_r3' r5_r4 r5_r4' r5_z hih); omega))]; rfl
   have hAB : decide ((d.be.getD i (0, 0)).1 < (d.be.getD i (0, 0)).2) = true := decide_eq_true kp.2.1
   have hnd : ∀ q, q < i → d.be.getD q (0, 0) ≠ d.be.getD i (0, 0) := fun q hq e => by
    have h1 : q < d.be.length := by ((try clear hh_ih r0_ih r0_ih' r0_z r1_ih r1_ih' r1_r0 r1_r0' r1_z r2_ih r2_ih' r2_r0 r2_r0' r2_r1 r2_r1' r2_z r3_ih r3_ih' r3_r0 r3_r0' r3_r1 r3_r1' r3_r2 r3_r2' r3_z r4_ih r4_ih' r4_r0 r4_r0' r4_r1 r4_r1' r4_r2 r4_r2' r4_r3 r4_r3' r4_z r5_ih r5_ih' r5_r0 r5_r0' r5_r1 r5_r1' r5_r2 r5_r2' r5_r3 r5_r3' r5_r4 r5_r4' r5_z hih); omega)
    rw [List.getD_eq_getElem?_getD, List.getD_eq_getElem?_getD, List.getElem?_eq_getElem h1, List.getElem?_eq_getElem his] at e
    exact List.pairwise_iff_getElem.1 k.q q i h1 his hq e
   have ns := fun j : Int => nb_succ his j
   have nl := fun j : Nat => nb_len k j i
   generalize hp : d.be.getD i (0, 0) = p at *
   obtain ⟨A, B⟩ := p
   simp only [] at kp hA hB hAB
   obtain ⟨a, rfl⟩ : ∃ a : Nat, A = (a : Int) := ⟨A.toNat, by ((try clear hh_ih r0_ih r0_ih' r0_z r1_ih r1_ih' r1_r0 r1_r0' r1_z r2_ih r2_ih' r2_r0 r2_r0' r2_r1 r2_r1' r2_z r3_ih r3_ih' r3_r0 r3_r0' r3_r1 r3_r1' r3_r2 r3_r2' r3_z r4_ih r4_ih' r4_r0 r4_r0' r4_r1 r4_r1' r4_r2 r4_r2' r4_r3 r4_r3' r4_z r5_ih r5_ih' r5_r0 r5_r0' r5_r1 r5_r1' r5_r2 r5_r2' r5_r3 r5_r3' r5_r4 r5_r4' r5_z hih); omega)⟩
   obtain ⟨b, rfl⟩ : ∃ b : Nat, B = (b : Int) := ⟨B.toNat, by ((try clear hh_ih r0_ih r0_ih' r0_z r1_ih r1_ih' r1_r0 r1_r0' r1_z r2_ih r2_ih' r2_r0 r2_r0' r2_r1 r2_r1' r2_z r3_ih r3_ih' r3_r0 r3_r0' r3_r1 r3_r1' r3_r2 r3_r2' r3_z r4_ih r4_ih' r4_r0 r4_r0' r4_r1 r4_r1' r4_r2 r4_r2' r4_r3 r4_r3' r4_z r5_ih r5_ih' r5_r0 r5_r0' r5_r1 r5_r1' r5_r2 r5_r2' r5_r3 r5_r3' r5_r4 r5_r4' r5_z hih); omega)⟩
   have ha : a < 6 := by ((try clear hh_ih r0_ih r0_ih' r0_z r1_ih r1_ih' r1_r0 r1_r0' r1_z r2_ih r2_ih' r2_r0 r2_r0' r2_r1 r2_r1' r2_z r3_ih r3_ih' r3_r0 r3_r0' r3_r1 r3_r1' r3_r2 r3_r2' r3_z r4_ih r4_ih' r4_r0 r4_r0' r4_r1 r4_r1' r4_r2 r4_r2' r4_r3 r4_r3' r4_z r5_ih r5_ih' r5_r0 r5_r0' r5_r1 r5_r1' r5_r2 r5_r2' r5_r3 r5_r3' r5_r4 r5_r4' r5_z hih); omega)
   have hb : b < 6 := by ((try clear hh_ih r0_ih r0_ih' r0_z r1_ih r1_ih' r1_r0 r1_r0' r1_z r2_ih r2_ih' r2_r0 r2_r0' r2_r1 r2_r1' r2_z r3_ih r3_ih' r3_r0 r3_r0' r3_r1 r3_r1' r3_r2 r3_r2' r3_z r4_ih r4_ih' r4_r0 r4_r0' r4_r1 r4_r1' r4_r2 r4_r2' r4_r3 r4_r3' r4_z r5_ih r5_ih' r5_r0 r5_r0' r5_r1 r5_r1' r5_r2 r5_r2' r5_r3 r5_r3' r5_r4 r5_r4' r5_z hih); omega)
   have hab : a ≠ b := by ((try clear hh_ih r0_ih r0_ih' r0_z r1_ih r1_ih' r1_r0 r1_r0' r1_z r2_ih r2_ih' r2_r0 r2_r0' r2_r1 r2_r1' r2_z r3_ih r3_ih' r3_r0 r3_r0' r3_r1 r3_r1' r3_r2 r3_r2' r3_z r4_ih r4_ih' r4_r0 r4_r0' r4_r1 r4_r1' r4_r2 r4_r2' r4_r3 r4_r3' r4_z r5_ih r5_ih' r5_r0 r5_r0' r5_r1 r5_r1' r5_r2 r5_r2' r5_r3 r5_r3' r5_r4 r5_r4' r5_z hih); omega)
   simp only [vsAll, loadA, loadRow, indexAddrA, opA, allocA, storeObj, dstOk, nilSliceOp, Nat.reduceMul, Nat.reduceLT, Nat.reduceEqDiff, Nat.reduceBEq, ↓reduceIte, eq_self, wtAll, prF_at, hp]
   refine ⟨⟨by ((try clear hh_ih r0_ih r0_ih' r0_z r1_ih r1_ih' r1_r0 r1_r0' r1_z r2_ih r2_ih' r2_r0 r2_r0' r2_r1 r2_r1' r2_z r3_ih r3_ih' r3_r0 r3_r0' r3_r1 r3_r1' r3_r2 r3_r2' r3_z r4_ih r4_ih' r4_r0 r4_r0' r4_r1 r4_r1' r4_r2 r4_r2' r4_r3 r4_r3' r4_z r5_ih r5_ih' r5_r0 r5_r0' r5_r1 r5_r1' r5_r2 r5_r2' r5_r3 r5_r3' r5_r4 r5_r4' r5_z hih); omega), by ((try clear hh_ih r0_ih r0_ih' r0_z r1_ih r1_ih' r1_r0 r1_r0' r1_z r2_ih r2_ih' r2_r0 r2_r0' r2_r1 r2_r1' r2_z r3_ih r3_ih' r3_r0 r3_r0' r3_r1 r3_r1' r3_r2 r3_r2' r3_z r4_ih r4_ih' r4_r0 r4_r0' r4_r1 r4_r1' r4_r2 r4_r2' r4_r3 r4_r3' r4_z r5_ih r5_ih' r5_r0 r5_r0' r5_r1 r5_r1' r5_r2 r5_r2' r5_r3 r5_r3' r5_r4 r5_r4' r5_z hih); omega)⟩, his, ?_⟩
   intro i7 hh_i7; (try simp only [Hp.set_none, ite_none] at hh_i7)
   obtain ⟨i7_h, i7_r, i7_z⟩ := opH_none kI hh_i7
   have i7_h' : ¬ ih = i7 := fun e => i7_h e.symm
   skip
   refine ⟨fun q hq => ?_, ?_⟩
   ·rcases (by ((try clear hh_ih r0_ih r0_ih' r0_z r1_ih r1_ih' r1_r0 r1_r0' r1_z r2_ih r2_ih' r2_r0 r2_r0' r2_r1 r2_r1' r2_z r3_ih r3_ih' r3_r0 r3_r0' r3_r1 r3_r1' r3_r2 r3_r2' r3_z r4_ih r4_ih' r4_r0 r4_r0' r4_r1 r4_r1' r4_r2 r4_r2' r4_r3 r4_r3' r4_z r5_ih r5_ih' r5_r0 r5_r0' r5_r1 r5_r1' r5_r2 r5_r2' r5_r3 r5_r3' r5_r4 r5_r4' r5_z hih hh_i7 i7_h i7_h'); omega) : q = 0 ∨ q = 1) with rfl | rfl
    ·exact ⟨rfl, trivial⟩
    ·exact ⟨rfl, trivial⟩
   refine vs_draw2 [0, 0, 0, 0, 0, 0, 0, 0, 0, 0, 0, 0, 0, 0, 0, 0, 0, 0, 0, 0, 0, 0, 0, 0, 0, 0, 1] [([0, 1, 2, 3, 4, 5, 6, 7, 8, 9, 10, 11, 12, 13, 14, 15, 16, 17, 18, 19, 20, 21, 22, 23, 24, 25], [], 26)] [] (by decide +kernel) ?_
   simp only [vsAll, loadA, loadRow, partA, partOk, indexAddrA, opA, dstOk, Nat.reduceMul, Nat.reduceLT, Nat.reduceEqDiff, Int.reduceLE, Int.reduceToNat, ↓reduceIte, eq_self, wtAll]
   refine ⟨by decide, qcall _ ⟨trivial, by simp only [vsAll, okAll, opsA, opA, Nat.reduceEqDiff, ↓reduceIte, eq_self], isSeam_tri d a _ (by ((try clear hh_ih r0_ih r0_ih' r0_z r1_ih r1_ih' r1_r0 r1_r0' r1_z r2_ih r2_ih' r2_r0 r2_r0' r2_r1 r2_r1' r2_z r3_ih r3_ih' r3_r0 r3_r0' r3_r1 r3_r1' r3_r2 r3_r2' r3_z r4_ih r4_ih' r4_r0 r4_r0' r4_r1 r4_r1' r4_r2 r4_r2' r4_r3 r4_r3' r4_z r5_ih r5_ih' r5_r0 r5_r0' r5_r1 r5_r1' r5_r2 r5_r2' r5_r3 r5_r3' r5_r4 r5_r4' r5_z hih hh_i7 i7_h i7_h'); omega))⟩ ?_⟩
   rw [hA]
   simp only [vsAll, loadA, loadRow, partA, partOk, indexAddrA, opA, guardV, dstOk, Nat.reduceMul, Nat.reduceLT, Nat.reduceEqDiff, Int.reduceLE, Int.reduceToNat, ↓reduceIte, forall_const, eq_self, wtAll]
   refine ⟨by decide, qgcall (boo true) (fun g => ⟨by simp only [vsAll, opA], by simp only [vsAll, okAll, opsA, opA, Nat.reduceEqDiff, ↓reduceIte, eq_self], by have := isSeam_tri d b; rw [hB] at this; exact this _ (by ((try clear hh_ih r0_ih r0_ih' r0_z r1_ih r1_ih' r1_r0 r1_r0' r1_z r2_ih r2_ih' r2_r0 r2_r0' r2_r1 r2_r1' r2_z r3_ih r3_ih' r3_r0 r3_r0' r3_r1 r3_r1' r3_r2 r3_r2' r3_z r4_ih r4_ih' r4_r0 r4_r0' r4_r1 r4_r1' r4_r2 r4_r2' r4_r3 r4_r3' r4_z r5_ih r5_ih' r5_r0 r5_r0' r5_r1 r5_r1' r5_r2 r5_r2' r5_r3 r5_r3' r5_r4 r5_r4' r5_z hih hh_i7 i7_h i7_h'); omega))⟩) ?_⟩
   simp only [vsAll, binA, binLitA, intA, loadA, loadRow, partA, partOk, fieldAddrA, indexAddrA, pickA, opA, guardV, sliceA, sliceS, boundsA, opO, okO, dstOk, Nat.reduceMul, Nat.reduceLT, Nat.reduceEqDiff, Int.reduceLE, Int.reduceToNat, ↓reduceIte, implies_true, forall_const, eq_self, wtAll, hAB]
   refine ⟨by decide, by decide, ⟨by ((try clear hh_ih r0_ih r0_ih' r0_z r1_ih r1_ih' r1_r0 r1_r0' r1_z r2_ih r2_ih' r2_r0 r2_r0' r2_r1 r2_r1' r2_z r3_ih r3_ih' r3_r0 r3_r0' r3_r1 r3_r1' r3_r2 r3_r2' r3_z r4_ih r4_ih' r4_r0 r4_r0' r4_r1 r4_r1' r4_r2 r4_r2' r4_r3 r4_r3' r4_z r5_ih r5_ih' r5_r0 r5_r0' r5_r1 r5_r1' r5_r2 r5_r2' r5_r3 r5_r3' r5_r4 r5_r4' r5_z hih hh_i7 i7_h i7_h'); omega), by ((try clear hh_ih r0_ih r0_ih' r0_z r1_ih r1_ih' r1_r0 r1_r0' r1_z r2_ih r2_ih' r2_r0 r2_r0' r2_r1 r2_r1' r2_z r3_ih r3_ih' r3_r0 r3_r0' r3_r1 r3_r1' r3_r2 r3_r2' r3_z r4_ih r4_ih' r4_r0 r4_r0' r4_r1 r4_r1' r4_r2 r4_r2' r4_r3 r4_r3' r4_z r5_ih r5_ih' r5_r0 r5_r0' r5_r1 r5_r1' r5_r2 r5_r2' r5_r3 r5_r3' r5_r4 r5_r4' r5_z hih hh_i7 i7_h i7_h'); omega)⟩, qgcall (boo false) (fun g => ⟨trivial, by simp only [vsAll, okAll, opsA, opA, Nat.reduceEqDiff, ↓reduceIte, eq_self], Tri.args (args' := [.rsl i 2 (prF d.be), pA (a, b)]) (contains_tri d.be i (a, b) _ (by ((try clear hh_ih r0_ih r0_ih' r0_z r1_ih r1_ih' r1_r0 r1_r0' r1_z r2_ih r2_ih' r2_r0 r2_r0' r2_r1 r2_r1' r2_z r3_ih r3_ih' r3_r0 r3_r0' r3_r1 r3_r1' r3_r2 r3_r2' r3_z r4_ih r4_ih' r4_r0 r4_r0' r4_r1 r4_r1' r4_r2 r4_r2' r4_r3 r4_r3' r4_z r5_ih r5_ih' r5_r0 r5_r0' r5_r1 r5_r1' r5_r2 r5_r2' r5_r3 r5_r3' r5_r4 r5_r4' r5_z hih hh_i7 i7_h i7_h'); omega)) (by ((try clear hh_ih r0_ih r0_ih' r0_z r1_ih r1_ih' r1_r0 r1_r0' r1_z r2_ih r2_ih' r2_r0 r2_r0' r2_r1 r2_r1' r2_z r3_ih r3_ih' r3_r0 r3_r0' r3_r1 r3_r1' r3_r2 r3_r2' r3_z r4_ih r4_ih' r4_r0 r4_r0' r4_r1 r4_r1' r4_r2 r4_r2' r4_r3 r4_r3' r4_z r5_ih r5_ih' r5_r0 r5_r0' r5_r1 r5_r1' r5_r2 r5_r2' r5_r3 r5_r3' r5_r4 r5_r4' r5_z hih hh_i7 i7_h i7_h'); omega)) hnd) rfl fun j hj => ?_⟩) ?_⟩
   ·match j, hj with
    | 0, _ => exact .refl _
    | 1, _ =>
      refine .arr fun q hq => ?_
      rcases (by ((try clear hh_ih r0_ih r0_ih' r0_z r1_ih r1_ih' r1_r0 r1_r0' r1_z r2_ih r2_ih' r2_r0 r2_r0' r2_r1 r2_r1' r2_z r3_ih r3_ih' r3_r0 r3_r0' r3_r1 r3_r1' r3_r2 r3_r2' r3_z r4_ih r4_ih' r4_r0 r4_r0' r4_r1 r4_r1' r4_r2 r4_r2' r4_r3 r4_r3' r4_z r5_ih r5_ih' r5_r0 r5_r0' r5_r1 r5_r1' r5_r2 r5_r2' r5_r3 r5_r3' r5_r4 r5_r4' r5_z hih hh_i7 i7_h i7_h'); omega) : q = 0 ∨ q = 1) with rfl | rfl <;> rfl
   simp only [vsAll, unA, pickA, okAll, stAll, opsA, opA, guardV, dstOk, Nat.reduceLT, Nat.reduceEqDiff, ↓reduceIte, implies_true, eq_self]
   refine dwant_call (fun _ => ?_) (fun hb => by cases hb)
   simp only [vsAll]
   have ra := opH_row (d := d) (nb := fun j => nbL (d.be.take i) j) kI ha
   have rb := opH_row (d := d) (nb := fun j => nbL (d.be.take i) j) kI hb
   have ca := hcL_at d ids (fun j => nbL (d.be.take i) j) ha
   have cb := hcL_at d ids (fun j => nbL (d.be.take i) j) hb
   have qa : ¬ ids a = i7 := fun e => i7_r a ha e.symm
   have qb : ¬ ids b = i7 := fun e => i7_r b hb e.symm
   have qa' : ¬ i7 = ids a := i7_r a ha
   have qb' : ¬ i7 = ids b := i7_r b hb
   have qha : ¬ ih = ids a := fun e => kI.ne a ha e.symm
   have qhb : ¬ ih = ids b := fun e => kI.ne b hb e.symm
   have qha' : ¬ ids a = ih := kI.ne a ha
   have qhb' : ¬ ids b = ih := kI.ne b hb
   have qab : ¬ ids a = ids b := fun e => hab (kI.inj a b ha hb e)
   have qab' : ¬ ids b = ids a := fun e => hab (kI.inj a b ha hb e.symm)
   skip
   refine vs_draw2 [0, 0, 0, 0, 0, 0, 0, 0, 0, 0, 0, 0, 0, 0, 0, 0, 1, 0, 0, 0, 0, 0, 0, 0, 0, 0, 0, 3, 0, 0, 4, 5, 0, 0, 6, 7] [([0, 1, 2, 3, 4, 5, 6, 7, 8, 9, 10, 11, 12, 13, 14, 15, 17, 18, 19, 20, 21, 22, 23, 24, 25, 26, 28, 29, 32, 33], [2, 5, 19, 23, 25], 16), ([], [2, 5], 27), ([30], [5], 31), ([34], [], 35)] [] (by decide +kernel) ?_
   simp only [vsAll, binA, binLitA, intA, loadA, loadRow, partA, partOk, fieldAddrA, indexAddrA, nilCheckA, cellA, cellsA, okParts, buildSliceA, partIdx, elemsA, lensA, partsA, partsOk, opA, newCells, okCells, storeObj, appendA, dstOk, Nat.reduceMul, Nat.reduceLT, Nat.reduceLeDiff, Nat.reduceEqDiff, Int.reduceLE, Int.reduceToNat, ↓reduceIte, eq_self, wtAll, hih, i7_h, i7_h', ra, rb, ca, cb, qa, qb, qa', qb', qha, qhb, qab']
   have nla := nl a
   have nlb := nl b
   have nsa : nbL (d.be.take (i + 1)) a = nbL (d.be.take i) a ++ [(b : Int)] := by rw [ns]; unfold nb1; rw [if_pos rfl]
   have nsb : nbL (d.be.take (i + 1)) b = nbL (d.be.take i) b ++ [(a : Int)] := by rw [ns]; unfold nb1; rw [if_neg (by ((try clear hh_ih r0_ih r0_ih' r0_z r1_ih r1_ih' r1_r0 r1_r0' r1_z r2_ih r2_ih' r2_r0 r2_r0' r2_r1 r2_r1' r2_z r3_ih r3_ih' r3_r0 r3_r0' r3_r1 r3_r1' r3_r2 r3_r2' r3_z r4_ih r4_ih' r4_r0 r4_r0' r4_r1 r4_r1' r4_r2 r4_r2' r4_r3 r4_r3' r4_z r5_ih r5_ih' r5_r0 r5_r0' r5_r1 r5_r1' r5_r2 r5_r2' r5_r3 r5_r3' r5_r4 r5_r4' r5_z hih hh_i7 i7_h i7_h' ra rb ca cb qa qb qa' qb' qha qhb qha' qhb' qab qab'); omega)), if_pos rfl]
   have nso : ∀ j : Nat, j ≠ a → j ≠ b → nbL (d.be.take (i + 1)) j = nbL (d.be.take i) j := fun j h1 h2 => by rw [ns]; unfold nb1; rw [if_neg (by ((try clear hh_ih r0_ih r0_ih' r0_z r1_ih r1_ih' r1_r0 r1_r0' r1_z r2_ih r2_ih' r2_r0 r2_r0' r2_r1 r2_r1' r2_z r3_ih r3_ih' r3_r0 r3_r0' r3_r1 r3_r1' r3_r2 r3_r2' r3_z r4_ih r4_ih' r4_r0 r4_r0' r4_r1 r4_r1' r4_r2 r4_r2' r4_r3 r4_r3' r4_z r5_ih r5_ih' r5_r0 r5_r0' r5_r1 r5_r1' r5_r2 r5_r2' r5_r3 r5_r3' r5_r4 r5_r4' r5_z hih hh_i7 i7_h i7_h' ra rb ca cb qa qb qa' qb' qha qhb qha' qhb' qab qab'); omega)), if_neg (by ((try clear hh_ih r0_ih r0_ih' r0_z r1_ih r1_ih' r1_r0 r1_r0' r1_z r2_ih r2_ih' r2_r0 r2_r0' r2_r1 r2_r1' r2_z r3_ih r3_ih' r3_r0 r3_r0' r3_r1 r3_r1' r3_r2 r3_r2' r3_z r4_ih r4_ih' r4_r0 r4_r0' r4_r1 r4_r1' r4_r2 r4_r2' r4_r3 r4_r3' r4_z r5_ih r5_ih' r5_r0 r5_r0' r5_r1 r5_r1' r5_r2 r5_r2' r5_r3 r5_r3' r5_r4 r5_r4' r5_z hih hh_i7 i7_h i7_h' ra rb ca cb qa qb qa' qb' qha qhb qha' qhb' qab qab'); omega)), List.append_nil]
   refine ⟨by decide, by decide, by decide, ⟨by ((try clear hh_ih r0_ih r0_ih' r0_z r1_ih r1_ih' r1_r0 r1_r0' r1_z r2_ih r2_ih' r2_r0 r2_r0' r2_r1 r2_r1' r2_z r3_ih r3_ih' r3_r0 r3_r0' r3_r1 r3_r1' r3_r2 r3_r2' r3_z r4_ih r4_ih' r4_r0 r4_r0' r4_r1 r4_r1' r4_r2 r4_r2' r4_r3 r4_r3' r4_z r5_ih r5_ih' r5_r0 r5_r0' r5_r1 r5_r1' r5_r2 r5_r2' r5_r3 r5_r3' r5_r4 r5_r4' r5_z hih hh_i7 i7_h i7_h' ra rb ca cb qa qb qa' qb' qha qhb qha' qhb' qab qab'); omega), by ((try clear hh_ih r0_ih r0_ih' r0_z r1_ih r1_ih' r1_r0 r1_r0' r1_z r2_ih r2_ih' r2_r0 r2_r0' r2_r1 r2_r1' r2_z r3_ih r3_ih' r3_r0 r3_r0' r3_r1 r3_r1' r3_r2 r3_r2' r3_z r4_ih r4_ih' r4_r0 r4_r0' r4_r1 r4_r1' r4_r2 r4_r2' r4_r3 r4_r3' r4_z r5_ih r5_ih' r5_r0 r5_r0' r5_r1 r5_r1' r5_r2 r5_r2' r5_r3 r5_r3' r5_r4 r5_r4' r5_z hih hh_i7 i7_h i7_h' ra rb ca cb qa qb qa' qb' qha qhb qha' qhb' qab qab'); omega)⟩, by ((try clear hh_ih r0_ih r0_ih' r0_z r1_ih r1_ih' r1_r0 r1_r0' r1_z r2_ih r2_ih' r2_r0 r2_r0' r2_r1 r2_r1' r2_z r3_ih r3_ih' r3_r0 r3_r0' r3_r1 r3_r1' r3_r2 r3_r2' r3_z r4_ih r4_ih' r4_r0 r4_r0' r4_r1 r4_r1' r4_r2 r4_r2' r4_r3 r4_r3' r4_z r5_ih r5_ih' r5_r0 r5_r0' r5_r1 r5_r1' r5_r2 r5_r2' r5_r3 r5_r3' r5_r4 r5_r4' r5_z hih hh_i7 i7_h i7_h' ra rb ca cb qa qb qa' qb' qha qhb qha' qhb' qab qab'); omega), by decide, by decide, ⟨by ((try clear hh_ih r0_ih r0_ih' r0_z r1_ih r1_ih' r1_r0 r1_r0' r1_z r2_ih r2_ih' r2_r0 r2_r0' r2_r1 r2_r1' r2_z r3_ih r3_ih' r3_r0 r3_r0' r3_r1 r3_r1' r3_r2 r3_r2' r3_z r4_ih r4_ih' r4_r0 r4_r0' r4_r1 r4_r1' r4_r2 r4_r2' r4_r3 r4_r3' r4_z r5_ih r5_ih' r5_r0 r5_r0' r5_r1 r5_r1' r5_r2 r5_r2' r5_r3 r5_r3' r5_r4 r5_r4' r5_z hih hh_i7 i7_h i7_h' ra rb ca cb qa qb qa' qb' qha qhb qha' qhb' qab qab'); omega), by ((try clear hh_ih r0_ih r0_ih' r0_z r1_ih r1_ih' r1_r0 r1_r0' r1_z r2_ih r2_ih' r2_r0 r2_r0' r2_r1 r2_r1' r2_z r3_ih r3_ih' r3_r0 r3_r0' r3_r1 r3_r1' r3_r2 r3_r2' r3_z r4_ih r4_ih' r4_r0 r4_r0' r4_r1 r4_r1' r4_r2 r4_r2' r4_r3 r4_r3' r4_z r5_ih r5_ih' r5_r0 r5_r0' r5_r1 r5_r1' r5_r2 r5_r2' r5_r3 r5_r3' r5_r4 r5_r4' r5_z hih hh_i7 i7_h i7_h' ra rb ca cb qa qb qa' qb' qha qhb qha' qhb' qab qab'); omega)⟩, by ((try clear hh_ih r0_ih r0_ih' r0_z r1_ih r1_ih' r1_r0 r1_r0' r1_z r2_ih r2_ih' r2_r0 r2_r0' r2_r1 r2_r1' r2_z r3_ih r3_ih' r3_r0 r3_r0' r3_r1 r3_r1' r3_r2 r3_r2' r3_z r4_ih r4_ih' r4_r0 r4_r0' r4_r1 r4_r1' r4_r2 r4_r2' r4_r3 r4_r3' r4_z r5_ih r5_ih' r5_r0 r5_r0' r5_r1 r5_r1' r5_r2 r5_r2' r5_r3 r5_r3' r5_r4 r5_r4' r5_z hih hh_i7 i7_h i7_h' ra rb ca cb qa qb qa' qb' qha qhb qha' qhb' qab qab'); omega), by decide, fun q hq => by (have : q = 0 := by ((try clear hh_ih r0_ih r0_ih' r0_z r1_ih r1_ih' r1_r0 r1_r0' r1_z r2_ih r2_ih' r2_r0 r2_r0' r2_r1 r2_r1' r2_z r3_ih r3_ih' r3_r0 r3_r0' r3_r1 r3_r1' r3_r2 r3_r2' r3_z r4_ih r4_ih' r4_r0 r4_r0' r4_r1 r4_r1' r4_r2 r4_r2' r4_r3 r4_r3' r4_z r5_ih r5_ih' r5_r0 r5_r0' r5_r1 r5_r1' r5_r2 r5_r2' r5_r3 r5_r3' r5_r4 r5_r4' r5_z hih hh_i7 i7_h i7_h' ra rb ca cb qa qb qa' qb' qha qhb qha' qhb' qab qab'); omega)); subst this; exact ⟨rfl, trivial⟩, by ((try clear hh_ih r0_ih r0_ih' r0_z r1_ih r1_ih' r1_r0 r1_r0' r1_z r2_ih r2_ih' r2_r0 r2_r0' r2_r1 r2_r1' r2_z r3_ih r3_ih' r3_r0 r3_r0' r3_r1 r3_r1' r3_r2 r3_r2' r3_z r4_ih r4_ih' r4_r0 r4_r0' r4_r1 r4_r1' r4_r2 r4_r2' r4_r3 r4_r3' r4_z r5_ih r5_ih' r5_r0 r5_r0' r5_r1 r5_r1' r5_r2 r5_r2' r5_r3 r5_r3' r5_r4 r5_r4' r5_z hih hh_i7 i7_h i7_h' ra rb ca cb qa qb qa' qb' qha qhb qha' qhb' qab qab'); omega), by ((try clear hh_ih r0_ih r0_ih' r0_z r1_ih r1_ih' r1_r0 r1_r0' r1_z r2_ih r2_ih' r2_r0 r2_r0' r2_r1 r2_r1' r2_z r3_ih r3_ih' r3_r0 r3_r0' r3_r1 r3_r1' r3_r2 r3_r2' r3_z r4_ih r4_ih' r4_r0 r4_r0' r4_r1 r4_r1' r4_r2 r4_r2' r4_r3 r4_r3' r4_z r5_ih r5_ih' r5_r0 r5_r0' r5_r1 r5_r1' r5_r2 r5_r2' r5_r3 r5_r3' r5_r4 r5_r4' r5_z hih hh_i7 i7_h i7_h' ra rb ca cb qa qb qa' qb' qha qhb qha' qhb' qab qab'); omega), by ((try clear hh_ih r0_ih r0_ih' r0_z r1_ih r1_ih' r1_r0 r1_r0' r1_z r2_ih r2_ih' r2_r0 r2_r0' r2_r1 r2_r1' r2_z r3_ih r3_ih' r3_r0 r3_r0' r3_r1 r3_r1' r3_r2 r3_r2' r3_z r4_ih r4_ih' r4_r0 r4_r0' r4_r1 r4_r1' r4_r2 r4_r2' r4_r3 r4_r3' r4_z r5_ih r5_ih' r5_r0 r5_r0' r5_r1 r5_r1' r5_r2 r5_r2' r5_r3 r5_r3' r5_r4 r5_r4' r5_z hih hh_i7 i7_h i7_h' ra rb ca cb qa qb qa' qb' qha qhb qha' qhb' qab qab'); omega), fun q hq => by (have : q = 0 := by ((try clear hh_ih r0_ih r0_ih' r0_z r1_ih r1_ih' r1_r0 r1_r0' r1_z r2_ih r2_ih' r2_r0 r2_r0' r2_r1 r2_r1' r2_z r3_ih r3_ih' r3_r0 r3_r0' r3_r1 r3_r1' r3_r2 r3_r2' r3_z r4_ih r4_ih' r4_r0 r4_r0' r4_r1 r4_r1' r4_r2 r4_r2' r4_r3 r4_r3' r4_z r5_ih r5_ih' r5_r0 r5_r0' r5_r1 r5_r1' r5_r2 r5_r2' r5_r3 r5_r3' r5_r4 r5_r4' r5_z hih hh_i7 i7_h i7_h' ra rb ca cb qa qb qa' qb' qha qhb qha' qhb' qab qab'); omega)); subst this; exact ⟨rfl, trivial⟩, by ((try clear hh_ih r0_ih r0_ih' r0_z r1_ih r1_ih' r1_r0 r1_r0' r1_z r2_ih r2_ih' r2_r0 r2_r0' r2_r1 r2_r1' r2_z r3_ih r3_ih' r3_r0 r3_r0' r3_r1 r3_r1' r3_r2 r3_r2' r3_z r4_ih r4_ih' r4_r0 r4_r0' r4_r1 r4_r1' r4_r2 r4_r2' r4_r3 r4_r3' r4_z r5_ih r5_ih' r5_r0 r5_r0' r5_r1 r5_r1' r5_r2 r5_r2' r5_r3 r5_r3' r5_r4 r5_r4' r5_z hih hh_i7 i7_h i7_h' ra rb ca cb qa qb qa' qb' qha qhb qha' qhb' qab qab'); omega), by ((try clear hh_ih r0_ih r0_ih' r0_z r1_ih r1_ih' r1_r0 r1_r0' r1_z r2_ih r2_ih' r2_r0 r2_r0' r2_r1 r2_r1' r2_z r3_ih r3_ih' r3_r0 r3_r0' r3_r1 r3_r1' r3_r2 r3_r2' r3_z r4_ih r4_ih' r4_r0 r4_r0' r4_r1 r4_r1' r4_r2 r4_r2' r4_r3 r4_r3' r4_z r5_ih r5_ih' r5_r0 r5_r0' r5_r1 r5_r1' r5_r2 r5_r2' r5_r3 r5_r3' r5_r4 r5_r4' r5_z hih hh_i7 i7_h i7_h' ra rb ca cb qa qb qa' qb' qha qhb qha' qhb' qab qab'); omega), ⟨by ((try clear hh_ih r0_ih r0_ih' r0_z r1_ih r1_ih' r1_r0 r1_r0' r1_z r2_ih r2_ih' r2_r0 r2_r0' r2_r1 r2_r1' r2_z r3_ih r3_ih' r3_r0 r3_r0' r3_r1 r3_r1' r3_r2 r3_r2' r3_z r4_ih r4_ih' r4_r0 r4_r0' r4_r1 r4_r1' r4_r2 r4_r2' r4_r3 r4_r3' r4_z r5_ih r5_ih' r5_r0 r5_r0' r5_r1 r5_r1' r5_r2 r5_r2' r5_r3 r5_r3' r5_r4 r5_r4' r5_z hih hh_i7 i7_h i7_h' ra rb ca cb qa qb qa' qb' qha qhb qha' qhb' qab qab'); omega), by ((try clear hh_ih r0_ih r0_ih' r0_z r1_ih r1_ih' r1_r0 r1_r0' r1_z r2_ih r2_ih' r2_r0 r2_r0' r2_r1 r2_r1' r2_z r3_ih r3_ih' r3_r0 r3_r0' r3_r1 r3_r1' r3_r2 r3_r2' r3_z r4_ih r4_ih' r4_r0 r4_r0' r4_r1 r4_r1' r4_r2 r4_r2' r4_r3 r4_r3' r4_z r5_ih r5_ih' r5_r0 r5_r0' r5_r1 r5_r1' r5_r2 r5_r2' r5_r3 r5_r3' r5_r4 r5_r4' r5_z hih hh_i7 i7_h i7_h' ra rb ca cb qa qb qa' qb' qha qhb qha' qhb' qab qab'); omega)⟩, by ((try clear hh_ih r0_ih r0_ih' r0_z r1_ih r1_ih' r1_r0 r1_r0' r1_z r2_ih r2_ih' r2_r0 r2_r0' r2_r1 r2_r1' r2_z r3_ih r3_ih' r3_r0 r3_r0' r3_r1 r3_r1' r3_r2 r3_r2' r3_z r4_ih r4_ih' r4_r0 r4_r0' r4_r1 r4_r1' r4_r2 r4_r2' r4_r3 r4_r3' r4_z r5_ih r5_ih' r5_r0 r5_r0' r5_r1 r5_r1' r5_r2 r5_r2' r5_r3 r5_r3' r5_r4 r5_r4' r5_z hih hh_i7 i7_h i7_h' ra rb ca cb qa qb qa' qb' qha qhb qha' qhb' qab qab'); omega), ⟨by ((try clear hh_ih r0_ih r0_ih' r0_z r1_ih r1_ih' r1_r0 r1_r0' r1_z r2_ih r2_ih' r2_r0 r2_r0' r2_r1 r2_r1' r2_z r3_ih r3_ih' r3_r0 r3_r0' r3_r1 r3_r1' r3_r2 r3_r2' r3_z r4_ih r4_ih' r4_r0 r4_r0' r4_r1 r4_r1' r4_r2 r4_r2' r4_r3 r4_r3' r4_z r5_ih r5_ih' r5_r0 r5_r0' r5_r1 r5_r1' r5_r2 r5_r2' r5_r3 r5_r3' r5_r4 r5_r4' r5_z hih hh_i7 i7_h i7_h' ra rb ca cb qa qb qa' qb' qha qhb qha' qhb' qab qab'); omega), by ((try clear hh_ih r0_ih r0_ih' r0_z r1_ih r1_ih' r1_r0 r1_r0' r1_z r2_ih r2_ih' r2_r0 r2_r0' r2_r1 r2_r1' r2_z r3_ih r3_ih' r3_r0 r3_r0' r3_r1 r3_r1' r3_r2 r3_r2' r3_z r4_ih r4_ih' r4_r0 r4_r0' r4_r1 r4_r1' r4_r2 r4_r2' r4_r3 r4_r3' r4_z r5_ih r5_ih' r5_r0 r5_r0' r5_r1 r5_r1' r5_r2 r5_r2' r5_r3 r5_r3' r5_r4 r5_r4' r5_z hih hh_i7 i7_h i7_h' ra rb ca cb qa qb qa' qb' qha qhb qha' qhb' qab qab'); omega)⟩, by ((try clear hh_ih r0_ih r0_ih' r0_z r1_ih r1_ih' r1_r0 r1_r0' r1_z r2_ih r2_ih' r2_r0 r2_r0' r2_r1 r2_r1' r2_z r3_ih r3_ih' r3_r0 r3_r0' r3_r1 r3_r1' r3_r2 r3_r2' r3_z r4_ih r4_ih' r4_r0 r4_r0' r4_r1 r4_r1' r4_r2 r4_r2' r4_r3 r4_r3' r4_z r5_ih r5_ih' r5_r0 r5_r0' r5_r1 r5_r1' r5_r2 r5_r2' r5_r3 r5_r3' r5_r4 r5_r4' r5_z hih hh_i7 i7_h i7_h' ra rb ca cb qa qb qa' qb' qha qhb qha' qhb' qab qab'); omega), by simp only [InR_i64]; ((try clear hh_ih r0_ih r0_ih' r0_z r1_ih r1_ih' r1_r0 r1_r0' r1_z r2_ih r2_ih' r2_r0 r2_r0' r2_r1 r2_r1' r2_z r3_ih r3_ih' r3_r0 r3_r0' r3_r1 r3_r1' r3_r2 r3_r2' r3_z r4_ih r4_ih' r4_r0 r4_r0' r4_r1 r4_r1' r4_r2 r4_r2' r4_r3 r4_r3' r4_z r5_ih r5_ih' r5_r0 r5_r0' r5_r1 r5_r1' r5_r2 r5_r2' r5_r3 r5_r3' r5_r4 r5_r4' r5_z hih hh_i7 i7_h i7_h' ra rb ca cb qa qb qa' qb' qha qhb qha' qhb' qab qab'); omega), loop_next (i + 1) his (by ((try clear hh_ih r0_ih r0_ih' r0_z r1_ih r1_ih' r1_r0 r1_r0' r1_z r2_ih r2_ih' r2_r0 r2_r0' r2_r1 r2_r1' r2_z r3_ih r3_ih' r3_r0 r3_r0' r3_r1 r3_r1' r3_r2 r3_r2' r3_z r4_ih r4_ih' r4_r0 r4_r0' r4_r1 r4_r1' r4_r2 r4_r2' r4_r3 r4_r3' r4_z r5_ih r5_ih' r5_r0 r5_r0' r5_r1 r5_r1' r5_r2 r5_r2' r5_r3 r5_r3' r5_r4 r5_r4' r5_z hih hh_i7 i7_h i7_h' ra rb ca cb qa qb qa' qb' qha qhb qha' qhb' qab qab'); omega)) ?_ ?_⟩
   ·simp only [vsAll, Nat.reduceEqDiff, ↓reduceIte, eq_self, Int.natCast_add, Int.natCast_one]
   ·have p1 := hcL_put d ids (fun j => nbL (d.be.take i) j) (putN (fun j => nbL (d.be.take i) j) a (nbL (d.be.take i) a ++ [(b : Int)])) ha (fun j _ hj => if_neg hj)
    have p2 := hcL_put d ids (putN (fun j => nbL (d.be.take i) j) a (nbL (d.be.take i) a ++ [(b : Int)])) (fun j => nbL (d.be.take (i + 1)) j) hb (fun j _ hj => by
     unfold putN
     by_cases e : j = a
     ·subst e; rw [if_pos rfl]; exact nsa
     ·rw [if_neg e]; exact nso j e hj)
    have e1 : (putN (fun j : Nat => nbL (d.be.take i) j) a (nbL (d.be.take i) a ++ [(b : Int)]) a) = nbL (d.be.take i) a ++ [(b : Int)] := if_pos rfl
    rw [e1] at p1
    rw [nsb, ← p1] at p2
    simp only [List.length_append, List.length_cons, List.length_nil] at p2
    have apa := app_ints (nbL (d.be.take i) a) b (fun i => [[i64 (b : Int)]].getD i []) rfl
    have apb := app_ints (nbL (d.be.take i) b) a (fun i => [[i64 (a : Int)]].getD i []) rfl
    refine opH_step kI ?_ (fun c hc => ?_) (fun q h1 h2 => ?_)
    ·simp only [vsAll, ↓reduceIte, eq_self]
     rw [← p2]
    ·have hci : ¬ ids c = ih := kI.ne c hc
     have hc7 : ¬ ids c = i7 := fun e => i7_r c hc e.symm
     by_cases ea : c = a
     ·subst ea
      simp only [vsAll, ↓reduceIte, eq_self, qha', qab]
      rw [nsa, apa]; simp
     ·by_cases eb : c = b
      ·subst eb
       simp only [vsAll, ↓reduceIte, eq_self, qhb']
       rw [nsb, apb]; simp
      ·have g1 : ¬ ids c = ids a := fun e => ea (kI.inj c a hc ha e)
       have g2 : ¬ ids c = ids b := fun e => eb (kI.inj c b hc hb e)
       have rc := opH_row (d := d) (nb := fun j => nbL (d.be.take i) j) kI hc
       simp only [vsAll, ↓reduceIte, eq_self, hci, hc7, g1, g2, rc, nso c ea eb]
    ·by_cases e7 : q = i7
     ·left; rw [e7]; exact i7_z
     ·right
      have g1 := h2 a ha
      have g2 := h2 b hb
      have ho := opH_out (d := d) (H := H) (nb := fun j => nbL (d.be.take i) j) h1 h2
      simp only [vsAll, ↓reduceIte, eq_self, h1, g1, g2, e7, ho]
  ·have ei : i = d.be.length := by ((try clear hh_ih r0_ih r0_ih' r0_z r1_ih r1_ih' r1_r0 r1_r0' r1_z r2_ih r2_ih' r2_r0 r2_r0' r2_r1 r2_r1' r2_z r3_ih r3_ih' r3_r0 r3_r0' r3_r1 r3_r1' r3_r2 r3_r2' r3_z r4_ih r4_ih' r4_r0 r4_r0' r4_r1 r4_r1' r4_r2 r4_r2' r4_r3 r4_r3' r4_z r5_ih r5_ih' r5_r0 r5_r0' r5_r1 r5_r1' r5_r2 r5_r2' r5_r3 r5_r3' r5_r4 r5_r4' r5_z hih); omega)
   subst ei
   simp only [vsAll, loadA, loadRow, partA, partOk, fieldAddrA, lenA, opA, dstOk, Nat.reduceLT, Nat.reduceEqDiff, ↓reduceIte, eq_self, wtAll]
   refine vs_loop (σ := Nat) (fun i => i ≤ d.lim.length) (fun i => [(1, boo v), (2, dptr d), (5, .ref ih 0 9 0 0), (99, intsAV d.lim), (100, i64 d.lim.length), (101, i64 i)])
    (fun _ => opH d H ih ids fun j => nbL (d.be.take d.be.length) j) (fun i => d.lim.length - i) 0 (Nat.zero_le _) ?_ HSub_rfl fun i hi => ?_
   ·simp only [vsAll, Nat.reduceEqDiff, ↓reduceIte, eq_self, Int.natCast_zero]
   ·simp only [vsAll, binA, binLitA, intA, opA, dstOk, Nat.reduceLT, Nat.reduceEqDiff, ↓reduceIte, eq_self]
    refine condD (fun hd2 => ?_) (fun hd2 => ?_)
    ·have his : i < d.lim.length := by ((try clear hh_ih r0_ih r0_ih' r0_z r1_ih r1_ih' r1_r0 r1_r0' r1_z r2_ih r2_ih' r2_r0 r2_r0' r2_r1 r2_r1' r2_z r3_ih r3_ih' r3_r0 r3_r0' r3_r1 r3_r1' r3_r2 r3_r2' r3_z r4_ih r4_ih' r4_r0 r4_r0' r4_r1 r4_r1' r4_r2 r4_r2' r4_r3 r4_r3' r4_z r5_ih r5_ih' r5_r0 r5_r0' r5_r1 r5_r1' r5_r2 r5_r2' r5_r3 r5_r3' r5_r4 r5_r4' r5_z hih); omega)
     have kl := k.l i his
     have kb := k.b i his
     have hi6 : i < 6 := by ((try clear hh_ih r0_ih r0_ih' r0_z r1_ih r1_ih' r1_r0 r1_r0' r1_z r2_ih r2_ih' r2_r0 r2_r0' r2_r1 r2_r1' r2_z r3_ih r3_ih' r3_r0 r3_r0' r3_r1 r3_r1' r3_r2 r3_r2' r3_z r4_ih r4_ih' r4_r0 r4_r0' r4_r1 r4_r1' r4_r2 r4_r2' r4_r3 r4_r3' r4_z r5_ih r5_ih' r5_r0 r5_r0' r5_r1 r5_r1' r5_r2 r5_r2' r5_r3 r5_r3' r5_r4 r5_r4' r5_z hih); omega)
     have nl := nb_len k i d.be.length
     have nle := nb_le d.be d.be.length i
     have ci := hcL_at d ids (fun j => nbL (d.be.take d.be.length) j) hi6
     simp only [vsAll, binA, binLitA, intA, loadA, loadRow, partA, partOk, fieldAddrA, indexAddrA, lenA, nilCheckA, cellA, okAll, stAll, opsA, opA, allocA, newCells, okCells, storeObj, dstOk, nilSliceOp, Nat.reduceAdd, Nat.reduceLT, Nat.reduceEqDiff, Nat.reduceBEq, Int.reduceAdd, ↓reduceIte, eq_self, wtAll, hih, intF_at, prF_at]
     refine ⟨⟨by ((try clear hh_ih r0_ih r0_ih' r0_z r1_ih r1_ih' r1_r0 r1_r0' r1_z r2_ih r2_ih' r2_r0 r2_r0' r2_r1 r2_r1' r2_z r3_ih r3_ih' r3_r0 r3_r0' r3_r1 r3_r1' r3_r2 r3_r2' r3_z r4_ih r4_ih' r4_r0 r4_r0' r4_r1 r4_r1' r4_r2 r4_r2' r4_r3 r4_r3' r4_z r5_ih r5_ih' r5_r0 r5_r0' r5_r1 r5_r1' r5_r2 r5_r2' r5_r3 r5_r3' r5_r4 r5_r4' r5_z hih); omega), by ((try clear hh_ih r0_ih r0_ih' r0_z r1_ih r1_ih' r1_r0 r1_r0' r1_z r2_ih r2_ih' r2_r0 r2_r0' r2_r1 r2_r1' r2_z r3_ih r3_ih' r3_r0 r3_r0' r3_r1 r3_r1' r3_r2 r3_r2' r3_z r4_ih r4_ih' r4_r0 r4_r0' r4_r1 r4_r1' r4_r2 r4_r2' r4_r3 r4_r3' r4_z r5_ih r5_ih' r5_r0 r5_r0' r5_r1 r5_r1' r5_r2 r5_r2' r5_r3 r5_r3' r5_r4 r5_r4' r5_z hih); omega)⟩, his, ⟨by ((try clear hh_ih r0_ih r0_ih' r0_z r1_ih r1_ih' r1_r0 r1_r0' r1_z r2_ih r2_ih' r2_r0 r2_r0' r2_r1 r2_r1' r2_z r3_ih r3_ih' r3_r0 r3_r0' r3_r1 r3_r1' r3_r2 r3_r2' r3_z r4_ih r4_ih' r4_r0 r4_r0' r4_r1 r4_r1' r4_r2 r4_r2' r4_r3 r4_r3' r4_z r5_ih r5_ih' r5_r0 r5_r0' r5_r1 r5_r1' r5_r2 r5_r2' r5_r3 r5_r3' r5_r4 r5_r4' r5_z hih); omega), by ((try clear hh_ih r0_ih r0_ih' r0_z r1_ih r1_ih' r1_r0 r1_r0' r1_z r2_ih r2_ih' r2_r0 r2_r0' r2_r1 r2_r1' r2_z r3_ih r3_ih' r3_r0 r3_r0' r3_r1 r3_r1' r3_r2 r3_r2' r3_z r4_ih r4_ih' r4_r0 r4_r0' r4_r1 r4_r1' r4_r2 r4_r2' r4_r3 r4_r3' r4_z r5_ih r5_ih' r5_r0 r5_r0' r5_r1 r5_r1' r5_r2 r5_r2' r5_r3 r5_r3' r5_r4 r5_r4' r5_z hih); omega)⟩, by ((try clear hh_ih r0_ih r0_ih' r0_z r1_ih r1_ih' r1_r0 r1_r0' r1_z r2_ih r2_ih' r2_r0 r2_r0' r2_r1 r2_r1' r2_z r3_ih r3_ih' r3_r0 r3_r0' r3_r1 r3_r1' r3_r2 r3_r2' r3_z r4_ih r4_ih' r4_r0 r4_r0' r4_r1 r4_r1' r4_r2 r4_r2' r4_r3 r4_r3' r4_z r5_ih r5_ih' r5_r0 r5_r0' r5_r1 r5_r1' r5_r2 r5_r2' r5_r3 r5_r3' r5_r4 r5_r4' r5_z hih); omega), ?_⟩
     intro i10 hh_i10; (try simp only [Hp.set_none, ite_none] at hh_i10)
     obtain ⟨i10_h, i10_r, i10_z⟩ := opH_none kI hh_i10
     have i10_h' : ¬ ih = i10 := fun e => i10_h e.symm
     skip
     have cL : (decide (((nbL (d.be.take d.be.length) i).length : Int) + 1 ≤ d.lim.getD i 0) && decide (d.lim.getD i 0 ≤ 6)) = true := by rw [decide_eq_true (by ((try clear hh_ih r0_ih r0_ih' r0_z r1_ih r1_ih' r1_r0 r1_r0' r1_z r2_ih r2_ih' r2_r0 r2_r0' r2_r1 r2_r1' r2_z r3_ih r3_ih' r3_r0 r3_r0' r3_r1 r3_r1' r3_r2 r3_r2' r3_z r4_ih r4_ih' r4_r0 r4_r0' r4_r1 r4_r1' r4_r2 r4_r2' r4_r3 r4_r3' r4_z r5_ih r5_ih' r5_r0 r5_r0' r5_r1 r5_r1' r5_r2 r5_r2' r5_r3 r5_r3' r5_r4 r5_r4' r5_z hih hh_i10 i10_h i10_h' ci); omega)), decide_eq_true (by ((try clear hh_ih r0_ih r0_ih' r0_z r1_ih r1_ih' r1_r0 r1_r0' r1_z r2_ih r2_ih' r2_r0 r2_r0' r2_r1 r2_r1' r2_z r3_ih r3_ih' r3_r0 r3_r0' r3_r1 r3_r1' r3_r2 r3_r2' r3_z r4_ih r4_ih' r4_r0 r4_r0' r4_r1 r4_r1' r4_r2 r4_r2' r4_r3 r4_r3' r4_z r5_ih r5_ih' r5_r0 r5_r0' r5_r1 r5_r1' r5_r2 r5_r2' r5_r3 r5_r3' r5_r4 r5_r4' r5_z hih hh_i10 i10_h i10_h' ci); omega))]; rfl
     have cA : decide (0 ≤ (d.bl.getD i (0, 0)).1) = true := decide_eq_true (by ((try clear hh_ih r0_ih r0_ih' r0_z r1_ih r1_ih' r1_r0 r1_r0' r1_z r2_ih r2_ih' r2_r0 r2_r0' r2_r1 r2_r1' r2_z r3_ih r3_ih' r3_r0 r3_r0' r3_r1 r3_r1' r3_r2 r3_r2' r3_z r4_ih r4_ih' r4_r0 r4_r0' r4_r1 r4_r1' r4_r2 r4_r2' r4_r3 r4_r3' r4_z r5_ih r5_ih' r5_r0 r5_r0' r5_r1 r5_r1' r5_r2 r5_r2' r5_r3 r5_r3' r5_r4 r5_r4' r5_z hih hh_i10 i10_h i10_h' ci); omega))
     have cB : decide ((d.bl.getD i (0, 0)).1 ≤ (d.bl.getD i (0, 0)).2) = true := decide_eq_true (by ((try clear hh_ih r0_ih r0_ih' r0_z r1_ih r1_ih' r1_r0 r1_r0' r1_z r2_ih r2_ih' r2_r0 r2_r0' r2_r1 r2_r1' r2_z r3_ih r3_ih' r3_r0 r3_r0' r3_r1 r3_r1' r3_r2 r3_r2' r3_z r4_ih r4_ih' r4_r0 r4_r0' r4_r1 r4_r1' r4_r2 r4_r2' r4_r3 r4_r3' r4_z r5_ih r5_ih' r5_r0 r5_r0' r5_r1 r5_r1' r5_r2 r5_r2' r5_r3 r5_r3' r5_r4 r5_r4' r5_z hih hh_i10 i10_h i10_h' ci); omega))
     have cC : decide ((d.bl.getD i (0, 0)).2 ≤ 12) = true := decide_eq_true (by ((try clear hh_ih r0_ih r0_ih' r0_z r1_ih r1_ih' r1_r0 r1_r0' r1_z r2_ih r2_ih' r2_r0 r2_r0' r2_r1 r2_r1' r2_z r3_ih r3_ih' r3_r0 r3_r0' r3_r1 r3_r1' r3_r2 r3_r2' r3_z r4_ih r4_ih' r4_r0 r4_r0' r4_r1 r4_r1' r4_r2 r4_r2' r4_r3 r4_r3' r4_z r5_ih r5_ih' r5_r0 r5_r0' r5_r1 r5_r1' r5_r2 r5_r2' r5_r3 r5_r3' r5_r4 r5_r4' r5_z hih hh_i10 i10_h i10_h' ci); omega))
     have cD : decide ((d.bl.getD i (0, 0)).2 - (d.bl.getD i (0, 0)).1 ≤ 2) = true := decide_eq_true (by ((try clear hh_ih r0_ih r0_ih' r0_z r1_ih r1_ih' r1_r0 r1_r0' r1_z r2_ih r2_ih' r2_r0 r2_r0' r2_r1 r2_r1' r2_z r3_ih r3_ih' r3_r0 r3_r0' r3_r1 r3_r1' r3_r2 r3_r2' r3_z r4_ih r4_ih' r4_r0 r4_r0' r4_r1 r4_r1' r4_r2 r4_r2' r4_r3 r4_r3' r4_z r5_ih r5_ih' r5_r0 r5_r0' r5_r1 r5_r1' r5_r2 r5_r2' r5_r3 r5_r3' r5_r4 r5_r4' r5_z hih hh_i10 i10_h i10_h' ci); omega))
     simp only [vsAll, Nat.reduceLT, ↓reduceIte, eq_self, i10_h', ci]
     refine ⟨⟨by ((try clear hh_ih r0_ih r0_ih' r0_z r1_ih r1_ih' r1_r0 r1_r0' r1_z r2_ih r2_ih' r2_r0 r2_r0' r2_r1 r2_r1' r2_z r3_ih r3_ih' r3_r0 r3_r0' r3_r1 r3_r1' r3_r2 r3_r2' r3_z r4_ih r4_ih' r4_r0 r4_r0' r4_r1 r4_r1' r4_r2 r4_r2' r4_r3 r4_r3' r4_z r5_ih r5_ih' r5_r0 r5_r0' r5_r1 r5_r1' r5_r2 r5_r2' r5_r3 r5_r3' r5_r4 r5_r4' r5_z hih hh_i10 i10_h i10_h' ci); omega), by ((try clear hh_ih r0_ih r0_ih' r0_z r1_ih r1_ih' r1_r0 r1_r0' r1_z r2_ih r2_ih' r2_r0 r2_r0' r2_r1 r2_r1' r2_z r3_ih r3_ih' r3_r0 r3_r0' r3_r1 r3_r1' r3_r2 r3_r2' r3_z r4_ih r4_ih' r4_r0 r4_r0' r4_r1 r4_r1' r4_r2 r4_r2' r4_r3 r4_r3' r4_z r5_ih r5_ih' r5_r0 r5_r0' r5_r1 r5_r1' r5_r2 r5_r2' r5_r3 r5_r3' r5_r4 r5_r4' r5_z hih hh_i10 i10_h i10_h' ci); omega)⟩, by ((try clear hh_ih r0_ih r0_ih' r0_z r1_ih r1_ih' r1_r0 r1_r0' r1_z r2_ih r2_ih' r2_r0 r2_r0' r2_r1 r2_r1' r2_z r3_ih r3_ih' r3_r0 r3_r0' r3_r1 r3_r1' r3_r2 r3_r2' r3_z r4_ih r4_ih' r4_r0 r4_r0' r4_r1 r4_r1' r4_r2 r4_r2' r4_r3 r4_r3' r4_z r5_ih r5_ih' r5_r0 r5_r0' r5_r1 r5_r1' r5_r2 r5_r2' r5_r3 r5_r3' r5_r4 r5_r4' r5_z hih hh_i10 i10_h i10_h' ci); omega), by simp only [InR_i64]; ((try clear hh_ih r0_ih r0_ih' r0_z r1_ih r1_ih' r1_r0 r1_r0' r1_z r2_ih r2_ih' r2_r0 r2_r0' r2_r1 r2_r1' r2_z r3_ih r3_ih' r3_r0 r3_r0' r3_r1 r3_r1' r3_r2 r3_r2' r3_z r4_ih r4_ih' r4_r0 r4_r0' r4_r1 r4_r1' r4_r2 r4_r2' r4_r3 r4_r3' r4_z r5_ih r5_ih' r5_r0 r5_r0' r5_r1 r5_r1' r5_r2 r5_r2' r5_r3 r5_r3' r5_r4 r5_r4' r5_z hih hh_i10 i10_h i10_h' ci); omega), callK_pure (dwithin_tri _ _ _ _) ?_⟩
     rw [cL]
     simp only [vsAll, binA, binLitA, intA, loadA, loadRow, partA, partOk, fieldAddrA, pickA, okAll, stAll, opsA, opA, guardV, dstOk, Nat.reduceLT, Nat.reduceEqDiff, ↓reduceIte, implies_true, forall_const, eq_self, wtAll, cA, cB, cC, cD]
     refine ⟨by simp only [InR_i64]; ((try clear hh_ih r0_ih r0_ih' r0_z r1_ih r1_ih' r1_r0 r1_r0' r1_z r2_ih r2_ih' r2_r0 r2_r0' r2_r1 r2_r1' r2_z r3_ih r3_ih' r3_r0 r3_r0' r3_r1 r3_r1' r3_r2 r3_r2' r3_z r4_ih r4_ih' r4_r0 r4_r0' r4_r1 r4_r1' r4_r2 r4_r2' r4_r3 r4_r3' r4_z r5_ih r5_ih' r5_r0 r5_r0' r5_r1 r5_r1' r5_r2 r5_r2' r5_r3 r5_r3' r5_r4 r5_r4' r5_z hih hh_i10 i10_h i10_h' ci); omega), dwant_call (fun _ => ?_) (fun hb => by cases hb)⟩
     simp only [vsAll, binA, binLitA, intA, opA, dstOk, Nat.reduceLT, Nat.reduceEqDiff, ↓reduceIte, eq_self]
     refine ⟨by simp only [InR_i64]; ((try clear hh_ih r0_ih r0_ih' r0_z r1_ih r1_ih' r1_r0 r1_r0' r1_z r2_ih r2_ih' r2_r0 r2_r0' r2_r1 r2_r1' r2_z r3_ih r3_ih' r3_r0 r3_r0' r3_r1 r3_r1' r3_r2 r3_r2' r3_z r4_ih r4_ih' r4_r0 r4_r0' r4_r1 r4_r1' r4_r2 r4_r2' r4_r3 r4_r3' r4_z r5_ih r5_ih' r5_r0 r5_r0' r5_r1 r5_r1' r5_r2 r5_r2' r5_r3 r5_r3' r5_r4 r5_r4' r5_z hih hh_i10 i10_h i10_h' ci); omega), loop_next (i + 1) his (by ((try clear hh_ih r0_ih r0_ih' r0_z r1_ih r1_ih' r1_r0 r1_r0' r1_z r2_ih r2_ih' r2_r0 r2_r0' r2_r1 r2_r1' r2_z r3_ih r3_ih' r3_r0 r3_r0' r3_r1 r3_r1' r3_r2 r3_r2' r3_z r4_ih r4_ih' r4_r0 r4_r0' r4_r1 r4_r1' r4_r2 r4_r2' r4_r3 r4_r3' r4_z r5_ih r5_ih' r5_r0 r5_r0' r5_r1 r5_r1' r5_r2 r5_r2' r5_r3 r5_r3' r5_r4 r5_r4' r5_z hih hh_i10 i10_h i10_h' ci); omega)) ?_ ?_⟩
     ·simp only [vsAll, Nat.reduceEqDiff, ↓reduceIte, eq_self, Int.natCast_add, Int.natCast_one]
     ·refine HSub_eqn fun q => ?_
      by_cases e : q = i10
      ·left; rw [e]; exact hh_i10
      ·right; simp only [vsAll, ↓reduceIte, eq_self, e]
    ·have ei : i = d.lim.length := by ((try clear hh_ih r0_ih r0_ih' r0_z r1_ih r1_ih' r1_r0 r1_r0' r1_z r2_ih r2_ih' r2_r0 r2_r0' r2_r1 r2_r1' r2_z r3_ih r3_ih' r3_r0 r3_r0' r3_r1 r3_r1' r3_r2 r3_r2' r3_z r4_ih r4_ih' r4_r0 r4_r0' r4_r1 r4_r1' r4_r2 r4_r2' r4_r3 r4_r3' r4_z r5_ih r5_ih' r5_r0 r5_r0' r5_r1 r5_r1' r5_r2 r5_r2' r5_r3 r5_r3' r5_r4 r5_r4' r5_z hih); omega)
     subst ei
     simp only [vsAll, okAll, stAll, opsA, opA, dstOk, Nat.reduceLT, Nat.reduceEqDiff, ↓reduceIte, eq_self]
     refine dwant_call (fun hv => ?_) (fun hv => ?_)
     ·simp only [vsAll, opA, dstOk, nilSliceOp, Nat.reduceLT, Nat.reduceEqDiff, Nat.reduceBEq, ↓reduceIte, eq_self]
      have kd : ∀ i j, i < 6 → j < 6 → i ≠ j → (ids i = ids j) = False := fun i j h1 h2 h3 => eq_false fun e => h3 (kI.inj i j h1 h2 e)
      have kd : ∀ i j, i < 6 → j < 6 → ¬ i = j → (ids i = ids j) = False := kd
      refine fn_ent (Ent.freezeBox (s' := _) (id := ids 0) (st := 1) (n := (nbL (d.be.take d.be.length) ((0 : Nat) : Int)).length) (f := intF (nbL (d.be.take d.be.length) ((0 : Nat) : Int))) (j := ih) (st' := 9) (n' := 1) (g := fun _ => [intsAV d.lim, prAV d.be, prAV d.bl, .sl (ids 0) 1 (nbL (d.be.take d.be.length) ((0 : Nat) : Int)).length, .sl (ids 1) 1 (nbL (d.be.take d.be.length) ((1 : Nat) : Int)).length, .sl (ids 2) 1 (nbL (d.be.take d.be.length) ((2 : Nat) : Int)).length, .sl (ids 3) 1 (nbL (d.be.take d.be.length) ((3 : Nat) : Int)).length, .sl (ids 4) 1 (nbL (d.be.take d.be.length) ((4 : Nat) : Int)).length, .sl (ids 5) 1 (nbL (d.be.take d.be.length) ((5 : Nat) : Int)).length]) (g' := fun _ => [intsAV d.lim, prAV d.be, prAV d.bl, intsAV (nbL (d.be.take d.be.length) ((0 : Nat) : Int)), .sl (ids 1) 1 (nbL (d.be.take d.be.length) ((1 : Nat) : Int)).length, .sl (ids 2) 1 (nbL (d.be.take d.be.length) ((2 : Nat) : Int)).length, .sl (ids 3) 1 (nbL (d.be.take d.be.length) ((3 : Nat) : Int)).length, .sl (ids 4) 1 (nbL (d.be.take d.be.length) ((4 : Nat) : Int)).length, .sl (ids 5) 1 (nbL (d.be.take d.be.length) ((5 : Nat) : Int)).length]) (opH_row (d := d) (nb := fun j => nbL (d.be.take d.be.length) j) (a := 0) kI (by decide)) (opH_ih (d := d) (H := H) (ih := ih) (ids := ids) (nb := fun j => nbL (d.be.take d.be.length) j)) (fun t => .rfl) (fun _ _ => rfl) (fun q c hq hc => ?_) ?_)
      ·match c, hc with
       | 0, _ => exact .rfl
       | 1, _ => exact .rfl
       | 2, _ => exact .rfl
       | 3, _ => exact .hit
       | 4, _ => exact .rfl
       | 5, _ => exact .rfl
       | 6, _ => exact .rfl
       | 7, _ => exact .rfl
       | 8, _ => exact .rfl
      refine fn_ent (Ent.freezeBox (s' := _) (id := ids 1) (st := 1) (n := (nbL (d.be.take d.be.length) ((1 : Nat) : Int)).length) (f := intF (nbL (d.be.take d.be.length) ((1 : Nat) : Int))) (j := ih) (st' := 9) (n' := 1) (g := fun _ => [intsAV d.lim, prAV d.be, prAV d.bl, intsAV (nbL (d.be.take d.be.length) ((0 : Nat) : Int)), .sl (ids 1) 1 (nbL (d.be.take d.be.length) ((1 : Nat) : Int)).length, .sl (ids 2) 1 (nbL (d.be.take d.be.length) ((2 : Nat) : Int)).length, .sl (ids 3) 1 (nbL (d.be.take d.be.length) ((3 : Nat) : Int)).length, .sl (ids 4) 1 (nbL (d.be.take d.be.length) ((4 : Nat) : Int)).length, .sl (ids 5) 1 (nbL (d.be.take d.be.length) ((5 : Nat) : Int)).length]) (g' := fun _ => [intsAV d.lim, prAV d.be, prAV d.bl, intsAV (nbL (d.be.take d.be.length) ((0 : Nat) : Int)), intsAV (nbL (d.be.take d.be.length) ((1 : Nat) : Int)), .sl (ids 2) 1 (nbL (d.be.take d.be.length) ((2 : Nat) : Int)).length, .sl (ids 3) 1 (nbL (d.be.take d.be.length) ((3 : Nat) : Int)).length, .sl (ids 4) 1 (nbL (d.be.take d.be.length) ((4 : Nat) : Int)).length, .sl (ids 5) 1 (nbL (d.be.take d.be.length) ((5 : Nat) : Int)).length]) (by simp only [Hp.set, Hp.del, kd 1 0 (by decide) (by decide) (by decide), kI.ne 1 (by decide), if_false]; exact opH_row (a := 1) kI (by decide)) (Hp.set_same _ _ _) (fun t => .rfl) (fun _ _ => rfl) (fun q c hq hc => ?_) ?_)
      ·match c, hc with
       | 0, _ => exact .rfl
       | 1, _ => exact .rfl
       | 2, _ => exact .rfl
       | 3, _ => exact .rfl
       | 4, _ => exact .hit
       | 5, _ => exact .rfl
       | 6, _ => exact .rfl
       | 7, _ => exact .rfl
       | 8, _ => exact .rfl
      refine fn_ent (Ent.freezeBox (s' := _) (id := ids 2) (st := 1) (n := (nbL (d.be.take d.be.length) ((2 : Nat) : Int)).length) (f := intF (nbL (d.be.take d.be.length) ((2 : Nat) : Int))) (j := ih) (st' := 9) (n' := 1) (g := fun _ => [intsAV d.lim, prAV d.be, prAV d.bl, intsAV (nbL (d.be.take d.be.length) ((0 : Nat) : Int)), intsAV (nbL (d.be.take d.be.length) ((1 : Nat) : Int)), .sl (ids 2) 1 (nbL (d.be.take d.be.length) ((2 : Nat) : Int)).length, .sl (ids 3) 1 (nbL (d.be.take d.be.length) ((3 : Nat) : Int)).length, .sl (ids 4) 1 (nbL (d.be.take d.be.length) ((4 : Nat) : Int)).length, .sl (ids 5) 1 (nbL (d.be.take d.be.length) ((5 : Nat) : Int)).length]) (g' := fun _ => [intsAV d.lim, prAV d.be, prAV d.bl, intsAV (nbL (d.be.take d.be.length) ((0 : Nat) : Int)), intsAV (nbL (d.be.take d.be.length) ((1 : Nat) : Int)), intsAV (nbL (d.be.take d.be.length) ((2 : Nat) : Int)), .sl (ids 3) 1 (nbL (d.be.take d.be.length) ((3 : Nat) : Int)).length, .sl (ids 4) 1 (nbL (d.be.take d.be.length) ((4 : Nat) : Int)).length, .sl (ids 5) 1 (nbL (d.be.take d.be.length) ((5 : Nat) : Int)).length]) (by simp only [Hp.set, Hp.del, kd 2 0 (by decide) (by decide) (by decide), kd 2 1 (by decide) (by decide) (by decide), kI.ne 2 (by decide), if_false]; exact opH_row (a := 2) kI (by decide)) (Hp.set_same _ _ _) (fun t => .rfl) (fun _ _ => rfl) (fun q c hq hc => ?_) ?_)
      ·match c, hc with
       | 0, _ => exact .rfl
       | 1, _ => exact .rfl
       | 2, _ => exact .rfl
       | 3, _ => exact .rfl
       | 4, _ => exact .rfl
       | 5, _ => exact .hit
       | 6, _ => exact .rfl
       | 7, _ => exact .rfl
       | 8, _ => exact .rfl
      refine fn_ent (Ent.freezeBox (s' := _) (id := ids 3) (st := 1) (n := (nbL (d.be.take d.be.length) ((3 : Nat) : Int)).length) (f := intF (nbL (d.be.take d.be.length) ((3 : Nat) : Int))) (j := ih) (st' := 9) (n' := 1) (g := fun _ => [intsAV d.lim, prAV d.be, prAV d.bl, intsAV (nbL (d.be.take d.be.length) ((0 : Nat) : Int)), intsAV (nbL (d.be.take d.be.length) ((1 : Nat) : Int)), intsAV (nbL (d.be.take d.be.length) ((2 : Nat) : Int)), .sl (ids 3) 1 (nbL (d.be.take d.be.length) ((3 : Nat) : Int)).length, .sl (ids 4) 1 (nbL (d.be.take d.be.length) ((4 : Nat) : Int)).length, .sl (ids 5) 1 (nbL (d.be.take d.be.length) ((5 : Nat) : Int)).length]) (g' := fun _ => [intsAV d.lim, prAV d.be, prAV d.bl, intsAV (nbL (d.be.take d.be.length) ((0 : Nat) : Int)), intsAV (nbL (d.be.take d.be.length) ((1 : Nat) : Int)), intsAV (nbL (d.be.take d.be.length) ((2 : Nat) : Int)), intsAV (nbL (d.be.take d.be.length) ((3 : Nat) : Int)), .sl (ids 4) 1 (nbL (d.be.take d.be.length) ((4 : Nat) : Int)).length, .sl (ids 5) 1 (nbL (d.be.take d.be.length) ((5 : Nat) : Int)).length]) (by simp only [Hp.set, Hp.del, kd 3 0 (by decide) (by decide) (by decide), kd 3 1 (by decide) (by decide) (by decide), kd 3 2 (by decide) (by decide) (by decide), kI.ne 3 (by decide), if_false]; exact opH_row (a := 3) kI (by decide)) (Hp.set_same _ _ _) (fun t => .rfl) (fun _ _ => rfl) (fun q c hq hc => ?_) ?_)
      ·match c, hc with
       | 0, _ => exact .rfl
       | 1, _ => exact .rfl
       | 2, _ => exact .rfl
       | 3, _ => exact .rfl
       | 4, _ => exact .rfl
       | 5, _ => exact .rfl
       | 6, _ => exact .hit
       | 7, _ => exact .rfl
       | 8, _ => exact .rfl
      refine fn_ent (Ent.freezeBox (s' := _) (id := ids 4) (st := 1) (n := (nbL (d.be.take d.be.length) ((4 : Nat) : Int)).length) (f := intF (nbL (d.be.take d.be.length) ((4 : Nat) : Int))) (j := ih) (st' := 9) (n' := 1) (g := fun _ => [intsAV d.lim, prAV d.be, prAV d.bl, intsAV (nbL (d.be.take d.be.length) ((0 : Nat) : Int)), intsAV (nbL (d.be.take d.be.length) ((1 : Nat) : Int)), intsAV (nbL (d.be.take d.be.length) ((2 : Nat) : Int)), intsAV (nbL (d.be.take d.be.length) ((3 : Nat) : Int)), .sl (ids 4) 1 (nbL (d.be.take d.be.length) ((4 : Nat) : Int)).length, .sl (ids 5) 1 (nbL (d.be.take d.be.length) ((5 : Nat) : Int)).length]) (g' := fun _ => [intsAV d.lim, prAV d.be, prAV d.bl, intsAV (nbL (d.be.take d.be.length) ((0 : Nat) : Int)), intsAV (nbL (d.be.take d.be.length) ((1 : Nat) : Int)), intsAV (nbL (d.be.take d.be.length) ((2 : Nat) : Int)), intsAV (nbL (d.be.take d.be.length) ((3 : Nat) : Int)), intsAV (nbL (d.be.take d.be.length) ((4 : Nat) : Int)), .sl (ids 5) 1 (nbL (d.be.take d.be.length) ((5 : Nat) : Int)).length]) (by simp only [Hp.set, Hp.del, kd 4 0 (by decide) (by decide) (by decide), kd 4 1 (by decide) (by decide) (by decide), kd 4 2 (by decide) (by decide) (by decide), kd 4 3 (by decide) (by decide) (by decide), kI.ne 4 (by decide), if_false]; exact opH_row (a := 4) kI (by decide)) (Hp.set_same _ _ _) (fun t => .rfl) (fun _ _ => rfl) (fun q c hq hc => ?_) ?_)
      ·match c, hc with
       | 0, _ => exact .rfl
       | 1, _ => exact .rfl
       | 2, _ => exact .rfl
       | 3, _ => exact .rfl
       | 4, _ => exact .rfl
       | 5, _ => exact .rfl
       | 6, _ => exact .rfl
       | 7, _ => exact .hit
       | 8, _ => exact .rfl
      refine fn_ent (Ent.freezeBox (s' := _) (id := ids 5) (st := 1) (n := (nbL (d.be.take d.be.length) ((5 : Nat) : Int)).length) (f := intF (nbL (d.be.take d.be.length) ((5 : Nat) : Int))) (j := ih) (st' := 9) (n' := 1) (g := fun _ => [intsAV d.lim, prAV d.be, prAV d.bl, intsAV (nbL (d.be.take d.be.length) ((0 : Nat) : Int)), intsAV (nbL (d.be.take d.be.length) ((1 : Nat) : Int)), intsAV (nbL (d.be.take d.be.length) ((2 : Nat) : Int)), intsAV (nbL (d.be.take d.be.length) ((3 : Nat) : Int)), intsAV (nbL (d.be.take d.be.length) ((4 : Nat) : Int)), .sl (ids 5) 1 (nbL (d.be.take d.be.length) ((5 : Nat) : Int)).length]) (g' := fun _ => [intsAV d.lim, prAV d.be, prAV d.bl, intsAV (nbL (d.be.take d.be.length) ((0 : Nat) : Int)), intsAV (nbL (d.be.take d.be.length) ((1 : Nat) : Int)), intsAV (nbL (d.be.take d.be.length) ((2 : Nat) : Int)), intsAV (nbL (d.be.take d.be.length) ((3 : Nat) : Int)), intsAV (nbL (d.be.take d.be.length) ((4 : Nat) : Int)), intsAV (nbL (d.be.take d.be.length) ((5 : Nat) : Int))]) (by simp only [Hp.set, Hp.del, kd 5 0 (by decide) (by decide) (by decide), kd 5 1 (by decide) (by decide) (by decide), kd 5 2 (by decide) (by decide) (by decide), kd 5 3 (by decide) (by decide) (by decide), kd 5 4 (by decide) (by decide) (by decide), kI.ne 5 (by decide), if_false]; exact opH_row (a := 5) kI (by decide)) (Hp.set_same _ _ _) (fun t => .rfl) (fun _ _ => rfl) (fun q c hq hc => ?_) ?_)
      ·match c, hc with
       | 0, _ => exact .rfl
       | 1, _ => exact .rfl
       | 2, _ => exact .rfl
       | 3, _ => exact .rfl
       | 4, _ => exact .rfl
       | 5, _ => exact .rfl
       | 6, _ => exact .rfl
       | 7, _ => exact .rfl
       | 8, _ => exact .hit
      refine ret_freezeB (by rw [Tryz.results25]) (rfl) (Hp.set_same _ _ _) ?_
      refine ⟨H, HSub_eqn fun q => ?_, rfl, ?_⟩
      ·by_cases h1 : q = ih
       ·left; rw [h1]; exact kI.zh
       ·by_cases h2 : ∀ a, a < 6 → q ≠ ids a
        ·right
         have ho := opH_out (d := d) (H := H) (nb := fun j => nbL (d.be.take d.be.length) j) h1 h2
         simp only [Hp.set, Hp.del, h1, h2 0 (by decide), h2 1 (by decide), h2 2 (by decide), h2 3 (by decide), h2 4 (by decide), h2 5 (by decide), if_false]
         exact ho
        ·simp only [Classical.not_forall, Classical.not_not] at h2
         obtain ⟨a, ha, e⟩ := h2
         left; rw [e]; exact kI.z a ha
      ·subst hv
       rfl
     ·simp only [vsAll, eq_self]
      refine ⟨H, HSub_eqn fun q => ?_, rfl, ?_⟩
      ·by_cases h1 : q = ih
       ·left; rw [h1]; exact kI.zh
       ·by_cases h2 : ∀ a, a < 6 → q ≠ ids a
        ·right; exact opH_out h1 h2
        ·simp only [Classical.not_forall, Classical.not_not] at h2
         obtain ⟨a, ha, e⟩ := h2
         left; rw [e]; exact kI.z a ha
      ·subst hv; rfl
end Go.Proofs.YtclkjifgipcamaaGreat
end
section
set_option linter.unusedVariables false
set_option linter.unusedSimpArgs false
set_option maxHeartbeats 8000000
set_option maxRecDepth 100000
namespace Go.Proofs.YtclkjifgipcamaaGreat
open Go.V
def Dr.dv (d : Dr) : Dv := ⟨d.lim.length, fun i => d.lim.getD i 0, fun i j => ((nbL d.be i).count (j : Int) : Nat)⟩
theorem nb_mem {d : Dr} (k : OkD d) {i x : Int} (h : x ∈ nbL d.be i) : (0 ≤ x ∧ x < d.lim.length) ∧ x ≠ i := by
 unfold nbL at h
 rw [List.mem_flatMap] at h
 obtain ⟨p, hp, hx⟩ := h
 obtain ⟨q, hq, rfl⟩ := List.getElem_of_mem hp
 have := k.p q hq
 rw [List.getD_eq_getElem?_getD, List.getElem?_eq_getElem hq] at this
 dsimp only [Option.getD_some] at this
 unfold nb1 at hx
 split at hx
 ·simp only [List.mem_singleton] at hx; subst hx; omega
 ·split at hx
  ·simp only [List.mem_singleton] at hx; subst hx; omega
  ·cases hx
theorem cnt_sum : ∀ (L : List Int) (n : Nat), (∀ x ∈ L, 0 ≤ x ∧ x < n) → smZ (fun j => ((L.count (j : Int) : Nat) : Int)) n = L.length
 | [], n, _ => by
   have : smZ (fun j => (([] : List Int).count (j : Int) : Nat)) n = smZ (fun _ => 0) n := smZ_congr n fun _ _ => rfl
   rw [this]
   induction n with
   | zero => rfl
   | succ n ih => simp only [smZ]; rw [ih (fun x hx => by cases hx) (smZ_congr n fun _ _ => rfl)]; rfl
 | x :: L, n, h => by
   have ih := cnt_sum L n fun y hy => h y (List.mem_cons_of_mem _ hy)
   have hx := h x List.mem_cons_self
   have e : ∀ j : Nat, (((x :: L).count (j : Int) : Nat) : Int) = ((L.count (j : Int) : Nat) : Int) + (if j = x.toNat then (fun _ => (1 : Int)) j else 0) := fun j => by
    rw [List.count_cons]
    by_cases e : x = (j : Int)
    ·rw [if_pos (by simpa using e), if_pos (by omega)]; simp
    ·rw [if_neg (by simpa using e), if_neg (by omega)]; simp
   rw [smZ_congr n fun j _ => e j, smZ_add, smZ_one (fun _ => 1), ih, if_pos (by omega), List.length_cons]
   simp
theorem dv_ok {d : Dr} (k : OkD d) : d.dv.Ok := by
 refine ⟨fun i j => Int.natCast_nonneg _, fun i => ?_, fun i hi => ?_⟩
 ·show ((nbL d.be i).count (i : Int) : Int) = 0
  rw [List.count_eq_zero.2 fun h => (nb_mem k h).2 rfl]; rfl
 ·show smZ (fun j => ((nbL d.be i).count (j : Int) : Int)) d.lim.length + 1 ≤ d.lim.getD i 0
  rw [cnt_sum _ _ fun x hx => (nb_mem k hx).1]
  exact (k.l i hi).1
theorem fold_up (k : Int) : ∀ (L : List Int) (f : Nat → Int), (∀ x ∈ L, 0 ≤ x) → ∀ j, (L.foldl (fun b (o : Int) => upZ b o.toNat k) f) j = f j + k * ((L.count (j : Int) : Nat) : Int)
 | [], f, _, j => by simp
 | x :: L, f, h, j => by
   rw [List.foldl_cons, fold_up k L _ fun y hy => h y (List.mem_cons_of_mem _ hy), List.count_cons]
   have hx := h x List.mem_cons_self
   unfold upZ
   by_cases e : x = (j : Int)
   ·rw [if_pos (by omega), if_pos (by simpa using e), Int.natCast_add, Int.mul_add]; simp; omega
   ·rw [if_neg (by omega), if_neg (by simpa using e)]; simp
theorem fire_eq {d : Dr} (k : OkD d) (b : Nat → Int) (s : Nat) (n : Int) : (nbL d.be s).foldl (fun b (o : Int) => upZ b o.toNat n) (upZ b s (-n * d.lim.getD s 0)) = d.dv.fire b s n := by
 funext j
 rw [fold_up n _ _ fun x hx => (nb_mem k hx).1.1]
 show upZ b s (-n * d.lim.getD s 0) j + n * ((nbL d.be s).count (j : Int) : Nat) = (if j = s then b j - n * d.lim.getD j 0 else b j) + n * ((nbL d.be s).count (j : Int) : Nat)
 unfold upZ
 split
 ·rename_i e; subst e; rw [Int.neg_mul]; omega
 ·rfl
theorem hC_at (d : Dr) {a : Nat} (ha : a < 6) : (List.drop (3 + a * 1) (hC d d.be.length)).getD 0 .any = intsAV (nbL d.be a) := by
 simp only [hC, List.take_length]
 rcases (by omega : a = 0 ∨ a = 1 ∨ a = 2 ∨ a = 3 ∨ a = 4 ∨ a = 5) with rfl | rfl | rfl | rfl | rfl | rfl <;> rfl
def upL (d : Dr) (b : Nat → Int) (s : Nat) (n : Int) (i : Nat) : Nat → Int := ((nbL d.be s).take i).foldl (fun b (o : Int) => upZ b o.toNat n) (upZ b s (-n * d.lim.getD s 0))
theorem upL_succ {d : Dr} {b : Nat → Int} {s : Nat} {n : Int} {i : Nat} (hi : i < (nbL d.be s).length) : upL d b s n (i + 1) = upZ (upL d b s n i) ((nbL d.be s).getD i 0).toNat n := by
 have e : (nbL d.be s).take (i + 1) = (nbL d.be s).take i ++ [(nbL d.be s).getD i 0] := by
  rw [List.take_add_one, List.getD_eq_getElem?_getD, List.getElem?_eq_getElem hi]; rfl
 unfold upL
 rw [e, List.foldl_append]; rfl
theorem upL_rng {d : Dr} (k : OkD d) {b : Nat → Int} {s : Nat} {n : Int} (hs : s < d.lim.length) (hb : ∀ j, j < 6 → -1000 ≤ b j ∧ b j ≤ 1000) (hn : 0 ≤ n ∧ n ≤ 1000) (i : Nat) : ∀ j, j < 6 → -7000 ≤ upL d b s n i j ∧ upL d b s n i j ≤ 1000 + 1000 * ((i : Nat) : Int) := fun j hj => by
 unfold upL
 rw [fold_up n _ _ fun x hx => (nb_mem k (List.mem_of_mem_take hx)).1.1]
 have hl := k.l s hs
 have h1 : -6000 ≤ -n * d.lim.getD s 0 ∧ -n * d.lim.getD s 0 ≤ 0 := by
  have a1 : n * d.lim.getD s 0 ≤ 1000 * 6 := Int.mul_le_mul hn.2 hl.2 (by omega) (by decide)
  have a2 : 0 ≤ n * d.lim.getD s 0 := Int.mul_nonneg hn.1 (by omega)
  rw [Int.neg_mul]; omega
 have h2 := hb j hj
 have hc : (((nbL d.be s).take i).count (j : Int)) ≤ i := Nat.le_trans List.count_le_length (by simp; omega)
 have h3 : n * ((((nbL d.be s).take i).count (j : Int) : Nat) : Int) ≤ 1000 * (i : Int) := Int.mul_le_mul hn.2 (by omega) (by omega) (by decide)
 have h4 : 0 ≤ n * ((((nbL d.be s).take i).count (j : Int) : Nat) : Int) := Int.mul_nonneg hn.1 (by omega)
 unfold upZ
 split <;> omega
theorem opened_tri (d : Dr) (b : Nat → Int) (s : Nat) (n : Int) (H : Hp) (k : OkD d) (hs : s < d.lim.length) (hb : ∀ j, j < 6 → -1000 ≤ b j ∧ b j ≤ 1000) (hn : 0 ≤ n ∧ n ≤ 1000) : PTri Tryz.prog (fnA 67) [hP d, blAV b, i64 s, i64 n] H (blAV (d.dv.fire b s n)) := by
 have n6 := k.n6
 have hl := k.l s hs
 have hci := hC_at d (a := s) (by omega)
 have hbs := hb s (by omega)
 have hmul : -6000 ≤ -n * d.lim.getD s 0 ∧ -n * d.lim.getD s 0 ≤ 0 := by
  have a1 : n * d.lim.getD s 0 ≤ 1000 * 6 := Int.mul_le_mul hn.2 hl.2 (by omega) (by decide)
  have a2 : 0 ≤ n * d.lim.getD s 0 := Int.mul_nonneg hn.1 (by omega)
  rw [Int.neg_mul]; omega
 have nl := nb_len k s d.be.length
 rw [List.take_length] at nl
 refine Tri.drop ?_
 refine tri_v0 (mset [5, 8]) Tryz.func67 (by kernel_rfl) rfl (by simp only [List.length_append, List.length_cons, List.length_nil, Tryz.ntmps67]; decide) ?_
 skip
 simp only [vsAll, opA, allocA, boxMutA, dstOk, nilSliceOp, argFr, Nat.reduceLT, Nat.reduceBEq, eq_self, wtAll, Tryz.ntmps67]
 intro i5 hh_i5; (try simp only [Hp.set_none, ite_none] at hh_i5); intro i8 hh_i8; (try simp only [ite_none] at hh_i8)
 refine vs_draw2 [0, 0, 0, 0, 0, 0, 0, 0, 0, 0, 0, 0, 0, 0, 1, 3] [([0, 1, 2, 3, 4, 5, 6, 7, 8, 9, 10, 11, 12, 13], [], 14), ([], [], 15)] [] (by decide +kernel) ?_
 simp only [vsAll, binA, binLitA, intA, unA, loadA, loadRow, partA, partOk, fieldAddrA, indexAddrA, nilCheckA, okAll, stAll, opsA, opA, dstOk, argFr, Nat.reduceLT, Nat.reduceEqDiff, ↓reduceIte, reduceCtorEq, eq_self, wtAll, hh_i8, intF_at]
 refine ⟨by simp only [InR_i64]; ((try clear hci hh_i5 hh_i8); omega), ⟨by ((try clear hci hh_i5 hh_i8); omega), by ((try clear hci hh_i5 hh_i8); omega)⟩, hs, by simp only [InR_i64]; ((try clear hci hh_i5 hh_i8); omega), callK_pure (with_tri b s (-n * d.lim.getD s 0) _ (by ((try clear hci hh_i5 hh_i8); omega)) (by rw [Int.toNat_natCast]; ((try clear hci hh_i5 hh_i8); omega)) (by ((try clear hci hh_i5 hh_i8); omega))) ?_⟩
 rw [Int.toNat_natCast]
 simp only [vsAll, loadA, loadRow, partA, partOk, fieldAddrA, indexAddrA, lenA, nilCheckA, opA, storeObj, dstOk, argFr, Nat.reduceMul, Nat.reduceLT, Nat.reduceEqDiff, ↓reduceIte, reduceCtorEq, eq_self, wtAll, hci, hh_i8]
 refine ⟨fun q _ => ⟨rfl, trivial⟩, ⟨by ((try clear hci hh_i5 hh_i8); omega), by ((try clear hci hh_i5 hh_i8); omega)⟩, by ((try clear hci hh_i5 hh_i8); omega), ?_⟩
 have e0 : upL d b s n 0 = upZ b s (-n * d.lim.getD s 0) := rfl
 refine vs_loop (σ := Nat) (fun i => i ≤ (nbL d.be s).length) (fun i => [(3, i64 n), (5, .ref i5 0 1 0 0), (8, .ref i8 0 1 0 0), (9, fnA 61), (32, intsAV (nbL d.be s)), (33, i64 (nbL d.be s).length), (34, i64 i)])
  (fun i => (H.set i5 (.box 1 6 (blF (upL d b s n i)))).set i8 (.box 1 6 fun _ => [i64 0])) (fun i => (nbL d.be s).length - i) 0 (Nat.zero_le _) ?_ ?_ fun i hi => ?_
 ·simp only [vsAll, argFr, Nat.reduceEqDiff, ↓reduceIte, eq_self, Int.natCast_zero]
 ·rw [e0]
  (refine HSub_eqn fun jj => ?_; refine (Classical.em (jj = i8)).elim (fun E0 => by rw [E0]; first | (left; simp only [vsAll, ↓reduceIte, reduceCtorEq, eq_self]; done) | (right; simp only [vsAll, ↓reduceIte, eq_self, hh_i8]; done)) (fun E0 => ?_); refine (Classical.em (jj = i5)).elim (fun E1 => by rw [E1]; first | (left; simp only [vsAll, ↓reduceIte, reduceCtorEq, eq_self, hh_i8]; done) | (right; simp only [vsAll, ↓reduceIte, eq_self, hh_i8]; done)) (fun E1 => ?_); right; simp only [vsAll, ↓reduceIte, eq_self, E0, E1])
 ·simp only [vsAll, binA, binLitA, intA, opA, dstOk, Nat.reduceLT, Nat.reduceEqDiff, ↓reduceIte, eq_self]
  refine condD (fun hd => ?_) (fun hd => ?_)
  ·have hil : i < (nbL d.be s).length := by ((try clear hci hh_i5 hh_i8); omega)
   have hm := (nb_mem k (i := s) (show (nbL d.be s).getD i 0 ∈ nbL d.be s by rw [List.getD_eq_getElem?_getD, List.getElem?_eq_getElem hil]; exact List.getElem_mem hil)).1
   have hr := upL_rng k hs hb hn i
   have eu := upL_succ (b := b) (n := n) hil
   simp only [vsAll, loadA, loadRow, partA, partOk, indexAddrA, okAll, stAll, opsA, opA, dstOk, nilSliceOp, Nat.reduceLT, Nat.reduceEqDiff, Nat.reduceBEq, ↓reduceIte, eq_self, wtAll, hh_i8, intF_at]
   generalize (nbL d.be s).getD i 0 = o at *
   have hro := hr o.toNat (by ((try clear hci hh_i5 hh_i8); omega))
   refine ⟨⟨by ((try clear hci hh_i5 hh_i8); omega), by ((try clear hci hh_i5 hh_i8); omega)⟩, hil, callK_pure (with_tri _ o n _ (by ((try clear hci hh_i5 hh_i8); omega)) (by ((try clear hci hh_i5 hh_i8); omega)) (by ((try clear hci hh_i5 hh_i8); omega))) ?_⟩
   rw [← eu]
   simp only [vsAll, binA, binLitA, intA, opA, storeObj, dstOk, Nat.reduceMul, Nat.reduceLT, Nat.reduceEqDiff, ↓reduceIte, eq_self, wtAll, hh_i8]
   refine ⟨fun q _ => ⟨rfl, trivial⟩, by simp only [InR_i64]; ((try clear hci hh_i5 hh_i8); omega), loop_next (i + 1) hil (by ((try clear hci hh_i5 hh_i8); omega)) ?_ ?_⟩
   ·simp only [vsAll, Nat.reduceEqDiff, ↓reduceIte, eq_self, Int.natCast_add, Int.natCast_one]
   ·(refine HSub_eqn fun jj => ?_; refine (Classical.em (jj = i8)).elim (fun E0 => by rw [E0]; first | (left; simp only [vsAll, ↓reduceIte, reduceCtorEq, eq_self]; done) | (right; simp only [vsAll, ↓reduceIte, eq_self, hh_i8]; done)) (fun E0 => ?_); refine (Classical.em (jj = i5)).elim (fun E1 => by rw [E1]; first | (left; simp only [vsAll, ↓reduceIte, reduceCtorEq, eq_self, hh_i8]; done) | (right; simp only [vsAll, ↓reduceIte, eq_self, hh_i8]; done)) (fun E1 => ?_); right; simp only [vsAll, ↓reduceIte, eq_self, E0, E1])
  ·have ei : i = (nbL d.be s).length := by ((try clear hci hh_i5 hh_i8); omega)
   have ef : upL d b s n (nbL d.be s).length = d.dv.fire b s n := by rw [← fire_eq k]; unfold upL; rw [List.take_length]
   subst ei
   rw [ef]
   simp only [vsAll, loadA, loadRow, opA, storeObj, dstOk, resA, retA.eq_1, Nat.reduceMul, Nat.reduceLT, Nat.reduceEqDiff, ↓reduceIte, eq_self, wtAll, Tryz.results67, hh_i8]
   refine ⟨fun q _ => ⟨rfl, trivial⟩, ?_⟩
   exact dropR_pure rfl (by (repeat (first | exact HSub_rfl | refine HSub_put_eq (by simp only [vsAll, binA, binLitA, intA, aggA, aggV, boolA, nilA2, isConst, unA, loadA, loadRow, partA, partOk, fieldAddrA, indexAddrA, indexA, fieldA, extractA, lenA, nilCheckA, boxA, boxZ, cellA, cellsA, fillA, okParts, buildSliceA, buildMutA, makeSliceA, partIdx, elemsA, lensA, ifaceA, convA, mmA, pickA, okAll, stAll, opsA, partsA, partsOk, opA, allocA, boxMutA, newCells, okCells, storeObj, appendA, guardV, taA, nM, mapUpA, rangeA, nextA, entryA, lookA, sliceA, sliceM, sliceS, boundsA, opO, okO, copyA, dstOk, nilA, quietOk, nilSliceOp, deferV, panA, resA, argFr, retA.eq_1, retA.eq_2, Nat.reduceAdd, Nat.reduceSub, Nat.reduceMul, Nat.reduceLT, Nat.reduceLeDiff, Nat.reduceEqDiff, Nat.reduceBEq, Int.reduceAdd, Int.reduceSub, Int.reduceMul, Int.reduceNeg, Int.reduceLE, Int.reduceLT, Int.reduceEq, Int.reduceNe, Int.reduceToNat, ↓reduceIte, reduceCtorEq, implies_true, forall_const, eq_self, ne_eq, wtAll, Tryz.ntmps67, Tryz.results67, hci, hh_i5, hh_i8]) ?_ | refine HSub_drop2 (by simp only [eq_self, hh_i5, hh_i8]) ?_ | refine HSub_keep_eq (by simp only [vsAll, binA, binLitA, intA, aggA, aggV, boolA, nilA2, isConst, unA, loadA, loadRow, partA, partOk, fieldAddrA, indexAddrA, indexA, fieldA, extractA, lenA, nilCheckA, boxA, boxZ, cellA, cellsA, fillA, okParts, buildSliceA, buildMutA, makeSliceA, partIdx, elemsA, lensA, ifaceA, convA, mmA, pickA, okAll, stAll, opsA, partsA, partsOk, opA, allocA, boxMutA, newCells, okCells, storeObj, appendA, guardV, taA, nM, mapUpA, rangeA, nextA, entryA, lookA, sliceA, sliceM, sliceS, boundsA, opO, okO, copyA, dstOk, nilA, quietOk, nilSliceOp, deferV, panA, resA, argFr, retA.eq_1, retA.eq_2, Nat.reduceAdd, Nat.reduceSub, Nat.reduceMul, Nat.reduceLT, Nat.reduceLeDiff, Nat.reduceEqDiff, Nat.reduceBEq, Int.reduceAdd, Int.reduceSub, Int.reduceMul, Int.reduceNeg, Int.reduceLE, Int.reduceLT, Int.reduceEq, Int.reduceNe, Int.reduceToNat, ↓reduceIte, reduceCtorEq, implies_true, forall_const, eq_self, ne_eq, wtAll, Tryz.ntmps67, Tryz.results67, hci, hh_i5, hh_i8]) ?_)))
end Go.Proofs.YtclkjifgipcamaaGreat
end
section
set_option linter.unusedVariables false
set_option linter.unusedSimpArgs false
namespace Go.Proofs.YtclkjifgipcamaaGreat
open Go.V
theorem Dv.Run.res_nn {d : Dv} (ok : d.Ok) {b u : Nat → Int} (hb : ∀ j, j < d.n → 0 ≤ b j) (h : d.Run b u) : ∀ j, j < d.n → 0 ≤ d.res b u j := by
 induction h with
 | start => rw [Dv.res_zero]; exact hb
 | @step u i h hi hl ih =>
   rw [Dv.res_up d b u hi]
   exact Dv.fire_nonneg ok (by decide) ih (by omega)
theorem smZ_upZ (u : Nat → Int) {i n : Nat} (hi : i < n) (k : Int) : smZ (upZ u i k) n = smZ u n + k := by
 have e : smZ (upZ u i k) n = smZ (fun j => u j + (if j = i then (fun _ => k) j else 0)) n := smZ_congr n fun j _ => by
  unfold upZ
  by_cases h : j = i
  ·rw [if_pos h, if_pos h]
  ·rw [if_neg h, if_neg h, Int.add_zero]
 rw [e, smZ_add, smZ_one (fun _ => k), if_pos hi]
theorem Dv.Run.tot_le {d : Dv} (ok : d.Ok) {b u : Nat → Int} (h : d.Run b u) : d.tot (d.res b u) + smZ u d.n ≤ d.tot b := by
 induction h with
 | start =>
   rw [Dv.res_zero]
   have : smZ (fun _ => (0 : Int)) d.n = 0 := Int.le_antisymm (by
    have := smZ_le (f := fun _ => (0 : Int)) (g := fun _ => 0) d.n fun _ _ => Int.le_refl _
    induction d.n with
    | zero => exact Int.le_refl _
    | succ n ih => simp only [smZ] at *; omega) (smZ_nonneg d.n fun _ _ => Int.le_refl _)
   omega
 | @step u i h hi hl ih =>
   rw [Dv.res_up d b u hi, smZ_upZ u hi]
   have := Dv.fire_tot ok (d.res b u) hi (k := 1) (by decide)
   omega
theorem smZ_one_le {f : Nat → Int} {n : Nat} (h : ∀ i, i < n → 0 ≤ f i) {j : Nat} (hj : j < n) : f j ≤ smZ f n := by
 have h1 := smZ_one f j n
 rw [if_pos hj] at h1
 rw [← h1]
 refine smZ_le n fun i hi => ?_
 split
 ·exact Int.le_refl _
 ·exact h i hi
theorem Dv.Run.bounds {d : Dv} (ok : d.Ok) {b u : Nat → Int} (hb : ∀ j, j < d.n → 0 ≤ b j) (h : d.Run b u) : (∀ j, j < d.n → 0 ≤ d.res b u j ∧ d.res b u j ≤ d.tot b) ∧ (∀ j, 0 ≤ u j ∧ u j ≤ d.tot b) ∧ 0 ≤ d.tot (d.res b u) ∧ d.tot (d.res b u) ≤ d.tot b := by
 have h1 := h.res_nn ok hb
 have h2 := h.tot_le ok
 have h3 := h.nonneg
 have h4 : 0 ≤ smZ u d.n := smZ_nonneg d.n fun i _ => h3 i
 have h5 : 0 ≤ d.tot (d.res b u) := smZ_nonneg d.n h1
 refine ⟨fun j hj => ⟨h1 j hj, ?_⟩, fun j => ⟨h3 j, ?_⟩, h5, by omega⟩
 ·have := smZ_one_le h1 hj
  unfold Dv.tot at *
  omega
 ·by_cases hj : j < d.n
  ·have := smZ_one_le (fun i _ => h3 i) hj
   omega
  ·rw [h.out j (by omega)]; omega
theorem tot_bd {d : Dv} {b : Nat → Int} {M : Int} (h : ∀ j, j < d.n → b j ≤ M) : d.tot b ≤ M * d.n := by
 unfold Dv.tot
 have : ∀ n, (∀ j, j < n → b j ≤ M) → smZ b n ≤ M * n := fun n => by
  induction n with
  | zero => intro _; simp [smZ]
  | succ n ih =>
    intro h
    have h1 := ih fun j hj => h j (by omega)
    have h2 := h n (by omega)
    simp only [smZ, Int.natCast_add, Int.natCast_one, Int.mul_add, Int.mul_one]
    omega
 exact this _ h
theorem dv_out {d : Dr} (k : OkD d) {b u : Nat → Int} {j : Nat} (hj : d.lim.length ≤ j) (hu : u j = 0) : d.dv.res b u j = b j := by
 have e : smZ (fun i => u i * d.dv.cnt i j) d.dv.n = 0 := by
  have : smZ (fun i => u i * d.dv.cnt i j) d.dv.n = smZ (fun i => 0 * d.dv.cnt i j) d.dv.n := smZ_congr _ fun i _ => by
   have : d.dv.cnt i j = 0 := by
    show ((nbL d.be i).count (j : Int) : Int) = 0
    rw [List.count_eq_zero.2 fun h => by have := (nb_mem k h).1; omega]; rfl
   rw [this, Int.mul_zero, Int.mul_zero]
  rw [this, smZ_mul, Int.zero_mul]
 unfold Dv.res
 rw [e, hu, Int.zero_mul]
 omega
/-- Blows that a hull can have. -/
structure BlO (d : Dr) (b : Nat → Int) : Prop where
 r : ∀ j, 0 ≤ b j ∧ b j ≤ 53
 z : ∀ j, d.lim.length ≤ j → b j = 0
theorem BlO.bd {d : Dr} {b u : Nat → Int} (k : OkD d) (hb : BlO d b) (h : d.dv.Run b u) : (∀ j, 0 ≤ d.dv.res b u j ∧ d.dv.res b u j ≤ 318) ∧ (∀ j, 0 ≤ u j ∧ u j ≤ 318) ∧ 0 ≤ d.dv.tot (d.dv.res b u) ∧ d.dv.tot (d.dv.res b u) ≤ 318 := by
 obtain ⟨h1, h2, h3, h4⟩ := h.bounds (dv_ok k) fun j _ => (hb.r j).1
 have ht : d.dv.tot b ≤ 53 * d.dv.n := tot_bd fun j _ => (hb.r j).2
 have hn : d.dv.n = d.lim.length := rfl
 have n6 := k.n6
 refine ⟨fun j => ?_, fun j => ?_, h3, by omega⟩
 ·by_cases hj : j < d.lim.length
  ·have := h1 j hj; omega
  ·rw [dv_out k (by omega) (h.out j (by rw [hn]; omega))]
   have := hb.r j; omega
 ·have := h2 j; omega
end Go.Proofs.YtclkjifgipcamaaGreat
end
section
set_option linter.unusedVariables false
set_option linter.unusedSimpArgs false
set_option maxHeartbeats 8000000
set_option maxRecDepth 100000
namespace Go.Proofs.YtclkjifgipcamaaGreat
open Go.V
theorem und69 : Program.underlying Tryz.prog 69 = some (.map 125 68) := by kernel_rfl
theorem mapZ69 : mapZ Tryz.prog 69 = some (.agg #[.int .i64 0, .int .i64 0, .int .i64 0, .int .i64 0, .int .i64 0, .int .i64 0, .int .i64 0, .int .i64 0, .int .i64 0, .int .i64 0, .int .i64 0, .int .i64 0]) := by kernel_rfl
theorem key125 : Maps.Keyed Tryz.prog 125 := Maps.Keyed.of_law (deep_law_laid (by kernel_rfl) (m := 10) (by decide) (by decide +kernel) (by kernel_rfl) (by kernel_rfl))
abbrev stV (b : Nat → Int) : Value := .agg #[.int .i64 (b 0), .int .i64 (b 1), .int .i64 (b 2), .int .i64 (b 3), .int .i64 (b 4), .int .i64 (b 5)]
theorem stK (b : Nat → Int) (h : ∀ j, 0 ≤ b j ∧ b j ≤ 1000) : ∃ l, keyOf Tryz.prog 125 (stV b) = some l := by
 have := keyOf_intsJ (P := Tryz.prog) (k := 125) (d := 5) (n := 6) (by kernel_rfl) (by decide +kernel) (by kernel_rfl) (by kernel_rfl) (l := [b 0, b 1, b 2, b 3, b 4, b 5]) rfl (by kernel_rfl) (by
  intro x hx
  have h0 := h 0; have h1 := h 1; have h2 := h 2; have h3 := h 3; have h4 := h 4; have h5 := h 5
  simp only [List.mem_cons, List.not_mem_nil, or_false] at hx
  exact wf_i64 (by simp only [InR_i64]; omega))
 exact this
theorem settler_tri (d : Dr) (H : Hp) : Tri Tryz.prog (fnA 27) [hP d] H fun r H' => ∃ im, H im = none ∧ r = .ret (.agg [hP d, .map im]) ∧ H' = H.set im (.raw (.map #[] 0)) := by
 refine Tri.drop ?_
 refine tri_v0 (mset []) Tryz.func27 (by kernel_rfl) rfl (by simp only [List.length_append, List.length_cons, List.length_nil, Tryz.ntmps27]; decide) ?_
 simp only [vsAll, loadA, loadRow, partA, partOk, cellA, cellsA, fillA, okParts, partsA, partsOk, opA, allocA, newCells, okCells, storeObj, nM, dstOk, resA, argFr, retA.eq_1, Nat.reduceAdd, Nat.reduceLT, Nat.reduceLeDiff, Nat.reduceEqDiff, ↓reduceIte, reduceCtorEq, eq_self, wtAll, Tryz.ntmps27, Tryz.results27]
 intro i2 hh_i2; (try simp only [Hp.set_none, ite_none] at hh_i2); intro im hh_im; (try simp only [ite_none] at hh_im)
 simp only [vsAll, Nat.reduceLT, ↓reduceIte, eq_self, hh_im]
 have g : ¬ im = i2 ∧ H im = none ∧ H i2 = none := by simp_all
 obtain ⟨g1, g2, g3⟩ := g
 have g1' : ¬ i2 = im := fun e => g1 e.symm
 skip
 exact ⟨H.set im (.raw (.map #[] 0)), by (refine HSub_eqn fun jj => ?_; refine (Classical.em (jj = i2)).elim (fun E0 => by rw [E0]; first | (left; simp only [vsAll, ↓reduceIte, eq_self, hh_i2, hh_im]; done) | (right; simp only [vsAll, binA, binLitA, intA, aggA, aggV, boolA, nilA2, isConst, unA, loadA, loadRow, partA, partOk, fieldAddrA, indexAddrA, indexA, fieldA, extractA, lenA, nilCheckA, boxA, boxZ, cellA, cellsA, fillA, okParts, buildSliceA, buildMutA, makeSliceA, partIdx, elemsA, lensA, ifaceA, convA, mmA, pickA, okAll, stAll, opsA, partsA, partsOk, opA, allocA, boxMutA, newCells, okCells, storeObj, appendA, guardV, taA, nM, mapUpA, rangeA, nextA, entryA, lookA, sliceA, sliceM, sliceS, boundsA, opO, okO, copyA, dstOk, nilA, quietOk, nilSliceOp, deferV, panA, resA, argFr, retA.eq_1, retA.eq_2, Nat.reduceAdd, Nat.reduceSub, Nat.reduceMul, Nat.reduceLT, Nat.reduceLeDiff, Nat.reduceEqDiff, Nat.reduceBEq, Int.reduceAdd, Int.reduceSub, Int.reduceMul, Int.reduceNeg, Int.reduceLE, Int.reduceLT, Int.reduceEq, Int.reduceNe, Int.reduceToNat, ↓reduceIte, reduceCtorEq, implies_true, forall_const, eq_self, ne_eq, wtAll, Tryz.ntmps27, Tryz.results27, hh_i2, hh_im, g1, g2, g3, g1']; done)) (fun E0 => ?_); refine (Classical.em (jj = im)).elim (fun E1 => by rw [E1]; first | (left; simp only [vsAll, ↓reduceIte, reduceCtorEq, eq_self]; done) | (right; simp only [vsAll, ↓reduceIte, eq_self, hh_im]; done)) (fun E1 => ?_); right; simp only [vsAll, ↓reduceIte, eq_self, E0, E1]), im, g2, rfl, rfl⟩
/-- What is left, and how often each seam has opened. -/
abbrev rsC (v u : Nat → Int) : List AV := [i64 (v 0), i64 (v 1), i64 (v 2), i64 (v 3), i64 (v 4), i64 (v 5), i64 (u 0), i64 (u 1), i64 (u 2), i64 (u 3), i64 (u 4), i64 (u 5)]
theorem rsC_at (v u : Nat → Int) {a : Nat} (ha : a < 6) : (List.drop (a * 1) (rsC v u)).getD 0 .any = i64 (v a) := by
 rcases (by omega : a = 0 ∨ a = 1 ∨ a = 2 ∨ a = 3 ∨ a = 4 ∨ a = 5) with rfl | rfl | rfl | rfl | rfl | rfl <;> rfl
theorem rsC_v (v u : Nat → Int) : AV.Le (.arr 6 1 fun r => List.take 1 (List.drop (r * 1) (rsC v u))) (blAV v) := .arr fun a ha => by
 rcases (by omega : a = 0 ∨ a = 1 ∨ a = 2 ∨ a = 3 ∨ a = 4 ∨ a = 5) with rfl | rfl | rfl | rfl | rfl | rfl <;> rfl
theorem rsC_u (v u : Nat → Int) : AV.Le (.arr 6 1 fun r => List.take 1 (List.drop (6 + r * 1) (rsC v u))) (blAV u) := .arr fun a ha => by
 rcases (by omega : a = 0 ∨ a = 1 ∨ a = 2 ∨ a = 3 ∨ a = 4 ∨ a = 5) with rfl | rfl | rfl | rfl | rfl | rfl <;> rfl
abbrev blG (f : Nat → Int) : AV := .agg [i64 (f 0), i64 (f 1), i64 (f 2), i64 (f 3), i64 (f 4), i64 (f 5)]
theorem bl_agg (f : Nat → Int) : AV.Le (blAV f) (blG f) := fun S v h => arrC_rel h
def restR (d : Dr) (b : Nat → Int) (H : Hp) : Res → Hp → Prop := fun r H' => H' = H ∧ ∃ u, d.dv.Run b u ∧ d.dv.Still b u ∧ r = .ret (.agg (rsC (d.dv.res b u) u))
theorem rest_tri (d : Dr) (b : Nat → Int) (im : Nat) (H : Hp) (k : OkD d) (hb : BlO d b) (him : H im = none) : Tri Tryz.prog (fnA 28) [.agg [hP d, .map im], blAV b] (H.set im (.raw (.map #[] 0))) (restR d b H) := by
 have n1 := k.n1
 have n6 := k.n6
 have hdn : d.dv.n = d.lim.length := rfl
 obtain ⟨o, hfo, hst2, hcase⟩ := found_of und69 key125 (stK b fun j => by have := hb.r j; omega) (es := #[]) (fun e he => by simp at he) (by simp)
 have eK : arrL (blF b) 6 = [i64 (b 0), i64 (b 1), i64 (b 2), i64 (b 3), i64 (b 4), i64 (b 5)] := rfl
 have eL : litV (arrL (blF b) 6) = some [.int .i64 (b 0), .int .i64 (b 1), .int .i64 (b 2), .int .i64 (b 3), .int .i64 (b 4), .int .i64 (b 5)] := rfl
 have e6 : (arrL (blF b) 6).length = 6 := rfl
 refine tri_vs (m := mset [4, 5, 7]) Tryz.func28 (by kernel_rfl) rfl (by simp only [List.length_append, List.length_cons, List.length_nil, Tryz.ntmps28]; decide) ?_
 have eL2 : litV [i64 (b 0), i64 (b 1), i64 (b 2), i64 (b 3), i64 (b 4), i64 (b 5)] = some [.int .i64 (b 0), .int .i64 (b 1), .int .i64 (b 2), .int .i64 (b 3), .int .i64 (b 4), .int .i64 (b 5)] := rfl
 skip
 simp only [vsAll, loadA, loadRow, partA, partOk, fieldAddrA, extractA, boxA, boxZ, cellsA, fillA, okParts, partsA, partsOk, opA, allocA, newCells, storeObj, lookA, dstOk, nilSliceOp, argFr, Nat.reduceAdd, Nat.reduceMul, Nat.reduceLT, Nat.reduceEqDiff, Nat.reduceBEq, ↓reduceIte, eq_self, wtAll, Tryz.ntmps28, eK, eL2, mapZ69]
 intro i4 hh_i4; (try simp only [ite_none] at hh_i4)
 have g : ¬ i4 = im ∧ H i4 = none := by simp_all
 obtain ⟨c1, c2⟩ := g
 have c1' : ¬ im = i4 := fun e => c1 e.symm
 skip
 simp only [↓reduceIte, hh_i4]
 refine ⟨o, hfo _, ?_⟩
 rcases hcase with ⟨rfl, hno⟩ | ⟨j, e, _, hj, _⟩
 rotate_left
 ·simp at hj
 simp only [vsAll, loadA, loadRow, cellA, cellsA, fillA, okParts, partsA, partsOk, opA, allocA, newCells, okCells, storeObj, dstOk, nilSliceOp, Nat.reduceAdd, Nat.reduceLT, Nat.reduceLeDiff, Nat.reduceEqDiff, Nat.reduceBEq, ↓reduceIte, eq_self, wtAll, eK]
 intro i5 hh_i5; (try simp only [ite_none] at hh_i5); intro i7 hh_i7; (try simp only [ite_none] at hh_i7)
 have g : (¬ i5 = i4 ∧ ¬ i5 = im ∧ H i5 = none) ∧ ¬ i7 = i5 ∧ ¬ i7 = i4 ∧ ¬ i7 = im ∧ H i7 = none := by simp_all
 obtain ⟨⟨p4, pm, p5⟩, q5, q4, qm, q7⟩ := g
 have p4' : ¬ i4 = i5 := fun e => p4 e.symm
 have pm' : ¬ im = i5 := fun e => pm e.symm
 have q5' : ¬ i5 = i7 := fun e => q5 e.symm
 have q4' : ¬ i4 = i7 := fun e => q4 e.symm
 have qm' : ¬ im = i7 := fun e => qm e.symm
 skip
 have hbd := fun u (h : d.dv.Run b u) => hb.bd k h
 have r0 : d.dv.res b (fun _ => 0) = b := Dv.res_zero _ _
 refine vs_loop (σ := (Nat → Int) × Bool) (fun y => d.dv.Run b y.1 ∧ (y.2 = false → d.dv.Still b y.1)) (fun y => [(2, .rptr 1 2 (fun _ => [hP d, .map im]) 0 0), (3, .rptr 6 1 (blF b) 0 0), (4, .ref i4 0 12 0 0), (7, .ref i7 0 12 0 0), (8, boo y.2)])
  (fun y => (((H.set im (.raw (.map #[] 0))).set i4 (.box 12 1 fun _ => rsC (fun _ => 0) (fun _ => 0))).set i7 (.box 12 1 fun _ => rsC (d.dv.res b y.1) y.1))) (fun y => 2 * (d.dv.tot (d.dv.res b y.1)).toNat + (if y.2 = true then 1 else 0)) (fun _ => 0, true) ⟨.start, fun h => by cases h⟩ ?_ ?_ fun y hy => ?_
 ·simp only [vsAll, Nat.reduceEqDiff, ↓reduceIte, eq_self]
 ·rw [r0]
  (refine HSub_eqn fun jj => ?_; refine (Classical.em (jj = i7)).elim (fun E0 => by rw [E0]; first | (left; simp only [vsAll, ↓reduceIte, reduceCtorEq, eq_self]; done) | (right; simp only [vsAll, ↓reduceIte, eq_self]; done)) (fun E0 => ?_); refine (Classical.em (jj = i4)).elim (fun E1 => by rw [E1]; first | (left; simp only [vsAll, ↓reduceIte, reduceCtorEq, eq_self, hh_i7]; done) | (right; simp only [vsAll, ↓reduceIte, eq_self, hh_i5, hh_i7]; done)) (fun E1 => ?_); refine (Classical.em (jj = im)).elim (fun E2 => by rw [E2]; first | (left; simp only [vsAll, ↓reduceIte, reduceCtorEq, eq_self, hh_i4, hh_i7]; done) | (right; simp only [vsAll, ↓reduceIte, eq_self, hh_i4, hh_i5, hh_i7]; done)) (fun E2 => ?_); refine (Classical.em (jj = i5)).elim (fun E3 => by rw [E3]; first | (left; simp only [vsAll, ↓reduceIte, eq_self, hh_i5, hh_i7]; done) | (right; simp only [vsAll, binA, binLitA, intA, aggA, aggV, boolA, nilA2, isConst, unA, loadA, loadRow, partA, partOk, fieldAddrA, indexAddrA, indexA, fieldA, extractA, lenA, nilCheckA, boxA, boxZ, cellA, cellsA, fillA, okParts, buildSliceA, buildMutA, makeSliceA, partIdx, elemsA, lensA, ifaceA, convA, mmA, pickA, okAll, stAll, opsA, partsA, partsOk, opA, allocA, boxMutA, newCells, okCells, storeObj, appendA, guardV, taA, nM, mapUpA, rangeA, nextA, entryA, lookA, sliceA, sliceM, sliceS, boundsA, opO, okO, copyA, dstOk, nilA, quietOk, nilSliceOp, deferV, panA, resA, argFr, retA.eq_1, retA.eq_2, Nat.reduceAdd, Nat.reduceSub, Nat.reduceMul, Nat.reduceLT, Nat.reduceLeDiff, Nat.reduceEqDiff, Nat.reduceBEq, Int.reduceAdd, Int.reduceSub, Int.reduceMul, Int.reduceNeg, Int.reduceLE, Int.reduceLT, Int.reduceEq, Int.reduceNe, Int.reduceToNat, ↓reduceIte, reduceCtorEq, implies_true, forall_const, eq_self, ne_eq, wtAll, Tryz.ntmps28, Tryz.results28, eK, eL2, mapZ69, hh_i4, c1, c2, c1', him, hh_i5, hh_i7, p4, pm, p5, q5, q4, qm, q7, p4', pm', q5', q4', qm']; done)) (fun E3 => ?_); right; simp only [vsAll, ↓reduceIte, eq_self, E0, E1, E2, E3])
 ·obtain ⟨u, ag⟩ := y
  obtain ⟨hr, hst⟩ := hy
  simp only [] at hr hst
  simp only [vsAll, opA, dstOk, Nat.reduceLT, Nat.reduceEqDiff, ↓reduceIte, eq_self]
  refine condV (fun hc => ?_) (fun hc => ?_)
  ·subst hc
   simp only [vsAll, loadA, loadRow, partA, partOk, fieldAddrA, okAll, stAll, opsA, opA, dstOk, nilSliceOp, Nat.reduceLT, Nat.reduceEqDiff, Nat.reduceBEq, ↓reduceIte, eq_self, wtAll]
   refine callK_pure (seams_tri d _) ?_
   simp only [vsAll, opA, dstOk, Nat.reduceLT, eq_self]
   have hb0 := hbd u hr
   refine vs_loop (σ := Nat × (Nat → Int) × Bool) (fun y => y.1 ≤ d.lim.length ∧ d.dv.Run b y.2.1 ∧ (y.2.2 = false → y.2.1 = u ∧ ∀ j, j < y.1 → d.dv.res b u j < d.lim.getD j 0) ∧ (y.2.2 = true → d.dv.tot (d.dv.res b y.2.1) < d.dv.tot (d.dv.res b u)))
    (fun y => [(2, .rptr 1 2 (fun _ => [hP d, .map im]) 0 0), (3, .rptr 6 1 (blF b) 0 0), (4, .ref i4 0 12 0 0), (7, .ref i7 0 12 0 0), (8, boo y.2.2), (26, i64 d.lim.length), (27, i64 y.1)])
    (fun y => (((H.set im (.raw (.map #[] 0))).set i4 (.box 12 1 fun _ => rsC (fun _ => 0) (fun _ => 0))).set i7 (.box 12 1 fun _ => rsC (d.dv.res b y.2.1) y.2.1))) (fun y => d.lim.length - y.1) (0, u, false) ⟨Nat.zero_le _, hr, fun _ => ⟨rfl, fun j hj => absurd hj (Nat.not_lt_zero j)⟩, fun h => by cases h⟩ ?_ HSub_rfl fun y hy => ?_
   ·simp only [vsAll, Nat.reduceEqDiff, ↓reduceIte, eq_self, Int.natCast_zero]
   ·obtain ⟨i, u', ag⟩ := y
    obtain ⟨hi, hr', h1, h2⟩ := hy
    simp only [] at hi hr' h1 h2
    simp only [vsAll, binA, binLitA, intA, opA, dstOk, Nat.reduceLT, Nat.reduceEqDiff, ↓reduceIte, eq_self]
    refine condD (fun hd => ?_) (fun hd => ?_)
    ·have hil : i < d.lim.length := by ((try clear eK eL2 mapZ69 hh_i4 c1 c2 c1' him hh_i5 hh_i7 p4 pm p5 q5 q4 qm q7 p4' pm' q5' q4' qm'); omega)
     have hl := k.l i hil
     have hb1 := hbd u' hr'
     have hvi := hb1.1 i
     have ra := rsC_at (d.dv.res b u') u' (a := i) (by ((try clear eK eL2 mapZ69 hh_i4 c1 c2 c1' him hh_i5 hh_i7 p4 pm p5 q5 q4 qm q7 p4' pm' q5' q4' qm'); omega))
     skip
     simp only [vsAll, opA, dstOk, nilSliceOp, Nat.reduceLT, Nat.reduceEqDiff, Nat.reduceBEq, ↓reduceIte, eq_self]
     refine vs_draw2 [0, 0, 0, 0, 0, 0, 0, 0, 0, 0, 0, 0, 0, 1, 2] [([0, 1, 2, 3, 4, 5, 6, 7, 8, 9, 10, 11, 12], [], 13)] [14] (by decide +kernel) ?_
     simp only [vsAll, binA, binLitA, intA, loadA, loadRow, partA, partOk, fieldAddrA, indexAddrA, nilCheckA, opA, dstOk, Nat.reduceLT, Nat.reduceEqDiff, ↓reduceIte, eq_self, ne_eq, wtAll, ra, intF_at]
     have hdm := Int.mul_ediv_add_emod (d.dv.res b u' i) (d.lim.getD i 0)
     have hmd := Int.emod_nonneg (d.dv.res b u' i) (b := d.lim.getD i 0) (by ((try clear eK eL2 mapZ69 hh_i4 c1 c2 c1' him hh_i5 hh_i7 p4 pm p5 q5 q4 qm q7 p4' pm' q5' q4' qm' ra); omega))
     have hml := Int.emod_lt_of_pos (d.dv.res b u' i) (b := d.lim.getD i 0) (by ((try clear eK eL2 mapZ69 hh_i4 c1 c2 c1' him hh_i5 hh_i7 p4 pm p5 q5 q4 qm q7 p4' pm' q5' q4' qm' ra); omega))
     have hde : (d.dv.res b u' i).tdiv (d.lim.getD i 0) = d.dv.res b u' i / d.lim.getD i 0 := Int.tdiv_eq_ediv_of_nonneg hvi.1
     have hq0 : 0 ≤ d.dv.res b u' i / d.lim.getD i 0 := Int.ediv_nonneg hvi.1 (by ((try clear eK eL2 mapZ69 hh_i4 c1 c2 c1' him hh_i5 hh_i7 p4 pm p5 q5 q4 qm q7 p4' pm' q5' q4' qm' ra); omega))
     have hq1 : d.dv.res b u' i / d.lim.getD i 0 ≤ d.dv.res b u' i := Int.ediv_le_self _ hvi.1
     rw [hde]
     generalize hqe : d.dv.res b u' i / d.lim.getD i 0 = q at *
     obtain ⟨q, rfl⟩ : ∃ z : Nat, q = (z : Int) := ⟨q.toNat, by ((try clear eK eL2 mapZ69 hh_i4 c1 c2 c1' him hh_i5 hh_i7 p4 pm p5 q5 q4 qm q7 p4' pm' q5' q4' qm' ra); omega)⟩
     refine ⟨⟨by ((try clear eK eL2 mapZ69 hh_i4 c1 c2 c1' him hh_i5 hh_i7 p4 pm p5 q5 q4 qm q7 p4' pm' q5' q4' qm' ra); omega), by ((try clear eK eL2 mapZ69 hh_i4 c1 c2 c1' him hh_i5 hh_i7 p4 pm p5 q5 q4 qm q7 p4' pm' q5' q4' qm' ra); omega)⟩, by ((try clear eK eL2 mapZ69 hh_i4 c1 c2 c1' him hh_i5 hh_i7 p4 pm p5 q5 q4 qm q7 p4' pm' q5' q4' qm' ra); omega), ⟨by ((try clear eK eL2 mapZ69 hh_i4 c1 c2 c1' him hh_i5 hh_i7 p4 pm p5 q5 q4 qm q7 p4' pm' q5' q4' qm' ra); omega), by ((try clear eK eL2 mapZ69 hh_i4 c1 c2 c1' him hh_i5 hh_i7 p4 pm p5 q5 q4 qm q7 p4' pm' q5' q4' qm' ra); omega)⟩, hil, ⟨by ((try clear eK eL2 mapZ69 hh_i4 c1 c2 c1' him hh_i5 hh_i7 p4 pm p5 q5 q4 qm q7 p4' pm' q5' q4' qm' ra); omega), by simp only [InR_i64]; ((try clear eK eL2 mapZ69 hh_i4 c1 c2 c1' him hh_i5 hh_i7 p4 pm p5 q5 q4 qm q7 p4' pm' q5' q4' qm' ra); omega)⟩, condD (fun hn => ?_) (fun hn => ?_)⟩
     ·have hmany := Dv.Run.many (dv_ok k) hr' (show i < d.dv.n from hil) q (by
       show (q : Int) * d.lim.getD i 0 ≤ d.dv.res b u' i
       rw [Int.mul_comm]; ((try clear eK eL2 mapZ69 hh_i4 c1 c2 c1' him hh_i5 hh_i7 p4 pm p5 q5 q4 qm q7 p4' pm' q5' q4' qm' ra); omega))
      have htot := Dv.fire_tot (dv_ok k) (d.dv.res b u') (show i < d.dv.n from hil) (k := (q : Int)) (by ((try clear eK eL2 mapZ69 hh_i4 c1 c2 c1' him hh_i5 hh_i7 p4 pm p5 q5 q4 qm q7 p4' pm' q5' q4' qm' ra); omega))
      have hup := Dv.res_up d.dv b u' (show i < d.dv.n from hil) (q : Int)
      rw [← hup] at htot
      have hui := hb1.2.1 i
      refine vs_draw2 [0, 0, 0, 0, 0, 0, 1, 0, 0, 0, 0, 3, 2, 5, 6, 7, 9] [([0, 1, 2, 3, 4, 5, 7, 8, 9, 10], [8], 6), ([12], [], 11), ([], [], 13), ([14], [], 15), ([], [], 16)] [] (by decide +kernel) ?_
      simp only [vsAll, loadA, loadRow, partA, partOk, fieldAddrA, okAll, stAll, opsA, opA, dstOk, Nat.reduceAdd, Nat.reduceMul, Nat.reduceLT, Nat.reduceLeDiff, Nat.reduceEqDiff, ↓reduceIte, eq_self, wtAll]
      refine callK_pure (Tri.args (args' := [hP d, blAV (d.dv.res b u'), i64 i, i64 q]) (ret_leA (opened_tri d (d.dv.res b u') i q _ k hil (fun j _ => by have := hb1.1 j; ((try clear eK eL2 mapZ69 hh_i4 c1 c2 c1' him hh_i5 hh_i7 p4 pm p5 q5 q4 qm q7 p4' pm' q5' q4' qm' ra); omega)) (by ((try clear eK eL2 mapZ69 hh_i4 c1 c2 c1' him hh_i5 hh_i7 p4 pm p5 q5 q4 qm q7 p4' pm' q5' q4' qm' ra); omega))) (bl_agg _)) rfl fun j hj => ?_) ?_
      ·match j, hj with
       | 0, _ => exact .refl _
       | 1, _ => exact rsC_v _ _
       | 2, _ => exact .refl _
       | 3, _ => exact .refl _
      rw [← hup]
      simp only [vsAll, loadA, loadRow, fieldAddrA, okAll, stAll, opsA, opA, dstOk, Nat.reduceAdd, Nat.reduceMul, Nat.reduceLT, Nat.reduceEqDiff, ↓reduceIte, eq_self, wtAll]
      refine callK_pure (Tri.args (args' := [blAV u', i64 i, i64 q]) (ret_leA (with_tri u' i q _ (by ((try clear eK eL2 mapZ69 hh_i4 c1 c2 c1' him hh_i5 hh_i7 p4 pm p5 q5 q4 qm q7 p4' pm' q5' q4' qm' ra); omega)) (by rw [Int.toNat_natCast]; ((try clear eK eL2 mapZ69 hh_i4 c1 c2 c1' him hh_i5 hh_i7 p4 pm p5 q5 q4 qm q7 p4' pm' q5' q4' qm' ra); omega)) (by ((try clear eK eL2 mapZ69 hh_i4 c1 c2 c1' him hh_i5 hh_i7 p4 pm p5 q5 q4 qm q7 p4' pm' q5' q4' qm' ra); omega))) (bl_agg _)) rfl fun j hj => ?_) ?_
      ·match j, hj with
       | 0, _ =>
         refine .arr fun a ha => ?_
         rcases (by ((try clear eK eL2 mapZ69 hh_i4 c1 c2 c1' him hh_i5 hh_i7 p4 pm p5 q5 q4 qm q7 p4' pm' q5' q4' qm' ra); omega) : a = 0 ∨ a = 1 ∨ a = 2 ∨ a = 3 ∨ a = 4 ∨ a = 5) with rfl | rfl | rfl | rfl | rfl | rfl <;> rfl
       | 1, _ => exact .refl _
       | 2, _ => exact .refl _
      rw [Int.toNat_natCast]
      have eA : ∀ f : Nat → Int, arrL (blF f) 6 = [i64 (f 0), i64 (f 1), i64 (f 2), i64 (f 3), i64 (f 4), i64 (f 5)] := fun _ => rfl
      simp only [vsAll, binA, binLitA, intA, fieldAddrA, cellA, opA, newCells, okCells, storeObj, dstOk, nilSliceOp, Nat.reduceAdd, Nat.reduceLT, Nat.reduceLeDiff, Nat.reduceEqDiff, Nat.reduceBEq, ↓reduceIte, eq_self, wtAll]
      refine ⟨by simp only [InR_i64]; ((try clear eK eL2 mapZ69 hh_i4 c1 c2 c1' him hh_i5 hh_i7 p4 pm p5 q5 q4 qm q7 p4' pm' q5' q4' qm' ra); omega), loop_next (i + 1, upZ u' i q, true) ⟨hil, hmany, (fun h => by cases h), fun _ => ?_⟩ (by show d.lim.length - (i + 1) < d.lim.length - i; ((try clear eK eL2 mapZ69 hh_i4 c1 c2 c1' him hh_i5 hh_i7 p4 pm p5 q5 q4 qm q7 p4' pm' q5' q4' qm' ra); omega)) ?_ ?_⟩
      ·show d.dv.tot (d.dv.res b (upZ u' i q)) < d.dv.tot (d.dv.res b u)
       cases ag with
       | false => rw [(h1 rfl).1] at htot; rw [(h1 rfl).1]; ((try clear eK eL2 mapZ69 hh_i4 c1 c2 c1' him hh_i5 hh_i7 p4 pm p5 q5 q4 qm q7 p4' pm' q5' q4' qm' ra); omega)
       | true => have := h2 rfl; ((try clear eK eL2 mapZ69 hh_i4 c1 c2 c1' him hh_i5 hh_i7 p4 pm p5 q5 q4 qm q7 p4' pm' q5' q4' qm' ra); omega)
      ·simp only [vsAll, Nat.reduceEqDiff, ↓reduceIte, eq_self, Int.natCast_add, Int.natCast_one]
      ·(refine HSub_eqn fun jj => ?_; refine (Classical.em (jj = i7)).elim (fun E0 => by rw [E0]; first | (left; simp only [vsAll, ↓reduceIte, reduceCtorEq, eq_self]; done) | (right; simp only [vsAll, ↓reduceIte, eq_self]; done)) (fun E0 => ?_); refine (Classical.em (jj = i4)).elim (fun E1 => by rw [E1]; first | (left; simp only [vsAll, ↓reduceIte, reduceCtorEq, eq_self, hh_i7]; done) | (right; simp only [vsAll, ↓reduceIte, eq_self, hh_i7]; done)) (fun E1 => ?_); refine (Classical.em (jj = im)).elim (fun E2 => by rw [E2]; first | (left; simp only [vsAll, ↓reduceIte, reduceCtorEq, eq_self, hh_i4, hh_i7]; done) | (right; simp only [vsAll, ↓reduceIte, eq_self, hh_i4, hh_i7]; done)) (fun E2 => ?_); right; simp only [vsAll, ↓reduceIte, eq_self, E0, E1, E2])
     ·simp only [vsAll, binA, binLitA, intA, opA, dstOk, Nat.reduceLT, Nat.reduceEqDiff, ↓reduceIte, eq_self]
      have hlt : d.dv.res b u' i < d.lim.getD i 0 := by
       have : q = 0 := by ((try clear eK eL2 mapZ69 hh_i4 c1 c2 c1' him hh_i5 hh_i7 p4 pm p5 q5 q4 qm q7 p4' pm' q5' q4' qm' ra); omega)
       subst this
       simp only [Int.natCast_zero, Int.mul_zero] at hdm
       ((try clear eK eL2 mapZ69 hh_i4 c1 c2 c1' him hh_i5 hh_i7 p4 pm p5 q5 q4 qm q7 p4' pm' q5' q4' qm' ra); omega)
      refine ⟨by simp only [InR_i64]; ((try clear eK eL2 mapZ69 hh_i4 c1 c2 c1' him hh_i5 hh_i7 p4 pm p5 q5 q4 qm q7 p4' pm' q5' q4' qm' ra); omega), loop_next (i + 1, u', ag) ⟨hil, hr', fun h => ⟨(h1 h).1, fun j hj => ?_⟩, h2⟩ (by show d.lim.length - (i + 1) < d.lim.length - i; ((try clear eK eL2 mapZ69 hh_i4 c1 c2 c1' him hh_i5 hh_i7 p4 pm p5 q5 q4 qm q7 p4' pm' q5' q4' qm' ra); omega)) ?_ HSub_rfl⟩
      ·by_cases e : j = i
       ·rw [e, ← (h1 h).1]; exact hlt
       ·exact (h1 h).2 j (by ((try clear eK eL2 mapZ69 hh_i4 c1 c2 c1' him hh_i5 hh_i7 p4 pm p5 q5 q4 qm q7 p4' pm' q5' q4' qm' ra); omega))
      ·simp only [vsAll, Nat.reduceEqDiff, ↓reduceIte, eq_self, Int.natCast_add, Int.natCast_one]
    ·have ei : i = d.lim.length := by ((try clear eK eL2 mapZ69 hh_i4 c1 c2 c1' him hh_i5 hh_i7 p4 pm p5 q5 q4 qm q7 p4' pm' q5' q4' qm'); omega)
     subst ei
     simp only [vsAll, ↓reduceIte, eq_self]
     refine loop_next (u', ag) ⟨hr', fun h => ?_⟩ ?_ (by simp only [vsAll, Nat.reduceEqDiff, ↓reduceIte, eq_self]) HSub_rfl
     ·obtain ⟨e, hl⟩ := h1 h
      rw [e]; exact hl
     ·have hb1 := hbd u' hr'
      cases ag with
      | false =>
        obtain ⟨e, _⟩ := h1 rfl
        rw [e]; simp
      | true =>
        have := h2 rfl
        simp only [if_true]
        ((try clear eK eL2 mapZ69 hh_i4 c1 c2 c1' him hh_i5 hh_i7 p4 pm p5 q5 q4 qm q7 p4' pm' q5' q4' qm'); omega)
  ·subst hc
   simp only [vsAll, loadA, loadRow, partA, partOk, fieldAddrA, cellA, cellsA, fillA, okParts, partsA, partsOk, opA, newCells, okCells, storeObj, mapUpA, dstOk, Nat.reduceAdd, Nat.reduceLT, Nat.reduceEqDiff, ↓reduceIte, eq_self, wtAll, eK, eL2, hh_i4, hh_i7]
   refine ⟨none, ⟨hfo _, hst2, fun i v e => by cases e⟩, ?_⟩
   refine ret0 ?_
   simp only [vsAll, loadA, loadRow, partA, partOk, resA, retA.eq_1, Nat.reduceLT, Nat.reduceEqDiff, ↓reduceIte, eq_self, wtAll, Tryz.results28]
   exact ⟨H, by (refine HSub_eqn fun jj => ?_; refine (Classical.em (jj = i7)).elim (fun E0 => by rw [E0]; first | (left; simp only [eq_self, hh_i7]; done) | (right; simp only [vsAll, binA, binLitA, intA, aggA, aggV, boolA, nilA2, isConst, unA, loadA, loadRow, partA, partOk, fieldAddrA, indexAddrA, indexA, fieldA, extractA, lenA, nilCheckA, boxA, boxZ, cellA, cellsA, fillA, okParts, buildSliceA, buildMutA, makeSliceA, partIdx, elemsA, lensA, ifaceA, convA, mmA, pickA, okAll, stAll, opsA, partsA, partsOk, opA, allocA, boxMutA, newCells, okCells, storeObj, appendA, guardV, taA, nM, mapUpA, rangeA, nextA, entryA, lookA, sliceA, sliceM, sliceS, boundsA, opO, okO, copyA, dstOk, nilA, quietOk, nilSliceOp, deferV, panA, resA, argFr, retA.eq_1, retA.eq_2, Nat.reduceAdd, Nat.reduceSub, Nat.reduceMul, Nat.reduceLT, Nat.reduceLeDiff, Nat.reduceEqDiff, Nat.reduceBEq, Int.reduceAdd, Int.reduceSub, Int.reduceMul, Int.reduceNeg, Int.reduceLE, Int.reduceLT, Int.reduceEq, Int.reduceNe, Int.reduceToNat, ↓reduceIte, reduceCtorEq, implies_true, forall_const, eq_self, ne_eq, wtAll, Tryz.ntmps28, Tryz.results28, eK, eL2, mapZ69, hh_i4, c1, c2, c1', him, hh_i5, hh_i7, p4, pm, p5, q5, q4, qm, q7, p4', pm', q5', q4', qm']; done)) (fun E0 => ?_); refine (Classical.em (jj = i4)).elim (fun E1 => by rw [E1]; first | (left; simp only [eq_self, hh_i4]; done) | (right; simp only [vsAll, binA, binLitA, intA, aggA, aggV, boolA, nilA2, isConst, unA, loadA, loadRow, partA, partOk, fieldAddrA, indexAddrA, indexA, fieldA, extractA, lenA, nilCheckA, boxA, boxZ, cellA, cellsA, fillA, okParts, buildSliceA, buildMutA, makeSliceA, partIdx, elemsA, lensA, ifaceA, convA, mmA, pickA, okAll, stAll, opsA, partsA, partsOk, opA, allocA, boxMutA, newCells, okCells, storeObj, appendA, guardV, taA, nM, mapUpA, rangeA, nextA, entryA, lookA, sliceA, sliceM, sliceS, boundsA, opO, okO, copyA, dstOk, nilA, quietOk, nilSliceOp, deferV, panA, resA, argFr, retA.eq_1, retA.eq_2, Nat.reduceAdd, Nat.reduceSub, Nat.reduceMul, Nat.reduceLT, Nat.reduceLeDiff, Nat.reduceEqDiff, Nat.reduceBEq, Int.reduceAdd, Int.reduceSub, Int.reduceMul, Int.reduceNeg, Int.reduceLE, Int.reduceLT, Int.reduceEq, Int.reduceNe, Int.reduceToNat, ↓reduceIte, reduceCtorEq, implies_true, forall_const, eq_self, ne_eq, wtAll, Tryz.ntmps28, Tryz.results28, eK, eL2, mapZ69, hh_i4, c1, c2, c1', him, hh_i5, hh_i7, p4, pm, p5, q5, q4, qm, q7, p4', pm', q5', q4', qm']; done)) (fun E1 => ?_); refine (Classical.em (jj = im)).elim (fun E2 => by rw [E2]; first | (left; simp only [eq_self, him]; done) | (right; simp only [vsAll, binA, binLitA, intA, aggA, aggV, boolA, nilA2, isConst, unA, loadA, loadRow, partA, partOk, fieldAddrA, indexAddrA, indexA, fieldA, extractA, lenA, nilCheckA, boxA, boxZ, cellA, cellsA, fillA, okParts, buildSliceA, buildMutA, makeSliceA, partIdx, elemsA, lensA, ifaceA, convA, mmA, pickA, okAll, stAll, opsA, partsA, partsOk, opA, allocA, boxMutA, newCells, okCells, storeObj, appendA, guardV, taA, nM, mapUpA, rangeA, nextA, entryA, lookA, sliceA, sliceM, sliceS, boundsA, opO, okO, copyA, dstOk, nilA, quietOk, nilSliceOp, deferV, panA, resA, argFr, retA.eq_1, retA.eq_2, Nat.reduceAdd, Nat.reduceSub, Nat.reduceMul, Nat.reduceLT, Nat.reduceLeDiff, Nat.reduceEqDiff, Nat.reduceBEq, Int.reduceAdd, Int.reduceSub, Int.reduceMul, Int.reduceNeg, Int.reduceLE, Int.reduceLT, Int.reduceEq, Int.reduceNe, Int.reduceToNat, ↓reduceIte, reduceCtorEq, implies_true, forall_const, eq_self, ne_eq, wtAll, Tryz.ntmps28, Tryz.results28, eK, eL2, mapZ69, hh_i4, c1, c2, c1', him, hh_i5, hh_i7, p4, pm, p5, q5, q4, qm, q7, p4', pm', q5', q4', qm']; done)) (fun E2 => ?_); refine (Classical.em (jj = i5)).elim (fun E3 => by rw [E3]; first | (left; simp only [eq_self, hh_i5]; done) | (right; simp only [vsAll, binA, binLitA, intA, aggA, aggV, boolA, nilA2, isConst, unA, loadA, loadRow, partA, partOk, fieldAddrA, indexAddrA, indexA, fieldA, extractA, lenA, nilCheckA, boxA, boxZ, cellA, cellsA, fillA, okParts, buildSliceA, buildMutA, makeSliceA, partIdx, elemsA, lensA, ifaceA, convA, mmA, pickA, okAll, stAll, opsA, partsA, partsOk, opA, allocA, boxMutA, newCells, okCells, storeObj, appendA, guardV, taA, nM, mapUpA, rangeA, nextA, entryA, lookA, sliceA, sliceM, sliceS, boundsA, opO, okO, copyA, dstOk, nilA, quietOk, nilSliceOp, deferV, panA, resA, argFr, retA.eq_1, retA.eq_2, Nat.reduceAdd, Nat.reduceSub, Nat.reduceMul, Nat.reduceLT, Nat.reduceLeDiff, Nat.reduceEqDiff, Nat.reduceBEq, Int.reduceAdd, Int.reduceSub, Int.reduceMul, Int.reduceNeg, Int.reduceLE, Int.reduceLT, Int.reduceEq, Int.reduceNe, Int.reduceToNat, ↓reduceIte, reduceCtorEq, implies_true, forall_const, eq_self, ne_eq, wtAll, Tryz.ntmps28, Tryz.results28, eK, eL2, mapZ69, hh_i4, c1, c2, c1', him, hh_i5, hh_i7, p4, pm, p5, q5, q4, qm, q7, p4', pm', q5', q4', qm']; done)) (fun E3 => ?_); right; simp only [vsAll, ↓reduceIte, eq_self, E0, E1, E2]), rfl, u, hr, hst rfl, rfl⟩
end Go.Proofs.YtclkjifgipcamaaGreat
end
section
set_option linter.unusedVariables false
set_option linter.unusedSimpArgs false
set_option maxHeartbeats 8000000
set_option maxRecDepth 100000
namespace Go.Proofs.YtclkjifgipcamaaGreat
open Go.V
theorem set_delO {H : Hp} {id : Nat} {o : Go.V.Obj} (h : H id = none) : (H.set id o).del id = H := by
 rw [Hp.del_set, Hp.del_none _ _ h]
theorem cloneF_tri (l : List Int) (H : Hp) (hl : l.length < 2 ^ 40) : PTri Tryz.prog (fnA 30) [intsAV l] H (intsAV l) := by
 refine Tri.thawD (clone_tri l H hl) ?_
 rintro r H' ⟨id, hid, rfl, rfl⟩
 right
 exact ⟨_, intsAV l, id, 1, l.length, intF l, rfl, Hp.set_same _ _ _, .hit fun _ _ => rfl, rfl, set_delO hid⟩
def lst (v : Nat → Int) (n : Nat) : List Int := (List.range n).map v
theorem lst_len (v : Nat → Int) (n : Nat) : (lst v n).length = n := by simp [lst]
theorem lst_at (v : Nat → Int) {n i : Nat} (hi : i < n) : (lst v n).getD i 0 = v i := by simp [lst, List.getD_eq_getElem?_getD, hi]
def bOf (l : List Int) : Nat → Int := fun i => l.getD i 0
theorem bOf_o {d : Dr} {l : List Int} (hl : l.length = d.lim.length) (hb : ∀ i, i < l.length → 0 ≤ l.getD i 0 ∧ l.getD i 0 ≤ 52) : BlO d (bOf l) := by
 refine ⟨fun j => ?_, fun j hj => ?_⟩
 ·by_cases h : j < l.length
  ·have := hb j h; exact ⟨this.1, by show l.getD j 0 ≤ 53; omega⟩
  ·show 0 ≤ l.getD j 0 ∧ l.getD j 0 ≤ 53
   rw [List.getD_eq_getElem?_getD, List.getElem?_eq_none (by omega)]
   exact ⟨Int.le_refl _, by decide⟩
 ·show l.getD j 0 = 0
  rw [List.getD_eq_getElem?_getD, List.getElem?_eq_none (by omega)]; rfl
theorem rs_v (v u : Nat → Int) {n : Nat} (hn : n ≤ 6) : AV.Le (.rsl n 1 fun q => [(rsC v u).getD q .any]) (intsAV (lst v n)) := by
 have e : intsAV (lst v n) = .rsl n 1 (intF (lst v n)) := by show AV.rsl (lst v n).length 1 _ = _; rw [lst_len]
 rw [e]
 refine .rsl fun q hq => ?_
 show [(rsC v u).getD q .any] = [i64 ((lst v n).getD q 0)]
 rw [lst_at v hq]
 rcases (by omega : q = 0 ∨ q = 1 ∨ q = 2 ∨ q = 3 ∨ q = 4 ∨ q = 5) with rfl | rfl | rfl | rfl | rfl | rfl <;> rfl
theorem rs_u (v u : Nat → Int) {n : Nat} (hn : n ≤ 6) : AV.Le (.rsl n 1 fun q => [(rsC v u).getD (6 + q) .any]) (intsAV (lst u n)) := by
 have e : intsAV (lst u n) = .rsl n 1 (intF (lst u n)) := by show AV.rsl (lst u n).length 1 _ = _; rw [lst_len]
 rw [e]
 refine .rsl fun q hq => ?_
 show [(rsC v u).getD (6 + q) .any] = [i64 ((lst u n).getD q 0)]
 rw [lst_at u hq]
 rcases (by omega : q = 0 ∨ q = 1 ∨ q = 2 ∨ q = 3 ∨ q = 4 ∨ q = 5) with rfl | rfl | rfl | rfl | rfl | rfl <;> rfl
theorem open_call {d : Dr} {v : Bool} {H : Hp} {K : AV → Hp → Prop} {Kp : AV → Hp → Prop} (k : OkD d) (h1 : v = true → K (hP d) H) (h2 : v = false → Kp (refD 2) H) : CallK Tryz.prog (fnA 25) [d.av, boo v] H K Kp := by
 refine ⟨_, open_tri d v H k, ?_⟩
 rintro r H' ⟨rfl, rfl⟩
 cases v
 ·exact h2 rfl
 ·exact h1 rfl
def settleR (d : Dr) (l : List Int) (H : Hp) : Res → Hp → Prop := fun r H' => H' = H ∧ ∃ u, d.dv.Run (bOf l) u ∧ d.dv.Still (bOf l) u ∧ r = .ret (.tuple [intsAV (lst (d.dv.res (bOf l) u) d.lim.length), intsAV (lst u d.lim.length), i64 0])
theorem settle_tri (d : Dr) (l : List Int) (H : Hp) (k : OkD d) (hl : l.length = d.lim.length) (hb : ∀ i, i < l.length → 0 ≤ l.getD i 0 ∧ l.getD i 0 ≤ 52) : Tri Tryz.prog (fnA 8) [d.av, intsAV l] H (settleR d l H) := by
 have n1 := k.n1
 have n6 := k.n6
 refine Tri.drop ?_
 refine tri_wam ans23 Tryz.func8 (by kernel_rfl) rfl (by simp only [List.length_append, List.length_cons, List.length_nil, Tryz.ntmps8]; decide) ?_
 refine wps_cutG4 (m := mset [6, 8]) (σ := Nat × (Nat → Int)) (fun y => H y.1 = none ∧ d.dv.Run (bOf l) y.2 ∧ d.dv.Still (bOf l) y.2)
  (fun y => [(6, .ref y.1 0 1 0 0), (7, hP d), (8, .rptr 1 12 (fun _ => rsC (d.dv.res (bOf l) y.2) y.2) 0 0)])
  (fun y => H.set y.1 (.box 1 1 fun _ => [i64 0])) (fun y => [.call 23 [.ref y.1 0 1 0 0]]) ?_ fun y hy => ?_
 ·simp only [vsAll, boxA, boxZ, okAll, stAll, opsA, opA, allocA, dstOk, nilSliceOp, deferV, argFr, Nat.reduceAdd, Nat.reduceLT, Nat.reduceBEq, ↓reduceIte, eq_self, wtAll, Tryz.ntmps8]
  intro i6 hh_i6; (try simp only [Hp.set_none, ite_none] at hh_i6)
  refine vs_draw2 [0, 0, 0, 0, 1, 2] [([0, 1, 2, 3], [], 4)] [5] (by decide +kernel) ?_
  simp only [vsAll, loadA, loadRow, partA, partOk, opA, dstOk, argFr, Nat.reduceLT, Nat.reduceEqDiff, ↓reduceIte, eq_self, wtAll]
  refine qcall _ ⟨trivial, by simp only [vsAll, okAll, opsA, opA, Nat.reduceEqDiff, ↓reduceIte, eq_self], areBlows_tri d l _ hl n6 hb⟩ ?_
  simp only [vsAll, okAll, stAll, opsA, opA, dstOk, Nat.reduceLT, Nat.reduceEqDiff, ↓reduceIte, eq_self]
  refine open_call k (fun _ => ?_) (fun hv => by cases hv)
  simp only [vsAll, okAll, stAll, opsA, opA, dstOk, Nat.reduceLT, ↓reduceIte, eq_self]
  refine callK (settler_tri d _) ?_
  rintro r H' ⟨im, him, rfl, rfl⟩
  simp only [vsAll, okAll, stAll, opsA, opA, dstOk, argFr, Nat.reduceLT, Nat.reduceEqDiff, ↓reduceIte, eq_self]
  refine callK_pure (blowsOf_tri l _ (by ((try clear hh_i6); omega))) ?_
  simp only [vsAll, okAll, stAll, opsA, opA, dstOk, Nat.reduceLT, Nat.reduceEqDiff, ↓reduceIte, eq_self]
  refine callK (rest_tri d (bOf l) im _ k (bOf_o hl hb) him) ?_
  rintro r H' ⟨rfl, u, hr, hst, rfl⟩
  simp only [vsAll, cellA, opA, allocA, newCells, okCells, storeObj, dstOk, Nat.reduceAdd, Nat.reduceLT, Nat.reduceEqDiff, ↓reduceIte, eq_self, wtAll]
  intro i8 hh_i8; (try simp only [ite_none] at hh_i8)
  have g : ¬ i8 = i6 ∧ H i6 = none ∧ H i8 = none := by simp_all
  obtain ⟨g1, g2, g3⟩ := g
  have g1' : ¬ i6 = i8 := fun e => g1 e.symm
  skip
  refine cutG_ent (Ent.of [(6, .ref i6 0 1 0 0), (7, hP d), (8, .ref i8 0 12 0 0)] (by simp only [vsAll, Nat.reduceEqDiff, ↓reduceIte, eq_self]) (H' := (H.set i6 (.box 1 1 fun _ => [i64 0])).set i8 (.box 12 1 fun _ => rsC (d.dv.res (bOf l) u) u)) (by (refine HSub_eqn fun jj => ?_; refine (Classical.em (jj = i8)).elim (fun E0 => by rw [E0]; first | (left; simp only [vsAll, ↓reduceIte, reduceCtorEq, eq_self]; done) | (right; simp only [vsAll, ↓reduceIte, eq_self]; done)) (fun E0 => ?_); refine (Classical.em (jj = i6)).elim (fun E1 => by rw [E1]; first | (left; simp only [vsAll, ↓reduceIte, reduceCtorEq, eq_self, hh_i8]; done) | (right; simp only [vsAll, ↓reduceIte, eq_self, hh_i8]; done)) (fun E1 => ?_); right; simp only [vsAll, ↓reduceIte, eq_self, E0, E1])) ?_)
  refine cutG_ent (Ent.freezeB (id := i8) (st := 12) (n := 1) (f := fun _ => rsC (d.dv.res (bOf l) u) u) (s' := Fr.of [(6, .ref i6 0 1 0 0), (7, hP d), (8, .rptr 1 12 (fun _ => rsC (d.dv.res (bOf l) u) u) 0 0)]) (Hp.set_same _ _ _) (FzB.frz (.same (.same (.hit (FzB.refl _))))) ?_)
  rw [Hp.del_set, Hp.del_none _ _ (by simp only [vsAll, ↓reduceIte, eq_self, hh_i8])]
  exact cutG_of (i6, u) ⟨g2, hr, hst⟩ (by simp only [vsAll, Nat.reduceEqDiff, ↓reduceIte, eq_self]) rfl HSub_rfl
 ·obtain ⟨i6, u⟩ := y
  obtain ⟨h6, hr, hst⟩ := hy
  simp only [] at h6 hr hst
  refine wps_vs (m := mset [6]) ?_
  skip
  simp only [vsAll, fieldAddrA, okAll, stAll, opsA, opA, dstOk, Nat.reduceLT, Nat.reduceEqDiff, ↓reduceIte, eq_self, wtAll, Tryz.ntmps8]
  refine callK_pure (seams_tri d _) ?_
  simp only [vsAll, okAll, stAll, opsA, opA, sliceA, boundsA, opO, okO, dstOk, Nat.reduceLT, Nat.reduceLeDiff, Nat.reduceEqDiff, Nat.reduceBEq, ↓reduceIte, eq_self, wtAll]
  refine ⟨⟨by ((try clear h6); omega), by ((try clear h6); omega)⟩, callK_pure (Tri.args (args' := [intsAV (lst (d.dv.res (bOf l) u) d.lim.length)]) (cloneF_tri _ _ (by rw [lst_len]; ((try clear h6); omega))) rfl fun j hj => ?_) ?_⟩
  ·match j, hj with
   | 0, _ => exact rs_v _ _ n6
  simp only [vsAll, fieldAddrA, okAll, stAll, opsA, opA, dstOk, Nat.reduceLT, Nat.reduceEqDiff, ↓reduceIte, eq_self, wtAll]
  refine callK_pure (seams_tri d _) ?_
  simp only [vsAll, okAll, stAll, opsA, opA, sliceA, boundsA, opO, okO, dstOk, Nat.reduceAdd, Nat.reduceLT, Nat.reduceEqDiff, Nat.reduceBEq, ↓reduceIte, eq_self, wtAll]
  refine ⟨⟨by ((try clear h6); omega), by ((try clear h6); omega)⟩, callK_pure (Tri.args (args' := [intsAV (lst u d.lim.length)]) (cloneF_tri _ _ (by rw [lst_len]; ((try clear h6); omega))) rfl fun j hj => ?_) ?_⟩
  ·match j, hj with
   | 0, _ => exact rs_u _ _ n6
  simp only [vsAll, loadA, loadRow, partA, partOk, cellA, cellsA, opA, newCells, okCells, storeObj, dstOk, nilSliceOp, resA, retA.eq_2, Nat.reduceLT, Nat.reduceEqDiff, Nat.reduceBEq, ↓reduceIte, eq_self, wtAll, Tryz.results8]
  exact ⟨i6, fun _ => [i64 0], rfl, by simp only [↓reduceIte, eq_self], H, by (repeat (first | exact HSub_rfl | refine HSub_put_eq (by simp only [vsAll, binA, binLitA, intA, aggA, aggV, boolA, nilA2, isConst, unA, loadA, loadRow, partA, partOk, fieldAddrA, indexAddrA, indexA, fieldA, extractA, lenA, nilCheckA, boxA, boxZ, cellA, cellsA, fillA, okParts, buildSliceA, buildMutA, makeSliceA, partIdx, elemsA, lensA, ifaceA, convA, mmA, pickA, okAll, stAll, opsA, partsA, partsOk, opA, allocA, boxMutA, newCells, okCells, storeObj, appendA, guardV, taA, nM, mapUpA, rangeA, nextA, entryA, lookA, sliceA, sliceM, sliceS, boundsA, opO, okO, copyA, dstOk, nilA, quietOk, nilSliceOp, deferV, panA, resA, argFr, retA.eq_1, retA.eq_2, Nat.reduceAdd, Nat.reduceSub, Nat.reduceMul, Nat.reduceLT, Nat.reduceLeDiff, Nat.reduceEqDiff, Nat.reduceBEq, Int.reduceAdd, Int.reduceSub, Int.reduceMul, Int.reduceNeg, Int.reduceLE, Int.reduceLT, Int.reduceEq, Int.reduceNe, Int.reduceToNat, ↓reduceIte, reduceCtorEq, implies_true, forall_const, eq_self, ne_eq, wtAll, Tryz.ntmps8, Tryz.results8, h6]) ?_ | refine HSub_drop2 (by simp only [eq_self, h6]) ?_ | refine HSub_keep_eq (by simp only [vsAll, binA, binLitA, intA, aggA, aggV, boolA, nilA2, isConst, unA, loadA, loadRow, partA, partOk, fieldAddrA, indexAddrA, indexA, fieldA, extractA, lenA, nilCheckA, boxA, boxZ, cellA, cellsA, fillA, okParts, buildSliceA, buildMutA, makeSliceA, partIdx, elemsA, lensA, ifaceA, convA, mmA, pickA, okAll, stAll, opsA, partsA, partsOk, opA, allocA, boxMutA, newCells, okCells, storeObj, appendA, guardV, taA, nM, mapUpA, rangeA, nextA, entryA, lookA, sliceA, sliceM, sliceS, boundsA, opO, okO, copyA, dstOk, nilA, quietOk, nilSliceOp, deferV, panA, resA, argFr, retA.eq_1, retA.eq_2, Nat.reduceAdd, Nat.reduceSub, Nat.reduceMul, Nat.reduceLT, Nat.reduceLeDiff, Nat.reduceEqDiff, Nat.reduceBEq, Int.reduceAdd, Int.reduceSub, Int.reduceMul, Int.reduceNeg, Int.reduceLE, Int.reduceLT, Int.reduceEq, Int.reduceNe, Int.reduceToNat, ↓reduceIte, reduceCtorEq, implies_true, forall_const, eq_self, ne_eq, wtAll, Tryz.ntmps8, Tryz.results8, h6]) ?_)), rfl, u, hr, hst, rfl⟩
end Go.Proofs.YtclkjifgipcamaaGreat
end
section
set_option linter.unusedVariables false
set_option linter.unusedSimpArgs false
set_option maxHeartbeats 8000000
set_option maxRecDepth 100000
namespace Go.Proofs.YtclkjifgipcamaaGreat
open Go.V
def opN (u : Nat → Int) : Nat → Nat
 | 0 => 0
 | i + 1 => if 0 < u i then opN u i ||| 2 ^ i else opN u i
theorem opN_lt (u : Nat → Int) : ∀ n, opN u n < 2 ^ n
 | 0 => Nat.one_pos
 | n + 1 => by
   have ih := opN_lt u n
   have e : 2 ^ (n + 1) = 2 ^ n + 2 ^ n := by rw [Nat.pow_succ]; omega
   rw [opN]
   split
   ·refine Nat.or_lt_two_pow (by omega) ?_
    have := Nat.two_pow_pos n
    omega
   ·omega
theorem opN_bit (u : Nat → Int) (n i : Nat) : (opN u n).testBit i = (decide (i < n) && decide (0 < u i)) := by
 induction n with
 | zero => simp [opN]
 | succ n ih =>
   rw [opN]
   by_cases h : 0 < u n
   ·rw [if_pos h, Nat.testBit_or, ih, Nat.testBit_two_pow]
    by_cases e : n = i
    ·subst e; simp [h]
    ·have : (i < n + 1) ↔ (i < n) := by omega
     simp [e, this]
   ·rw [if_neg h, ih]
    by_cases e : n = i
    ·subst e; simp [h]
    ·have : (i < n + 1) ↔ (i < n) := by omega
     simp [this]
theorem shl1 (n : Nat) : (1 : Int) * 2 ^ n = ((2 ^ n : Nat) : Int) := by rw [Int.one_mul]; simp
theorem setOf_tri (n : Nat) (H : Hp) (hn : n < 6) : PTri Tryz.prog (fnA 81) [.rsl 1 1 fun i => [[i64 (n : Int)]].getD i []] H (i64 ((2 ^ n : Nat) : Int)) := by
 have hp : 2 ^ n ≤ 2 ^ 5 := Nat.pow_le_pow_right (by decide) (by omega)
 have ep := shl1 n
 refine tri_v0 (fun _ => false) Tryz.func81 (by kernel_rfl) rfl (by simp only [List.length_append, List.length_cons, List.length_nil, Tryz.ntmps81]; decide) ?_
 simp only [vsAll, lenA, opA, dstOk, nilSliceOp, argFr, Nat.reduceLT, ↓reduceIte, reduceCtorEq, eq_self, wtAll, Tryz.ntmps81]
 refine vs_loop (σ := Nat) (fun i => i ≤ 1) (fun i => [(2, i64 (if i = 0 then 0 else ((2 ^ n : Nat) : Int))), (5, .rsl 1 1 fun i => [[i64 (n : Int)]].getD i []), (6, i64 1), (7, i64 i)]) (fun _ => H) (fun i => 1 - i) 0 (Nat.zero_le _) ?_ HSub_rfl fun i hi => ?_
 ·simp only [vsAll, Nat.reduceEqDiff, ↓reduceIte, eq_self, Int.natCast_zero]
  exact AV.Le.of_eq rfl
 ·simp only [vsAll, binA, binLitA, intA, opA, dstOk, Nat.reduceLT, Nat.reduceEqDiff, ↓reduceIte, eq_self]
  refine condD (fun hd => ?_) (fun hd => ?_)
  ·have e0 : i = 0 := by omega
   subst e0
   simp only [vsAll, binA, binLitA, intA, loadA, loadRow, partA, partOk, indexAddrA, opA, dstOk, nilSliceOp, Nat.reduceLT, Nat.reduceEqDiff, Int.reduceAdd, Int.reduceLE, Int.reduceLT, Int.reduceToNat, ↓reduceIte, eq_self, wtAll, ep, Int.natCast_zero]
   have hz : (0 : Int) ≤ ((2 ^ n : Nat) : Int) := Int.natCast_nonneg _
   refine ⟨by decide, ⟨by omega, by omega, by simp only [InR_i64]; omega⟩, ⟨hz, by simp only [InR_i64]; omega, by simp only [InR_i64]; omega⟩, by simp only [InR_i64]; omega, loop_next 1 (by omega) (by omega) ?_ HSub_rfl⟩
   simp only [vsAll, Nat.reduceEqDiff, ↓reduceIte, reduceCtorEq, eq_self, Int.natCast_one]
   exact AV.Le.of_eq (by rw [Nat.zero_or])
  ·have e1 : i = 1 := by omega
   subst e1
   simp only [vsAll, opA, dstOk, nilSliceOp, resA, retA.eq_1, Nat.reduceLT, Nat.reduceEqDiff, ↓reduceIte, reduceCtorEq, eq_self, Tryz.results81]
theorem ropen_tri (v u : Nat → Int) (H : Hp) : PTri Tryz.prog (fnA 62) [.agg (rsC v u)] H (i64 (opN u 6 : Nat)) := by
 have ra : ∀ a, a < 6 → (List.drop (6 + a * 1) (rsC v u)).getD 0 .any = i64 (u a) := fun a ha => by
  rcases (by omega : a = 0 ∨ a = 1 ∨ a = 2 ∨ a = 3 ∨ a = 4 ∨ a = 5) with rfl | rfl | rfl | rfl | rfl | rfl <;> rfl
 refine tri_v0 (fun _ => false) Tryz.func62 (by kernel_rfl) rfl (by simp only [List.length_append, List.length_cons, List.length_nil, Tryz.ntmps62]; decide) ?_
 simp only [vsAll, loadA, loadRow, fieldAddrA, boxA, boxZ, opA, dstOk, nilSliceOp, argFr, Nat.reduceAdd, Nat.reduceMul, Nat.reduceLT, Nat.reduceEqDiff, ↓reduceIte, eq_self, wtAll, Tryz.ntmps62]
 refine vs_loop (σ := Nat) (fun i => i ≤ 6) (fun i => [(2, i64 (opN u i : Nat)), (6, blAV u), (7, i64 i)]) (fun _ => H) (fun i => 6 - i) 0 (Nat.zero_le _) ?_ HSub_rfl fun i hi => ?_
 ·have e0 : opN u 0 = 0 := rfl
  simp only [vsAll, Nat.reduceEqDiff, ↓reduceIte, eq_self, Int.natCast_zero, e0]
  exact rsC_u v u
 ·simp only [vsAll, binA, binLitA, intA, opA, dstOk, Nat.reduceLT, Nat.reduceEqDiff, ↓reduceIte, eq_self]
  refine condD (fun hd => ?_) (fun hd => ?_)
  ·have hi6 : i < 6 := by omega
   have hlt := opN_lt u i
   have hlt2 := opN_lt u (i + 1)
   have p1 : 2 ^ i ≤ 2 ^ 5 := Nat.pow_le_pow_right (by decide) (by omega)
   have p2 : 2 ^ (i + 1) ≤ 2 ^ 6 := Nat.pow_le_pow_right (by decide) (by omega)
   have es : opN u (i + 1) = if 0 < u i then opN u i ||| 2 ^ i else opN u i := rfl
   simp only [vsAll, binA, binLitA, intA, partA, indexA, opA, dstOk, nilSliceOp, Nat.reduceLT, Nat.reduceEqDiff, ↓reduceIte, eq_self, wtAll, blF_at]
   refine ⟨⟨by omega, by omega⟩, condD (fun hc => ?_) (fun hc => ?_)⟩
   ·rw [if_pos hc] at es
    simp only [vsAll, cellA, cellsA, okParts, buildSliceA, partIdx, elemsA, lensA, okAll, stAll, opsA, partsA, partsOk, opA, dstOk, Nat.reduceMul, Nat.reduceLT, Nat.reduceLeDiff, Nat.reduceEqDiff, ↓reduceIte, eq_self, wtAll]
    refine callK_pure (setOf_tri i _ hi6) ?_
    simp only [vsAll, binA, binLitA, intA, opA, dstOk, nilSliceOp, Nat.reduceLT, Nat.reduceEqDiff, ↓reduceIte, eq_self, ← es]
    have hz : (0 : Int) ≤ ((2 ^ i : Nat) : Int) := Int.natCast_nonneg _
    refine ⟨⟨by omega, by omega, by simp only [InR_i64]; omega, by simp only [InR_i64]; omega⟩, by simp only [InR_i64]; omega, loop_next (i + 1) hi6 (by omega) ?_ HSub_rfl⟩
    simp only [vsAll, Nat.reduceEqDiff, ↓reduceIte, eq_self, Int.natCast_add, Int.natCast_one]
   ·rw [if_neg hc] at es
    simp only [vsAll, binA, binLitA, intA, opA, dstOk, Nat.reduceLT, Nat.reduceEqDiff, ↓reduceIte, eq_self]
    refine ⟨by simp only [InR_i64]; omega, loop_next (i + 1) hi6 (by omega) ?_ HSub_rfl⟩
    simp only [vsAll, Nat.reduceEqDiff, ↓reduceIte, eq_self, es, Int.natCast_add, Int.natCast_one]
  ·have e1 : i = 6 := by omega
   subst e1
   simp only [vsAll, opA, dstOk, nilSliceOp, resA, retA.eq_1, Nat.reduceLT, Nat.reduceEqDiff, ↓reduceIte, eq_self, Tryz.results62]
end Go.Proofs.YtclkjifgipcamaaGreat
end
section
set_option linter.unusedVariables false
set_option linter.unusedSimpArgs false
set_option maxHeartbeats 8000000
set_option maxRecDepth 100000
namespace Go.Proofs.YtclkjifgipcamaaGreat
open Go.V
theorem upZ_o {d : Dr} {b : Nat → Int} (hb : BlO d b) {s : Nat} (hs : s < d.lim.length) (h52 : b s ≤ 52) : BlO d (upZ b s 1) := by
 refine ⟨fun j => ?_, fun j hj => ?_⟩
 ·have := hb.r j
  unfold upZ
  split
  ·rename_i e; subst e; omega
  ·exact this
 ·unfold upZ
  rw [if_neg (by omega)]
  exact hb.z j hj
def chainR (d : Dr) (l : List Int) (s : Nat) (H : Hp) : Res → Hp → Prop := fun r H' => H' = H ∧ ∃ w, d.dv.Run (upZ (bOf l) s 1) w ∧ d.dv.Still (upZ (bOf l) s 1) w ∧ r = .ret (.tuple [i64 (opN w 6 : Nat), i64 0])
theorem chain_tri (d : Dr) (l : List Int) (s : Nat) (H : Hp) (k : OkD d) (hl : l.length = d.lim.length) (hb : ∀ i, i < l.length → 0 ≤ l.getD i 0 ∧ l.getD i 0 < d.lim.getD i 0) (hs : s < d.lim.length) : Tri Tryz.prog (fnA 17) [d.av, intsAV l, i64 s] H (chainR d l s H) := by
 have n1 := k.n1
 have n6 := k.n6
 have hb52 : ∀ i, i < l.length → 0 ≤ l.getD i 0 ∧ l.getD i 0 ≤ 52 := fun i hi => by
  have := hb i hi
  have := k.l i (by omega)
  omega
 have ho := bOf_o hl hb52
 have ho2 := upZ_o ho hs (hb52 s (by omega)).2
 have cS : (decide ((0 : Int) ≤ s) && decide ((s : Int) ≤ (d.lim.length : Int) - 1)) = true := by rw [decide_eq_true (by omega), decide_eq_true (by omega)]; rfl
 refine Tri.drop ?_
 refine tri_a (m := mset [7, 9]) ans57 Tryz.func17 (by kernel_rfl) rfl (by simp only [List.length_append, List.length_cons, List.length_nil, Tryz.ntmps17]; decide) ?_
 simp only [vsAll, boxA, boxZ, okAll, stAll, opsA, opA, allocA, dstOk, nilSliceOp, deferV, argFr, Nat.reduceAdd, Nat.reduceLT, Nat.reduceBEq, ↓reduceIte, eq_self, wtAll, Tryz.ntmps17]
 intro i7 hh_i7; (try simp only [Hp.set_none, ite_none] at hh_i7)
 refine vs_draw2 [0, 0, 0, 0, 0, 0, 0, 0, 0, 1, 2] [([0, 1, 2, 3, 4, 5, 6, 7, 8], [], 9)] [10] (by decide +kernel) ?_
 simp only [vsAll, loadA, loadRow, partA, partOk, opA, dstOk, argFr, Nat.reduceLT, Nat.reduceEqDiff, ↓reduceIte, eq_self, wtAll]
 refine qcall _ ⟨trivial, by simp only [vsAll, okAll, opsA, opA, Nat.reduceEqDiff, ↓reduceIte, eq_self], areBlows_tri d l _ hl n6 hb52⟩ ?_
 simp only [vsAll, loadA, loadRow, partA, partOk, opA, guardV, dstOk, argFr, Nat.reduceLT, Nat.reduceEqDiff, ↓reduceIte, eq_self, wtAll]
 refine qgcall (boo true) (fun g => ⟨by simp only [vsAll, opA], by simp only [vsAll, okAll, opsA, opA, Nat.reduceEqDiff, ↓reduceIte, eq_self], by have := isSeam_tri d s; rw [cS] at this; exact this _ (by ((try clear hh_i7); omega))⟩) ?_
 simp only [vsAll, pickA, okAll, stAll, opsA, opA, dstOk, Nat.reduceLT, Nat.reduceEqDiff, ↓reduceIte, implies_true, eq_self]
 refine open_call k (fun _ => ?_) (fun hv => by cases hv)
 simp only [vsAll, okAll, stAll, opsA, opA, dstOk, argFr, Nat.reduceLT, Nat.reduceEqDiff, ↓reduceIte, eq_self]
 refine callK_pure (blowsOf_tri l _ (by ((try clear hh_i7); omega))) ?_
 simp only [vsAll, okAll, stAll, opsA, opA, allocA, storeObj, dstOk, Nat.reduceMul, Nat.reduceLT, Nat.reduceEqDiff, ↓reduceIte, eq_self, wtAll]
 intro i9 hh_i9; (try simp only [ite_none] at hh_i9)
 have g : ¬ i9 = i7 ∧ H i7 = none ∧ H i9 = none := by simp_all
 obtain ⟨g1, g2, g3⟩ := g
 have g1' : ¬ i7 = i9 := fun e => g1 e.symm
 skip
 refine ⟨fun q _ => ⟨rfl, trivial⟩, callK_pure (seams_tri d _) ?_⟩
 simp only [vsAll, opA, dstOk, Nat.reduceLT, eq_self]
 refine vs_loop (σ := Nat) (fun i => i ≤ d.lim.length) (fun i => [(2, i64 (s : Nat)), (7, .ref i7 0 1 0 0), (8, hP d), (9, .ref i9 0 1 0 0), (25, i64 d.lim.length), (26, i64 i)])
  (fun _ => (H.set i7 (.box 1 1 fun _ => [i64 0])).set i9 (.box 1 6 (blF (bOf l)))) (fun i => d.lim.length - i) 0 (Nat.zero_le _) ?_ ?_ fun i hi => ?_
 ·simp only [vsAll, argFr, Nat.reduceEqDiff, ↓reduceIte, eq_self, Int.natCast_zero]
 ·show Go.V.HSub _ ((H.set i7 (.box 1 1 fun _ => [i64 0])).set i9 (.box 1 6 (blF fun i => l.getD i 0)))
  (refine HSub_eqn fun jj => ?_; refine (Classical.em (jj = i9)).elim (fun E0 => by rw [E0]; first | (left; simp only [vsAll, ↓reduceIte, reduceCtorEq, eq_self]; done) | (right; simp only [vsAll, ↓reduceIte, eq_self]; done)) (fun E0 => ?_); refine (Classical.em (jj = i7)).elim (fun E1 => by rw [E1]; first | (left; simp only [vsAll, ↓reduceIte, reduceCtorEq, eq_self, hh_i9]; done) | (right; simp only [vsAll, ↓reduceIte, eq_self, hh_i9]; done)) (fun E1 => ?_); right; simp only [vsAll, ↓reduceIte, eq_self, E0, E1])
 ·simp only [vsAll, binA, binLitA, intA, opA, dstOk, Nat.reduceLT, Nat.reduceEqDiff, ↓reduceIte, eq_self]
  refine condD (fun hd => ?_) (fun hd => ?_)
  ·have hil : i < d.lim.length := by ((try clear hh_i7 hh_i9 g1 g2 g3 g1'); omega)
   have hbi := hb i (by ((try clear hh_i7 hh_i9 g1 g2 g3 g1'); omega))
   have hge : decide (bOf l i ≥ d.lim.getD i 0) = false := decide_eq_false (by show ¬ l.getD i 0 ≥ _; ((try clear hh_i7 hh_i9 g1 g2 g3 g1'); omega))
   simp only [vsAll, loadA, loadRow, okAll, stAll, opsA, opA, dstOk, nilSliceOp, Nat.reduceLT, Nat.reduceEqDiff, Nat.reduceBEq, ↓reduceIte, eq_self, wtAll]
   refine callK_pure (can_tri d (bOf l) i _ (by ((try clear hh_i7 hh_i9 g1 g2 g3 g1'); omega)) n6) ?_
   rw [Int.toNat_natCast, hge]
   simp only [vsAll, unA, okAll, stAll, opsA, opA, dstOk, Nat.reduceLT, ↓reduceIte, eq_self]
   refine dwant_call (fun _ => ?_) (fun hb => by cases hb)
   simp only [vsAll, binA, binLitA, intA, opA, dstOk, Nat.reduceLT, Nat.reduceEqDiff, ↓reduceIte, eq_self]
   refine ⟨by simp only [InR_i64]; ((try clear hh_i7 hh_i9 g1 g2 g3 g1'); omega), loop_next (i + 1) hil (by ((try clear hh_i7 hh_i9 g1 g2 g3 g1'); omega)) ?_ HSub_rfl⟩
   simp only [vsAll, Nat.reduceEqDiff, ↓reduceIte, eq_self, Int.natCast_add, Int.natCast_one]
  ·have ei : i = d.lim.length := by ((try clear hh_i7 hh_i9 g1 g2 g3 g1'); omega)
   subst ei
   simp only [vsAll, ↓reduceIte, eq_self]
   refine vs_draw2 [0, 1, 0, 0, 3, 5, 7, 8, 9] [([0, 2, 3], [2], 1), ([], [], 4), ([], [], 5), ([], [], 6), ([7], [], 8)] [] (by decide +kernel) ?_
   simp only [vsAll, loadA, loadRow, okAll, stAll, opsA, opA, dstOk, Nat.reduceLT, Nat.reduceEqDiff, ↓reduceIte, eq_self, wtAll]
   refine callK (settler_tri d _) ?_
   rintro r H' ⟨im, him, rfl, rfl⟩
   have gm : ¬ im = i9 ∧ ¬ im = i7 ∧ H im = none := by
    simp only [Hp.set_none] at him
    simp_all
   obtain ⟨m9, m7, mz⟩ := gm
   have m9' : ¬ i9 = im := fun e => m9 e.symm
   have m7' : ¬ i7 = im := fun e => m7 e.symm
   skip
   simp only [vsAll, loadA, loadRow, okAll, stAll, opsA, opA, dstOk, Nat.reduceLT, Nat.reduceEqDiff, ↓reduceIte, eq_self, wtAll, m9']
   have hbs := ho.r s
   refine callK_pure (with_tri (bOf l) s 1 _ (by ((try clear hh_i7 hh_i9 g1 g2 g3 g1' m9 m7 mz m9' m7'); omega)) (by rw [Int.toNat_natCast]; ((try clear hh_i7 hh_i9 g1 g2 g3 g1' m9 m7 mz m9' m7'); omega)) (by ((try clear hh_i7 hh_i9 g1 g2 g3 g1' m9 m7 mz m9' m7'); omega))) ?_
   rw [Int.toNat_natCast]
   simp only [vsAll, okAll, stAll, opsA, opA, dstOk, Nat.reduceLT, Nat.reduceEqDiff, ↓reduceIte, eq_self]
   refine callK (rest_tri d (upZ (bOf l) s 1) im _ k ho2 (by simp only [vsAll, ↓reduceIte, eq_self, m9, m7, mz])) ?_
   rintro r H' ⟨rfl, w, hr, hst, rfl⟩
   simp only [vsAll, okAll, stAll, opsA, opA, dstOk, Nat.reduceLT, ↓reduceIte, eq_self]
   refine callK_pure (ropen_tri _ w _) ?_
   simp only [vsAll, cellA, cellsA, opA, newCells, okCells, storeObj, dstOk, Nat.reduceLT, Nat.reduceEqDiff, ↓reduceIte, eq_self, wtAll, hh_i9]
   refine Ent.ret ⟨i7, _, rfl, by simp only [vsAll, ↓reduceIte, eq_self]; try rfl, ?_⟩
   simp only [vsAll, loadA, loadRow, partA, partOk, resA, retA.eq_2, Nat.reduceLT, Nat.reduceEqDiff, ↓reduceIte, eq_self, wtAll, Tryz.results17]
   exact ⟨H, by (refine HSub_eqn fun jj => ?_; refine (Classical.em (jj = i9)).elim (fun E0 => by rw [E0]; first | (left; simp only [eq_self, hh_i9]; done) | (right; simp only [vsAll, binA, binLitA, intA, aggA, aggV, boolA, nilA2, isConst, unA, loadA, loadRow, partA, partOk, fieldAddrA, indexAddrA, indexA, fieldA, extractA, lenA, nilCheckA, boxA, boxZ, cellA, cellsA, fillA, okParts, buildSliceA, buildMutA, makeSliceA, partIdx, elemsA, lensA, ifaceA, convA, mmA, pickA, okAll, stAll, opsA, partsA, partsOk, opA, allocA, boxMutA, newCells, okCells, storeObj, appendA, guardV, taA, nM, mapUpA, rangeA, nextA, entryA, lookA, sliceA, sliceM, sliceS, boundsA, opO, okO, copyA, dstOk, nilA, quietOk, nilSliceOp, deferV, panA, resA, argFr, retA.eq_1, retA.eq_2, Nat.reduceAdd, Nat.reduceSub, Nat.reduceMul, Nat.reduceLT, Nat.reduceLeDiff, Nat.reduceEqDiff, Nat.reduceBEq, Int.reduceAdd, Int.reduceSub, Int.reduceMul, Int.reduceNeg, Int.reduceLE, Int.reduceLT, Int.reduceEq, Int.reduceNe, Int.reduceToNat, ↓reduceIte, reduceCtorEq, implies_true, forall_const, eq_self, ne_eq, wtAll, Tryz.ntmps17, Tryz.results17, hh_i7, hh_i9, g1, g2, g3, g1', m9, m7, mz, m9', m7']; done)) (fun E0 => ?_); refine (Classical.em (jj = i7)).elim (fun E1 => by rw [E1]; first | (left; simp only [eq_self, hh_i7]; done) | (right; simp only [vsAll, binA, binLitA, intA, aggA, aggV, boolA, nilA2, isConst, unA, loadA, loadRow, partA, partOk, fieldAddrA, indexAddrA, indexA, fieldA, extractA, lenA, nilCheckA, boxA, boxZ, cellA, cellsA, fillA, okParts, buildSliceA, buildMutA, makeSliceA, partIdx, elemsA, lensA, ifaceA, convA, mmA, pickA, okAll, stAll, opsA, partsA, partsOk, opA, allocA, boxMutA, newCells, okCells, storeObj, appendA, guardV, taA, nM, mapUpA, rangeA, nextA, entryA, lookA, sliceA, sliceM, sliceS, boundsA, opO, okO, copyA, dstOk, nilA, quietOk, nilSliceOp, deferV, panA, resA, argFr, retA.eq_1, retA.eq_2, Nat.reduceAdd, Nat.reduceSub, Nat.reduceMul, Nat.reduceLT, Nat.reduceLeDiff, Nat.reduceEqDiff, Nat.reduceBEq, Int.reduceAdd, Int.reduceSub, Int.reduceMul, Int.reduceNeg, Int.reduceLE, Int.reduceLT, Int.reduceEq, Int.reduceNe, Int.reduceToNat, ↓reduceIte, reduceCtorEq, implies_true, forall_const, eq_self, ne_eq, wtAll, Tryz.ntmps17, Tryz.results17, hh_i7, hh_i9, g1, g2, g3, g1', m9, m7, mz, m9', m7']; done)) (fun E1 => ?_); right; simp only [vsAll, ↓reduceIte, eq_self, E0, E1]), rfl, w, hr, hst, rfl⟩
end Go.Proofs.YtclkjifgipcamaaGreat
end
section
set_option linter.unusedVariables false
set_option linter.unusedSimpArgs false
set_option maxHeartbeats 8000000
set_option maxRecDepth 100000
namespace Go.Proofs.YtclkjifgipcamaaGreat
open Go.V
theorem nan_tri (a : Int) (H : Hp) : PTri Tryz.prog (fnA 86) [i64 a] H (boo false) := by
 have e : decide (a = a) = true := decide_eq_true rfl
 refine tri_v0 (fun _ => false) Tryz.func86 (by kernel_rfl) rfl (by simp only [List.length_append, List.length_cons, List.length_nil, Tryz.ntmps86]; decide) ?_
 simp only [vsAll, binA, binLitA, intA, opA, dstOk, nilSliceOp, resA, argFr, retA.eq_1, Nat.reduceLT, Nat.reduceEqDiff, ↓reduceIte, reduceCtorEq, eq_self, Tryz.ntmps86, Tryz.results86]
theorem less_tri (a b : Int) (H : Hp) : PTri Tryz.prog (fnA 69) [i64 a, i64 b] H (boo (decide (a < b))) := by
 refine tri_v0 (fun _ => false) Tryz.func69 (by kernel_rfl) rfl (by simp only [List.length_append, List.length_cons, List.length_nil, Tryz.ntmps69]; decide) ?_
 simp only [vsAll, okAll, stAll, opsA, opA, dstOk, nilSliceOp, argFr, Nat.reduceLT, ↓reduceIte, reduceCtorEq, eq_self, Tryz.ntmps69]
 refine callK_pure (nan_tri a _) ?_
 simp only [vsAll, opA, guardV, dstOk, argFr, Nat.reduceLT, Nat.reduceEqDiff, ↓reduceIte, implies_true, eq_self]
 (try refine gcall (boo false) (fun g => by cases g) ?_)
 (try simp only [vsAll, binA, binLitA, intA, unA, pickA, opA, guardV, dstOk, nilSliceOp, resA, argFr, retA.eq_1, Nat.reduceLT, Nat.reduceEqDiff, ↓reduceIte, reduceCtorEq, implies_true, eq_self, Tryz.results69])
structure SrtI (n : Nat) (g : Nat → Int) : Prop where
 inj : ∀ p q, p < n → q < n → g p = g q → p = q
 r : ∀ p, p < n → 0 ≤ g p ∧ g p < n
def swp (g : Nat → Int) (j : Nat) : Nat → Int := fun q => if q = j then g (j - 1) else if q = j - 1 then g j else g q
theorem SrtI.swp {n : Nat} {g : Nat → Int} (h : SrtI n g) {j : Nat} (hj : j < n) (h0 : 0 < j) : SrtI n (swp g j) := by
 have key : ∀ q, q < n → ∃ z, z < n ∧ (if q = j then g (j - 1) else if q = j - 1 then g j else g q) = g z ∧ (q = j → z = j - 1) ∧ (q = j - 1 → z = j) ∧ (q ≠ j → q ≠ j - 1 → z = q) := fun q hq => by
  by_cases e1 : q = j
  ·exact ⟨j - 1, by omega, by rw [if_pos e1], fun _ => rfl, fun h => by omega, fun h => absurd e1 h⟩
  ·by_cases e2 : q = j - 1
   ·exact ⟨j, hj, by rw [if_neg e1, if_pos e2], fun h => absurd h e1, fun _ => rfl, fun _ h => absurd e2 h⟩
   ·exact ⟨q, hq, by rw [if_neg e1, if_neg e2], fun h => absurd h e1, fun h => absurd h e2, fun _ _ => rfl⟩
 refine ⟨fun p q hp hq e => ?_, fun p hp => ?_⟩
 ·obtain ⟨a, ha, ea, a1, a2, a3⟩ := key p hp
  obtain ⟨b, hb, eb, b1, b2, b3⟩ := key q hq
  have e3 := h.inj a b ha hb (by rw [← ea, ← eb]; exact e)
  by_cases p1 : p = j
  ·have := a1 p1
   by_cases q1 : q = j
   ·omega
   ·by_cases q2 : q = j - 1
    ·have := b2 q2; omega
    ·have := b3 q1 q2; omega
  ·by_cases p2 : p = j - 1
   ·have := a2 p2
    by_cases q1 : q = j
    ·have := b1 q1; omega
    ·by_cases q2 : q = j - 1
     ·omega
     ·have := b3 q1 q2; omega
   ·have := a3 p1 p2
    by_cases q1 : q = j
    ·have := b1 q1; omega
    ·by_cases q2 : q = j - 1
     ·have := b2 q2; omega
     ·have := b3 q1 q2; omega
 ·obtain ⟨a, ha, ea, _⟩ := key p hp
  show 0 ≤ (if p = j then g (j - 1) else if p = j - 1 then g j else g p) ∧ (if p = j then g (j - 1) else if p = j - 1 then g j else g p) < n
  rw [ea]; exact h.r a ha
def Srt (g : Nat → Int) (i : Nat) : Prop := ∀ p q, p < q → q < i → g p ≤ g q
def Prt (g : Nat → Int) (i j : Nat) : Prop := ∀ p q, p < q → q ≤ i → q ≠ j → g p ≤ g q
theorem Prt.swp {g : Nat → Int} {i j : Nat} (h : Prt g i j) (h0 : 0 < j) (hj : j ≤ i) (hl : g j < g (j - 1)) : Prt (swp g j) i (j - 1) := fun p q hpq hq hne => by
 show (if p = j then g (j - 1) else if p = j - 1 then g j else g p) ≤ (if q = j then g (j - 1) else if q = j - 1 then g j else g q)
 rw [if_neg (show ¬ q = j - 1 from hne)]
 by_cases q1 : q = j
 ·rw [if_pos q1, if_neg (by omega)]
  by_cases p2 : p = j - 1
  ·rw [if_pos p2]; omega
  ·rw [if_neg p2]; exact h p (j - 1) (by omega) (by omega) (by omega)
 ·rw [if_neg q1]
  by_cases p1 : p = j
  ·rw [if_pos p1]; exact h (j - 1) q (by omega) hq q1
  ·rw [if_neg p1]
   by_cases p2 : p = j - 1
   ·rw [if_pos p2]; exact h j q (by omega) hq q1
   ·rw [if_neg p2]; exact h p q hpq hq q1
theorem Prt.done {g : Nat → Int} {i j : Nat} (h : Prt g i j) (hj : j ≤ i) (hl : j = 0 ∨ g (j - 1) ≤ g j) : Srt g (i + 1) := fun p q hpq hq => by
 by_cases q1 : q = j
 ·subst q1
  rcases hl with h0 | hl
  ·omega
  ·by_cases p2 : p = q - 1
   ·rw [p2]; exact hl
   ·exact Int.le_trans (h p (q - 1) (by omega) (by omega) (by omega)) hl
 ·exact h p q hpq (by omega) q1
theorem srt_id {n : Nat} {g : Nat → Int} (h : SrtI n g) (hs : Srt g n) : ∀ p, p < n → g p = p := by
 have lt : ∀ p q, p < q → q < n → g p < g q := fun p q h1 h2 => by
  have a := hs p q h1 h2
  rcases Int.lt_or_le (g p) (g q) with b | b
  ·exact b
  ·have := h.inj p q (by omega) h2 (by omega); omega
 have lo : ∀ p, p < n → (p : Int) ≤ g p := fun p => by
  induction p with
  | zero => intro h0; exact (h.r 0 h0).1
  | succ p ih => intro hp; have := ih (by omega); have := lt p (p + 1) (by omega) hp; omega
 have hi : ∀ d p, p + d + 1 = n → g p ≤ p := fun d => by
  induction d with
  | zero => intro p hp; have := (h.r p (by omega)).2; omega
  | succ d ih => intro p hp; have := ih (p + 1) (by omega); have := lt p (p + 1) (by omega) (by omega); omega
 intro p hp
 have := lo p hp
 have := hi (n - 1 - p) p (by omega)
 omega
end Go.Proofs.YtclkjifgipcamaaGreat
end
section
set_option linter.unusedVariables false
set_option linter.unusedSimpArgs false
set_option maxHeartbeats 8000000
set_option maxRecDepth 100000
namespace Go.Proofs.YtclkjifgipcamaaGreat
open Go.V
def insR (n id : Nat) (H : Hp) : Res → Hp → Prop := fun r H' => r = .ret (.tuple []) ∧ ∃ g, SrtI n g ∧ Srt g n ∧ H' = H.set id (.row 1 n (blF g))
theorem upd2 (n : Nat) (g : Nat → Int) {j : Nat} (hj : j < n) (h0 : 0 < j) : ∀ q, q < n → updF n (j - 1) (updF n j (blF g) [i64 (g (j - 1))]) [i64 (g j)] q = blF (swp g j) q := fun q hq => by
 rw [updF_at (by omega) hq]
 show _ = [i64 (if q = j then g (j - 1) else if q = j - 1 then g j else g q)]
 by_cases e2 : q = j - 1
 ·rw [if_pos e2, if_neg (by omega), if_pos e2]
 ·rw [if_neg e2, updF_at hj hq]
  by_cases e1 : q = j
  ·rw [if_pos e1, if_pos e1]
  ·rw [if_neg e1, if_neg e1, if_neg e2]; rfl
theorem ins_tri (n id : Nat) (g : Nat → Int) (H : Hp) (hn : 1 ≤ n ∧ n ≤ 6) (hg : SrtI n g) {f : Nat → List AV} (ho : H id = some (.row 1 n f)) (hf : ∀ q, q < n → f q = blF g q) : Tri Tryz.prog (fnA 93) [.sl id 1 n, i64 0, i64 n] H (insR n id H) := by
 refine tri_vs (m := mset []) Tryz.func93 (by kernel_rfl) rfl (by simp only [List.length_append, List.length_cons, List.length_nil, Tryz.ntmps93]; decide) ?_
 skip
 simp only [vsAll, binA, binLitA, intA, opA, dstOk, nilSliceOp, argFr, Nat.reduceLT, Int.reduceAdd, ↓reduceIte, eq_self, Tryz.ntmps93]
 refine ⟨by simp only [InR_i64]; ((try clear ho); omega), ?_⟩
 refine vs_loop (σ := Nat × (Nat → Int)) (fun y => 1 ≤ y.1 ∧ y.1 ≤ n ∧ SrtI n y.2 ∧ Srt y.2 y.1) (fun y => [(0, .sl id 1 n), (1, i64 0), (2, i64 n), (6, i64 y.1)])
  (fun y => H.set id (.row 1 n (blF y.2))) (fun y => n - y.1) (1, g) ⟨Nat.le_refl _, hn.1, hg, fun p q h1 h2 => by ((try clear ho); omega)⟩ ?_ ?_ fun y hy => ?_
 ·simp only [vsAll, argFr, Nat.reduceEqDiff, ↓reduceIte, reduceCtorEq, eq_self, Int.natCast_one]
 ·exact HSub_put_le ho (row_ext hf) HSub_rfl
 ·obtain ⟨i, g⟩ := y
  obtain ⟨h1, hi, hg, hs⟩ := hy
  simp only [] at h1 hi hg hs
  simp only [vsAll, binA, binLitA, intA, opA, dstOk, Nat.reduceLT, Nat.reduceEqDiff, ↓reduceIte, reduceCtorEq, eq_self]
  refine condD (fun hd => ?_) (fun hd => ?_)
  ·have hin : i < n := by ((try clear ho); omega)
   simp only [vsAll, opA, dstOk, nilSliceOp, Nat.reduceLT, Nat.reduceEqDiff, ↓reduceIte, reduceCtorEq, eq_self]
   refine vs_loop (σ := Nat × (Nat → Int)) (fun y => y.1 ≤ i ∧ SrtI n y.2 ∧ Prt y.2 i y.1) (fun y => [(0, .sl id 1 n), (1, i64 0), (2, i64 n), (6, i64 i), (7, i64 y.1)])
    (fun y => H.set id (.row 1 n (blF y.2))) (fun y => y.1) (i, g) ⟨Nat.le_refl _, hg, fun p q h1 h2 h3 => hs p q h1 (by ((try clear ho); omega))⟩ ?_ HSub_rfl fun y hy => ?_
   ·simp only [vsAll, Nat.reduceEqDiff, ↓reduceIte, reduceCtorEq, eq_self]
   ·obtain ⟨j, g⟩ := y
    obtain ⟨hj, hg, hp⟩ := hy
    simp only [] at hj hg hp
    simp only [vsAll]
    rcases Nat.eq_zero_or_pos j with rfl | h0
    ·refine vs_draw2 [0, 0, 0, 0, 0, 0, 0, 0, 0, 0, 0, 0, 0, 0, 0] [] [0, 1, 2, 3, 4, 5, 6, 7, 8, 9, 10, 11, 12, 13, 14] (by decide +kernel) ?_
     simp only [vsAll, binA, binLitA, intA, loadA, loadRow, partA, partOk, indexAddrA, opA, guardV, dstOk, Nat.reduceLT, Nat.reduceEqDiff, Int.reduceSub, Int.reduceNeg, Int.reduceLE, Int.reduceLT, Int.reduceToNat, ↓reduceIte, reduceCtorEq, implies_true, eq_self, wtAll, Int.natCast_zero]
     refine qgcall (boo false) (fun g => by cases g) ?_
     simp only [vsAll, binA, binLitA, intA, pickA, opA, dstOk, nilSliceOp, Nat.reduceLT, Nat.reduceEqDiff, Int.reduceNeg, ↓reduceIte, reduceCtorEq, eq_self]
     refine ⟨by simp only [InR_i64]; ((try clear ho); omega), loop_next (i + 1, g) ⟨by ((try clear ho); omega), hin, hg, hp.done (by ((try clear ho); omega)) (.inl rfl)⟩ (by show n - (i + 1) < n - i; ((try clear ho); omega)) ?_ HSub_rfl⟩
     simp only [vsAll, Nat.reduceEqDiff, Int.reduceNeg, ↓reduceIte, reduceCtorEq, eq_self, Int.natCast_add, Int.natCast_one]
    ·have c0 : decide ((0 : Int) < j) = true := decide_eq_true (by ((try clear ho); omega))
     have ez : ((j : Int) - 1).toNat = j - 1 := by ((try clear ho); omega)
     refine vs_draw2 [0, 0, 0, 0, 0, 0, 0, 0, 0, 0, 0, 0, 0, 0, 0] [] [0, 1, 2, 3, 4, 5, 6, 7, 8, 9, 10, 11, 12, 13, 14] (by decide +kernel) ?_
     simp only [vsAll, binA, binLitA, intA, loadA, loadRow, partA, partOk, indexAddrA, opA, guardV, dstOk, Nat.reduceLT, Nat.reduceEqDiff, ↓reduceIte, reduceCtorEq, forall_const, eq_self, wtAll, blF_at, c0, ez]
     have hgj := hg.r j (by ((try clear ho); omega))
     have hgk := hg.r (j - 1) (by ((try clear ho); omega))
     refine ⟨⟨by ((try clear ho); omega), by ((try clear ho); omega)⟩, by ((try clear ho); omega), by simp only [InR_i64]; ((try clear ho); omega), ⟨by ((try clear ho); omega), by ((try clear ho); omega)⟩, by ((try clear ho); omega), qgcall (boo (decide (g j < g (j - 1)))) (fun _ => ⟨trivial, by simp only [vsAll, okAll, opsA, opA, Nat.reduceEqDiff, ↓reduceIte, eq_self], less_tri (g j) (g (j - 1)) _⟩) ?_⟩
     simp only [vsAll, pickA, opA, dstOk, Nat.reduceLT, Nat.reduceEqDiff, ↓reduceIte, implies_true, eq_self]
     refine condD (fun hc => ?_) (fun hc => ?_)
     ·have hu := upd2 n g (j := j) (by ((try clear ho); omega)) h0
      simp only [vsAll]
      refine vs_draw2 [0, 0, 0, 0, 0, 0, 0, 0, 0, 0, 0, 0, 0, 0, 0, 1, 2, 3] [([0, 1, 2, 3, 4, 5, 6, 7, 8, 9, 10, 11, 12, 13, 14], [], 15), ([16], [], 17)] [] (by decide +kernel) ?_
      simp only [vsAll, binA, binLitA, intA, loadA, loadRow, partA, partOk, indexAddrA, cellA, cellsA, opA, newCells, okCells, storeObj, dstOk, nilSliceOp, Nat.reduceLT, Nat.reduceEqDiff, ↓reduceIte, reduceCtorEq, eq_self, wtAll, blF_at, ez]
      have ec : ((j - 1 : Nat) : Int) = (j : Int) - 1 := by ((try clear ho); omega)
      refine ⟨by simp only [InR_i64]; ((try clear ho); omega), by simp only [InR_i64]; ((try clear ho); omega), ⟨by ((try clear ho); omega), by ((try clear ho); omega)⟩, by ((try clear ho); omega), ⟨by ((try clear ho); omega), by ((try clear ho); omega)⟩, by ((try clear ho); omega), ⟨by ((try clear ho); omega), by ((try clear ho); omega)⟩, by ((try clear ho); omega), ⟨by ((try clear ho); omega), by ((try clear ho); omega)⟩, by ((try clear ho); omega), by simp only [InR_i64]; ((try clear ho); omega), loop_next (j - 1, swp g j) ⟨by show j - 1 ≤ i; ((try clear ho); omega), hg.swp (by ((try clear ho); omega)) h0, hp.swp h0 hj hc⟩ (by show j - 1 < j; ((try clear ho); omega)) ?_ ?_⟩
      ·simp only [vsAll, Nat.reduceEqDiff, ↓reduceIte, reduceCtorEq, eq_self, ec]
      ·have eu : updF n j (blF g) [i64 (g (j - 1))] (j - 1) = blF g (j - 1) := by rw [updF_at (by ((try clear ho); omega)) (by ((try clear ho); omega)), if_neg (by ((try clear ho); omega))]
       rw [Hp.set_set, Hp.set_set]
       refine Go.V.HSub.set HSub_rfl (row_ext fun q hq => ?_)
       rw [← hu q hq, eu]; rfl
     ·simp only [vsAll, binA, binLitA, intA, opA, dstOk, nilSliceOp, Nat.reduceLT, Nat.reduceEqDiff, ↓reduceIte, reduceCtorEq, eq_self]
      refine ⟨by simp only [InR_i64]; ((try clear ho); omega), loop_next (i + 1, g) ⟨by ((try clear ho); omega), hin, hg, hp.done hj (.inr (by ((try clear ho); omega)))⟩ (by show n - (i + 1) < n - i; ((try clear ho); omega)) ?_ HSub_rfl⟩
      simp only [vsAll, Nat.reduceEqDiff, ↓reduceIte, reduceCtorEq, eq_self, Int.natCast_add, Int.natCast_one]
  ·have ei : i = n := by ((try clear ho); omega)
   subst ei
   simp only [vsAll, ↓reduceIte, eq_self]
   refine Ent.ret ⟨rfl, ?_⟩
   simp only [vsAll, resA, retA.eq_2, Tryz.results93]
   exact ⟨_, HSub_rfl, rfl, g, hg, hs, rfl⟩
theorem pdq_tri (n id : Nat) (g : Nat → Int) (c : Int) (H : Hp) (hn : 1 ≤ n ∧ n ≤ 6) (hg : SrtI n g) {f : Nat → List AV} (ho : H id = some (.row 1 n f)) (hf : ∀ q, q < n → f q = blF g q) : Tri Tryz.prog (fnA 84) [.sl id 1 n, i64 0, i64 n, i64 c] H (insR n id H) := by
 have cd : decide ((n : Int) - 0 ≤ 12) = true := decide_eq_true (by omega)
 have cd2 : decide ((n : Int) ≤ 12) = true := decide_eq_true (by omega)
 refine tri_vs (m := mset []) Tryz.func84 (by kernel_rfl) rfl (by simp only [List.length_append, List.length_cons, List.length_nil, Tryz.ntmps84]; decide) ?_
 simp only [vsAll, opA, dstOk, nilSliceOp, Nat.reduceLT, eq_self, Tryz.ntmps84]
 refine vs_loop (σ := Unit) (fun _ => True) (fun _ => [(0, .sl id 1 n), (1, i64 0), (2, i64 n)]) (fun _ => H) (fun _ => 0) () trivial ?_ HSub_rfl fun _ _ => ?_
 ·simp only [vsAll, argFr, Nat.reduceEqDiff, ↓reduceIte, reduceCtorEq]
 ·simp only [vsAll, binA, binLitA, intA, okAll, stAll, opsA, opA, dstOk, nilSliceOp, Nat.reduceLT, Nat.reduceEqDiff, ↓reduceIte, reduceCtorEq, eq_self, cd2, Int.sub_zero]
  refine ⟨by simp only [InR_i64]; omega, callK (ins_tri n id g _ hn hg ho hf) ?_⟩
  rintro r H' ⟨rfl, g', h1, h2, rfl⟩
  simp only [vsAll]
  refine Ent.ret ⟨rfl, ?_⟩
  simp only [vsAll, resA, retA.eq_2, Tryz.results84]
  exact ⟨_, HSub_rfl, rfl, g', h1, h2, rfl⟩
end Go.Proofs.YtclkjifgipcamaaGreat
end
section
set_option linter.unusedVariables false
set_option linter.unusedSimpArgs false
set_option maxHeartbeats 8000000
set_option maxRecDepth 100000
namespace Go.Proofs.YtclkjifgipcamaaGreat
open Go.V Go.RowKit
theorem len64_1 (w : World) : Calls Tryz.prog 102 #[.int .u64 1] w fun e w' => e = .returned (.int .i64 1) ∧ w' = w := by
 go_enter Tryz.func102, Tryz.ntmps102
 go_wp2
 go_ret
 exact ⟨by kernel_rfl, rfl⟩
theorem len64_2 (w : World) : Calls Tryz.prog 102 #[.int .u64 2] w fun e w' => e = .returned (.int .i64 2) ∧ w' = w := by
 go_enter Tryz.func102, Tryz.ntmps102
 go_wp2
 go_ret
 exact ⟨by kernel_rfl, rfl⟩
theorem len64_3 (w : World) : Calls Tryz.prog 102 #[.int .u64 3] w fun e w' => e = .returned (.int .i64 2) ∧ w' = w := by
 go_enter Tryz.func102, Tryz.ntmps102
 go_wp2
 go_ret
 exact ⟨by kernel_rfl, rfl⟩
theorem len64_4 (w : World) : Calls Tryz.prog 102 #[.int .u64 4] w fun e w' => e = .returned (.int .i64 3) ∧ w' = w := by
 go_enter Tryz.func102, Tryz.ntmps102
 go_wp2
 go_ret
 exact ⟨by kernel_rfl, rfl⟩
theorem len64_5 (w : World) : Calls Tryz.prog 102 #[.int .u64 5] w fun e w' => e = .returned (.int .i64 3) ∧ w' = w := by
 go_enter Tryz.func102, Tryz.ntmps102
 go_wp2
 go_ret
 exact ⟨by kernel_rfl, rfl⟩
theorem len64_6 (w : World) : Calls Tryz.prog 102 #[.int .u64 6] w fun e w' => e = .returned (.int .i64 3) ∧ w' = w := by
 go_enter Tryz.func102, Tryz.ntmps102
 go_wp2
 go_ret
 exact ⟨by kernel_rfl, rfl⟩
theorem tri_of_calls {P : Program} {f : FuncId} {fn : Func} {c : Code} {avs : List AV} {H : Hp} {v : Value} (hf : P.funcs[f]? = some fn) (hname : (fn.name == "runtime.NumGoroutine") = false) (hb : fn.body = some c)
  (h : ∀ (S : St) (vs : List Value), HRel S H → VRels S avs vs → Calls P f vs.toArray S.w fun e w' => e = .returned v ∧ w' = S.w) : PTri P (.func (.func f) [] []) avs H (.lit v) := by
 intro S vf vs hH hv ha
 have hvf : vf = .func (.func f) #[] #[] := by
  cases hv with
  | @func _ _ _ a b hn hm _ _ =>
    have e1 : a = #[] := Array.eq_empty_of_size_eq_zero (by simpa using hn)
    have e2 : b = #[] := Array.eq_empty_of_size_eq_zero (by simpa using hm)
    rw [e1, e2]
 subst hvf
 refine ⟨.enter f vs.toArray, ?_, ?_⟩
 ·have e : (#[] : Array Value) ++ vs.toArray ++ #[] = vs.toArray := by simp
  simp only [Deferred.ofValue, Sem.run_bind, Sem.run_pure, Result.andThen_ok, invoke, e, callFunc, run_program, hf, hname, hb]
  simp
 ·refine Calls.mono (h S vs hH ha) ?_
  rintro e w' ⟨rfl, rfl⟩
  exact ⟨S, .ret (.lit v), H, rfl, Le.refl S, hH, .lit _, rfl, rfl⟩
theorem len64_lit {n c : Int} {H : Hp} (h : ∀ w : World, Calls Tryz.prog 102 #[.int .u64 n] w fun e w' => e = .returned (.int .i64 c) ∧ w' = w) : PTri Tryz.prog (fnA 102) [u64 n] H (i64 c) := by
 refine tri_of_calls Tryz.func102 (by kernel_rfl) rfl fun S vs hH ha => ?_
 obtain ⟨h1, h2⟩ := ha
 match vs, h1 with
 | [x], _ =>
   have := (h2 0 (by simp)).lit_inv
   simp only [List.getD_cons_zero] at this
   rw [this]
   exact h S.w
theorem len_tri (n : Nat) (hn : 1 ≤ n ∧ n ≤ 6) : ∃ c : Int, ∀ H : Hp, PTri Tryz.prog (fnA 85) [u64 n] H (i64 c) := by
 have key : ∃ c : Int, ∀ H : Hp, PTri Tryz.prog (fnA 102) [u64 n] H (i64 c) := by
  rcases (by omega : n = 1 ∨ n = 2 ∨ n = 3 ∨ n = 4 ∨ n = 5 ∨ n = 6) with rfl | rfl | rfl | rfl | rfl | rfl
  ·exact ⟨1, fun H => len64_lit len64_1⟩
  ·exact ⟨2, fun H => len64_lit len64_2⟩
  ·exact ⟨2, fun H => len64_lit len64_3⟩
  ·exact ⟨3, fun H => len64_lit len64_4⟩
  ·exact ⟨3, fun H => len64_lit len64_5⟩
  ·exact ⟨3, fun H => len64_lit len64_6⟩
 obtain ⟨c, hc⟩ := key
 refine ⟨c, fun H => ?_⟩
 refine tri_v0 (fun _ => false) Tryz.func85 (by kernel_rfl) rfl (by simp only [List.length_append, List.length_cons, List.length_nil, Tryz.ntmps85]; decide) ?_
 simp only [vsAll, okAll, stAll, opsA, opA, dstOk, nilSliceOp, argFr, Nat.reduceLT, ↓reduceIte, reduceCtorEq, eq_self, Tryz.ntmps85]
 refine callK_pure (hc _) ?_
 simp only [vsAll, opA, dstOk, nilSliceOp, resA, retA.eq_1, Nat.reduceLT, ↓reduceIte, eq_self, Tryz.results85]
theorem sort_tri (n id : Nat) (g : Nat → Int) (H : Hp) (hn : 1 ≤ n ∧ n ≤ 6) (hg : SrtI n g) {f : Nat → List AV} (ho : H id = some (.row 1 n f)) (hf : ∀ q, q < n → f q = blF g q) : Tri Tryz.prog (fnA 68) [.sl id 1 n] H (insR n id H) := by
 obtain ⟨c, hc⟩ := len_tri n hn
 refine tri_vs (m := mset []) Tryz.func68 (by kernel_rfl) rfl (by simp only [List.length_append, List.length_cons, List.length_nil, Tryz.ntmps68]; decide) ?_
 skip
 simp only [vsAll, lenA, convA, okAll, stAll, opsA, opA, dstOk, nilSliceOp, argFr, Nat.reduceLT, Nat.reduceEqDiff, ↓reduceIte, reduceCtorEq, eq_self, wtAll, Tryz.ntmps68]
 refine ⟨by simp only [InR_u64]; ((try clear ho); omega), callK_pure (hc _) ?_⟩
 simp only [vsAll, okAll, stAll, opsA, opA, dstOk, Nat.reduceLT, Nat.reduceEqDiff, ↓reduceIte, eq_self]
 refine callK (pdq_tri n id g c _ hn hg ho hf) ?_
 rintro r H' ⟨rfl, g', h1, h2, rfl⟩
 simp only [vsAll]
 refine Ent.ret ⟨rfl, ?_⟩
 simp only [vsAll, resA, retA.eq_2, Tryz.results68]
 exact ⟨_, HSub_rfl, rfl, g', h1, h2, rfl⟩
def SrtL (l : List Int) (n : Nat) : Prop := l.length = n ∧ SrtI n fun i => l.getD i 0
theorem isOrder_tri (d : Dr) (l : List Int) (H : Hp) (k : OkD d) (hl : SrtL l d.lim.length) : PTri Tryz.prog (fnA 33) [d.av, intsAV l] H (boo true) := by
 obtain ⟨hl, hg⟩ := hl
 have n1 := k.n1
 have n6 := k.n6
 have hlen : decide ((l.length : Int) = d.lim.length) = true := decide_eq_true (by omega)
 refine Tri.drop ?_
 refine tri_v0 (mset [10]) Tryz.func33 (by kernel_rfl) rfl (by simp only [List.length_append, List.length_cons, List.length_nil, Tryz.ntmps33]; decide) ?_
 simp only [vsAll, lenA, boxA, boxZ, makeSliceA, okAll, stAll, opsA, opA, copyA, dstOk, nilSliceOp, argFr, Nat.reduceAdd, Nat.reduceLT, Nat.reduceEqDiff, Nat.reduceBEq, ↓reduceIte, eq_self, wtAll, Tryz.ntmps33, hl]
 refine ⟨by omega, by omega, by omega, ?_⟩
 intro io hh_io; (try simp only [Hp.set_none, ite_none] at hh_io)
 refine ⟨fun q _ => ⟨rfl, trivial⟩, callK (sort_tri d.lim.length io (fun i => l.getD i 0) _ ⟨n1, n6⟩ hg (Hp.set_same _ _ _) (fun q hq => ?_)) ?_⟩
 ·unfold cpF
  rw [if_pos ⟨Nat.zero_le _, by ((try clear hh_io); omega)⟩]
  simp [blF, intF_at]
 rintro r H' ⟨rfl, g, h1, h2, rfl⟩
 have hid := srt_id h1 h2
 simp only [vsAll, lenA, opA, dstOk, Nat.reduceLT, Nat.reduceEqDiff, ↓reduceIte, eq_self, wtAll]
 refine vs_loop (σ := Nat) (fun i => i ≤ d.lim.length) (fun i => [(1, intsAV l), (2, dptr d), (16, .sl io 1 d.lim.length), (17, i64 d.lim.length), (18, i64 i)])
  (fun _ => H.set io (.row 1 d.lim.length (blF g))) (fun i => d.lim.length - i) 0 (Nat.zero_le _) ?_ (by rw [Hp.set_set, Hp.set_set]; exact HSub_rfl) fun i hi => ?_
 ·simp only [vsAll, argFr, Nat.reduceEqDiff, ↓reduceIte, eq_self, Int.natCast_zero]
 ·simp only [vsAll, binA, binLitA, intA, opA, dstOk, Nat.reduceLT, Nat.reduceEqDiff, ↓reduceIte, eq_self]
  refine condD (fun hd => ?_) (fun hd => ?_)
  ·have hil : i < d.lim.length := by ((try clear hh_io); omega)
   have hgi := hid i hil
   have ce : decide ((i : Int) = i) = true := decide_eq_true rfl
   simp only [vsAll, binA, binLitA, intA, loadA, loadRow, partA, partOk, indexAddrA, opA, dstOk, nilSliceOp, Nat.reduceLT, Nat.reduceEqDiff, Nat.reduceBEq, ↓reduceIte, eq_self, wtAll, blF_at, hgi]
   refine ⟨⟨by ((try clear hh_io); omega), by ((try clear hh_io); omega)⟩, hil, by simp only [InR_i64]; ((try clear hh_io); omega), loop_next (i + 1) hil (by ((try clear hh_io); omega)) ?_ HSub_rfl⟩
   simp only [vsAll, Nat.reduceEqDiff, ↓reduceIte, eq_self, Int.natCast_add, Int.natCast_one]
  ·simp only [vsAll, binA, binLitA, intA, loadA, loadRow, partA, partOk, fieldAddrA, lenA, opA, dstOk, nilSliceOp, resA, retA.eq_1, Nat.reduceLT, Nat.reduceEqDiff, Nat.reduceBEq, ↓reduceIte, eq_self, wtAll, Tryz.results33, hlen]
   exact dropR_pure rfl (by (repeat (first | exact HSub_rfl | refine HSub_put_eq (by simp only [vsAll, binA, binLitA, intA, aggA, aggV, boolA, nilA2, isConst, unA, loadA, loadRow, partA, partOk, fieldAddrA, indexAddrA, indexA, fieldA, extractA, lenA, nilCheckA, boxA, boxZ, cellA, cellsA, fillA, okParts, buildSliceA, buildMutA, makeSliceA, partIdx, elemsA, lensA, ifaceA, convA, mmA, pickA, okAll, stAll, opsA, partsA, partsOk, opA, allocA, boxMutA, newCells, okCells, storeObj, appendA, guardV, taA, nM, mapUpA, rangeA, nextA, entryA, lookA, sliceA, sliceM, sliceS, boundsA, opO, okO, copyA, dstOk, nilA, quietOk, nilSliceOp, deferV, panA, resA, argFr, retA.eq_1, retA.eq_2, Nat.reduceAdd, Nat.reduceSub, Nat.reduceMul, Nat.reduceLT, Nat.reduceLeDiff, Nat.reduceEqDiff, Nat.reduceBEq, Int.reduceAdd, Int.reduceSub, Int.reduceMul, Int.reduceNeg, Int.reduceLE, Int.reduceLT, Int.reduceEq, Int.reduceNe, Int.reduceToNat, ↓reduceIte, reduceCtorEq, implies_true, forall_const, eq_self, ne_eq, wtAll, Tryz.ntmps33, Tryz.results33, hh_io]) ?_ | refine HSub_drop2 (by simp only [eq_self, hh_io]) ?_ | refine HSub_keep_eq (by simp only [vsAll, binA, binLitA, intA, aggA, aggV, boolA, nilA2, isConst, unA, loadA, loadRow, partA, partOk, fieldAddrA, indexAddrA, indexA, fieldA, extractA, lenA, nilCheckA, boxA, boxZ, cellA, cellsA, fillA, okParts, buildSliceA, buildMutA, makeSliceA, partIdx, elemsA, lensA, ifaceA, convA, mmA, pickA, okAll, stAll, opsA, partsA, partsOk, opA, allocA, boxMutA, newCells, okCells, storeObj, appendA, guardV, taA, nM, mapUpA, rangeA, nextA, entryA, lookA, sliceA, sliceM, sliceS, boundsA, opO, okO, copyA, dstOk, nilA, quietOk, nilSliceOp, deferV, panA, resA, argFr, retA.eq_1, retA.eq_2, Nat.reduceAdd, Nat.reduceSub, Nat.reduceMul, Nat.reduceLT, Nat.reduceLeDiff, Nat.reduceEqDiff, Nat.reduceBEq, Int.reduceAdd, Int.reduceSub, Int.reduceMul, Int.reduceNeg, Int.reduceLE, Int.reduceLT, Int.reduceEq, Int.reduceNe, Int.reduceToNat, ↓reduceIte, reduceCtorEq, implies_true, forall_const, eq_self, ne_eq, wtAll, Tryz.ntmps33, Tryz.results33, hh_io]) ?_)))
end Go.Proofs.YtclkjifgipcamaaGreat
end
section
set_option linter.unusedVariables false
set_option linter.unusedSimpArgs false
set_option maxHeartbeats 8000000
set_option maxRecDepth 100000
namespace Go.Proofs.YtclkjifgipcamaaGreat
open Go.V
theorem isSorted_tri (l : List Int) (H : Hp) (hl : 1 ≤ l.length ∧ l.length ≤ 6) (hr : ∀ i, i < l.length → 0 ≤ l.getD i 0 ∧ l.getD i 0 < 6) : Tri Tryz.prog (fnA 34) [intsAV l] H fun r H' => H' = H ∧ ∃ v, r = .ret (boo v) := by
 refine tri_v0 (fun _ => false) Tryz.func34 (by kernel_rfl) rfl (by simp only [List.length_append, List.length_cons, List.length_nil, Tryz.ntmps34]; decide) ?_
 simp only [vsAll, binA, binLitA, intA, lenA, opA, dstOk, nilSliceOp, argFr, Nat.reduceLT, ↓reduceIte, reduceCtorEq, eq_self, wtAll, Tryz.ntmps34]
 refine ⟨by simp only [InR_i64]; omega, ?_⟩
 refine vs_loop (σ := Nat) (fun i => i < l.length) (fun i => [(0, intsAV l), (3, i64 i)]) (fun _ => H) (fun i => i) (l.length - 1) (by show l.length - 1 < l.length; omega) ?_ HSub_rfl fun i hi => ?_
 ·have e : ((l.length - 1 : Nat) : Int) = (l.length : Int) - 1 := by omega
  simp only [vsAll, argFr, ↓reduceIte, reduceCtorEq, eq_self, e]
 ·simp only [vsAll, binA, binLitA, intA, opA, dstOk, Nat.reduceLT, ↓reduceIte, reduceCtorEq, eq_self]
  refine condD (fun hd => ?_) (fun hd => ?_)
  ·have ez : ((i : Int) - 1).toNat = i - 1 := by omega
   have ec : ((i - 1 : Nat) : Int) = (i : Int) - 1 := by omega
   simp only [vsAll]
   refine vs_draw2 [0, 0, 0, 0, 0, 0, 0, 0, 0, 0] [] [0, 1, 2, 3, 4, 5, 6, 7, 8, 9] (by decide +kernel) ?_
   simp only [vsAll, binA, binLitA, intA, loadA, loadRow, partA, partOk, indexAddrA, opA, dstOk, Nat.reduceLT, Nat.reduceEqDiff, ↓reduceIte, reduceCtorEq, eq_self, wtAll, intF_at, ez]
   refine ⟨⟨by omega, by omega⟩, by omega, by simp only [InR_i64]; omega, ⟨by omega, by omega⟩, by omega, qcall _ ⟨trivial, by simp only [vsAll, okAll, opsA, opA, Nat.reduceEqDiff, ↓reduceIte, eq_self], less_tri _ _ _⟩ ?_⟩
   simp only [vsAll, opA, ↓reduceIte, eq_self]
   refine condD (fun hc => ?_) (fun hc => ?_)
   ·simp only [vsAll, opA, dstOk, nilSliceOp, resA, retA.eq_1, Nat.reduceLT, ↓reduceIte, eq_self, Tryz.results34]
    exact ⟨false, rfl⟩
   ·simp only [vsAll, binA, binLitA, intA, opA, dstOk, nilSliceOp, Nat.reduceLT, Nat.reduceEqDiff, ↓reduceIte, reduceCtorEq, eq_self]
    refine ⟨by simp only [InR_i64]; omega, loop_next (i - 1) (by show i - 1 < l.length; omega) (by omega) ?_ HSub_rfl⟩
    simp only [vsAll, ↓reduceIte, reduceCtorEq, eq_self, ec]
  ·simp only [vsAll, opA, dstOk, nilSliceOp, resA, retA.eq_1, Nat.reduceLT, ↓reduceIte, eq_self, Tryz.results34]
   exact ⟨true, rfl⟩
theorem pcan_tri (d : Dr) (b : Nat → Int) (o : Int) (H : Hp) (hn : d.lim.length ≤ 6) (ho : 0 ≤ o ∧ o < d.lim.length) : PTri Tryz.prog (.func (.func 138) [] [.rptr 1 1 (fun _ => [hP d]) 0 0, .rptr 6 1 (blF b) 0 0]) [i64 o] H (boo (decide (b o.toNat ≥ d.lim.getD o.toNat 0))) := by
 refine tri_v0 (fun _ => false) Tryz.func138 (by kernel_rfl) rfl (by simp only [List.length_append, List.length_cons, List.length_nil, Tryz.ntmps138]; decide) ?_
 simp only [vsAll, loadA, loadRow, partA, partOk, okAll, stAll, opsA, opA, dstOk, nilSliceOp, argFr, Nat.reduceLT, Nat.reduceEqDiff, ↓reduceIte, reduceCtorEq, eq_self, wtAll, Tryz.ntmps138]
 refine callK_pure (can_tri d b o _ ho hn) ?_
 simp only [vsAll, opA, dstOk, nilSliceOp, resA, retA.eq_1, Nat.reduceLT, ↓reduceIte, eq_self, Tryz.results138]
theorem SrtI.surj {n : Nat} {g : Nat → Int} (h : SrtI n g) {s : Nat} (hs : s < n) : ∃ p, p < n ∧ g p = s := by
 apply Classical.byContradiction
 intro hc
 have hne : ∀ p, p < n → g p ≠ s := fun p hp e => hc ⟨p, hp, e⟩
 have hnd : (s :: (List.range n).map fun p => (g p).toNat).Nodup := by
  rw [List.nodup_cons]
  refine ⟨fun hm => ?_, ?_⟩
  ·obtain ⟨p, hp, e⟩ := List.mem_map.1 hm
   have := h.r p (List.mem_range.1 hp)
   exact hne p (List.mem_range.1 hp) (by omega)
  ·rw [List.Nodup, List.pairwise_map]
   refine List.Pairwise.imp_of_mem (fun {a b} ha hb hab e => ?_) (List.nodup_range (n := n))
   have h1 := h.r a (List.mem_range.1 ha)
   have h2 := h.r b (List.mem_range.1 hb)
   exact hab (h.inj a b (List.mem_range.1 ha) (List.mem_range.1 hb) (by omega))
 have hle := nodup_le hnd (b := List.range n) (fun x hx => by
  rcases List.mem_cons.1 hx with rfl | hx
  ·exact List.mem_range.2 hs
  ·obtain ⟨p, hp, rfl⟩ := List.mem_map.1 hx
   have := h.r p (List.mem_range.1 hp)
   exact List.mem_range.2 (by omega))
 simp at hle
 omega
end Go.Proofs.YtclkjifgipcamaaGreat
end
section
set_option linter.unusedVariables false
set_option linter.unusedSimpArgs false
namespace Go.V
set_option linter.unusedSectionVars false
variable [Inhabited GivT]
section
variable {P : Program} {m : Option Tmp → Bool} {n : Nat} {k : List It} {s : Fr} {ds : List AD} {H : Hp} {Q : Post}
theorem vs_rangeP {g : Operand} {ps : Array Tmp} {assign body : Code} {f : FuncId} {fn : Func} {c : Code} {caps : List AV} {σ : Type} (L : List (List AV)) (inv : Nat → σ → Prop) (hp : Nat → σ → Hp) (x0 : σ) (E0 : Hp) (hap : Apart (hp 0 x0) E0)
  (hf : P.funcs[f]? = some fn) (hname : (fn.name == "runtime.NumGoroutine") = false) (hb : fn.body = some c)
  (hg : (opA s g).ok) (hgv : (opA s g).st = .func (.func f) [] caps) (hps : ∀ t ∈ ps.toList, t < n) (hpl : ∀ x ∈ L, x.length = ps.size)
  (hit : ∀ yf H K, Apart H E0 → IterE P (.func yf [] []) L H K → Tri P (.func (.func f) [] caps) [.func yf [] []] (mrg H E0) fun r H' => (∃ v, r = .ret v) ∧ K H')
  (h0 : inv 0 x0) (hH : Go.V.HSub H (mrg (hp 0 x0) E0)) (hfr : ∀ i x, inv i x → ∀ id, hp i x id = none ↔ hp 0 x0 id = none)
  (round : ∀ (E : Hp) i v x, L[i]? = some v → inv i x → Apart (hp 0 x0) E → ∀ lid did l (lo : LoopState → Option Code → Obj), hp 0 x0 lid = none → hp 0 x0 did = none → lid ≠ did → E lid = none → E did = none →
   VS (some l) P m n [.code assign] (putAll s ps.toList v) [] (((mrg (hp i x) E).set did (.raw (.deferred (some [])))).set lid (lo .ready none)) (AsgE P m n l body (fun nx => ∃ x', inv (i + 1) x' ∧ nx = mrg (hp (i + 1) x') E) lid did lo))
  (fin : ∀ x, inv L.length x → ∀ lid did (lo : LoopState → Option Code → Obj), hp 0 x0 lid = none → hp 0 x0 did = none → lid ≠ did →
   VS none P m n k s (.mark did :: ds) (((hp L.length x).set did (.raw (.deferred (some [])))).set lid (lo .exhausted none)) Q) :
  VS none P m n (.code (.rangeFunc g ps assign body) :: k) s ds H Q := by
 show WPS none P n (.rangeFunc g ps assign body) s ds H (TK none P m n k Q)
 refine wps_ent (Ent.weak (s' := s) (fun t => AV.Le.refl _) hH ?_)
 refine wps_range hg hgv hf hname hb fun lid did l h1' h2' h3 => ?_
 obtain ⟨h1, e1⟩ := mrg_fresh h1'
 obtain ⟨h2, e2⟩ := mrg_fresh h2'
 let lo : LoopState → Option Code → Obj := fun st pd => .loop l n s ps assign body st pd did
 let G : Nat → σ → Hp := fun i x => ((hp i x).set did (.raw (.deferred (some [])))).set lid (lo .ready none)
 let K : Hp → Prop := fun H' => ∃ st pend, H' lid = some (lo st pend) ∧ st ≠ .busy ∧ jumpQ pend fun x => VX none P m n k x s (.mark did :: ds) (H'.set lid (lo .exhausted pend)) Q
 have eG0 : (((mrg (hp 0 x0) E0).set did (.raw (.deferred (some [])))).set lid (lo .ready none)) = mrg (G 0 x0) E0 := by
  show _ = mrg ((((hp 0 x0)).set did (.raw (.deferred (some [])))).set lid (lo .ready none)) E0
  rw [mrg_setA e1, mrg_setA e2]
 have hapG : Apart (G 0 x0) E0 := (hap.setA _ e2).setA _ e1
 have HIT := hit (.yield l) (G 0 x0) K hapG
 rw [← eG0] at HIT
 refine ⟨_, HIT ?_, ?_⟩
 ·refine iter_seqE (G := G) (inv := inv) (B := G 0 x0) (fun i x hi q => ?_) (fun i v x hv hi E hE => ?_) (fun x hi => ⟨.ready, none, Hp.set_same _ _ _, by simp, ?_⟩) x0 h0
  ·simp only [G, Hp.set]
   by_cases e1 : q = lid
   ·simp [e1]
   ·rw [if_neg e1, if_neg e1]
    by_cases e2 : q = did
    ·simp [e2]
    ·rw [if_neg e2, if_neg e2]; exact hfr i x hi q
  ·have n1 : E lid = none := hE.E (by simp only [G, Hp.set_same]; exact Option.some_ne_none _)
   have n2 : E did = none := hE.E (by
    have : G 0 x0 did = some (.raw (.deferred (some []))) := by
     simp only [G]
     rw [Hp.set_ne _ _ (fun e => h3 e.symm), Hp.set_same]
    rw [this]; exact Option.some_ne_none _)
   have hE0 : Apart (hp 0 x0) E := fun j hj => by
    have := hE j hj
    simp only [G] at this
    rw [Hp.set_ne _ _ (fun e => by subst e; exact hj n1), Hp.set_ne _ _ (fun e => by subst e; exact hj n2)] at this
    exact this
   have ec : ∀ (A : Hp) X Y, mrg ((A.set did X).set lid Y) E = ((mrg A E).set did X).set lid Y := fun A X Y => by
    rw [mrg_setA n1, mrg_setA n2]
   have eG : mrg (G i x) E = ((mrg (hp i x) E).set did (.raw (.deferred (some [])))).set lid (lo .ready none) := ec _ _ _
   rw [eG]
   refine Tri.drop ?_
   refine tri_yield (lid := lid) (n := n) (s := s) (ps := ps) (assign := assign) (body := body) (did := did) (Hp.set_same _ _ _) (hpl v (List.mem_of_getElem? hv)) hps ?_
   refine (vcC_sound assign (round E i v x hv hi hE0 lid did l lo h1 h2 h3 n1 n2)).mono ?_
   intro x1 s1 ds1 H1 hq
   cases x1 with
   | normal =>
     obtain ⟨q1, q2⟩ := hq
     refine ⟨rfl, q1, (vcC_sound body q2).mono ?_⟩
     intro x2 s2 ds2 H2 hq2
     cases x2 with
     | normal =>
       obtain ⟨⟨st, pd, ho⟩, nx, ⟨x', hi', rfl⟩, hsub⟩ := hq2
       exact ⟨st, pd, ho, _, HSub.reset hsub, rfl, x', hi', (ec _ _ _).symm⟩
     | _ => exact hq2.elim
   | _ => exact hq.elim
  ·simp only [jumpQ, G, Hp.set_set]
   exact fin x hi lid did lo h1 h2 h3
 ·rintro r H' ⟨⟨v, rfl⟩, st, pend, ho, hst, hj⟩
  exact ⟨st, pend, ho, hst, hj⟩
end
end Go.V
end
section
set_option linter.unusedVariables false
set_option linter.unusedSimpArgs false
set_option maxHeartbeats 8000000
set_option maxRecDepth 100000
namespace Go.Proofs.YtclkjifgipcamaaGreat
open Go.V
def pkR : Option Nat → AV
 | some s => .tuple [i64 s, boo true]
 | none => .tuple [i64 0, boo false]
/-- Who picks the next seam. -/
structure Pk (d : Dr) (pv : AV) (pk : (Nat → Int) → Option Nat) : Prop where
 tri : ∀ b H, PTri Tryz.prog (.func (.method "caulkworks/drive.pick") [] []) [pv, hP d, blAV b] H (pkR (pk b))
 yes : ∀ {b s}, pk b = some s → s < d.lim.length ∧ d.lim.getD s 0 ≤ b s
 no : ∀ {b}, pk b = none → ∀ s, s < d.lim.length → b s < d.lim.getD s 0
theorem meth78 : methT Tryz.prog 78 "caulkworks/drive.pick" 137 := fun v args w => by kernel_rfl
theorem meth83 : methT Tryz.prog 83 "caulkworks/drive.pick" 139 := fun v args w => by kernel_rfl
def pkO (d : Dr) (l : List Int) (b : Nat → Int) : Option Nat := (firstI (fun o => decide (b o.toNat ≥ d.lim.getD o.toNat 0)) l).map fun i => (l.getD i 0).toNat
def pkU (d : Dr) (b : Nat → Int) : Option Nat := (List.range d.lim.length).find? fun s => decide (d.lim.getD s 0 ≤ b s)
theorem ordered_pk {d : Dr} {l : List Int} (k : OkD d) (hl : SrtL l d.lim.length) : Pk d (.iface 78 (.agg [intsAV l])) (pkO d l) := by
 obtain ⟨hl, hg⟩ := hl
 have n6 := k.n6
 have hr : ∀ i, i < l.length → 0 ≤ l.getD i 0 ∧ l.getD i 0 < d.lim.length := fun i hi => hg.r i (by omega)
 refine ⟨fun b H => tri_inv meth78 ?_, fun {b s} h => ?_, fun {b} h s hs => ?_⟩
 ·refine tri_v0 (fun _ => false) Tryz.func137 (by kernel_rfl) rfl (by simp only [List.length_append, List.length_cons, List.length_nil, Tryz.ntmps137]; decide) ?_
  simp only [vsAll, loadA, loadRow, partA, partOk, fieldAddrA, boxA, boxZ, cellA, okAll, stAll, opsA, opA, dstOk, nilSliceOp, argFr, Nat.reduceLT, Nat.reduceEqDiff, ↓reduceIte, eq_self, wtAll, Tryz.ntmps137]
  refine callK_pure (indexI_tri (fun o => decide (b o.toNat ≥ d.lim.getD o.toNat 0)) l _ _ (by omega) (by trivial) rfl (fun i hi => pcan_tri d b (l.getD i 0) _ n6 (hr i hi))) ?_
  simp only [vsAll, binA, binLitA, intA, opA, dstOk, nilSliceOp, Nat.reduceLT, ↓reduceIte, eq_self]
  cases hf : firstI (fun o => decide (b o.toNat ≥ d.lim.getD o.toNat 0)) l with
  | none =>
    have ez : firstZ (fun o => decide (b o.toNat ≥ d.lim.getD o.toNat 0)) l = -1 := by unfold firstZ; rw [hf]
    have c1 : decide ((-1 : Int) < 0) = true := by decide
    have e : pkO d l b = none := by unfold pkO; rw [hf]; rfl
    simp only [vsAll, opA, dstOk, nilSliceOp, resA, retA.eq_2, Nat.reduceLT, Nat.reduceEqDiff, Int.reduceNeg, Int.reduceLT, ↓reduceIte, eq_self, Tryz.results137, ez, e, pkR]
  | some i =>
    have ez : firstZ (fun o => decide (b o.toNat ≥ d.lim.getD o.toNat 0)) l = (i : Int) := by unfold firstZ; rw [hf]
    have e : pkO d l b = some (l.getD i 0).toNat := by unfold pkO; rw [hf]; rfl
    unfold firstI at hf
    rw [List.find?_range_eq_some] at hf
    obtain ⟨h1, h2, _⟩ := hf
    have hi := List.mem_range.1 h2
    have c1 : decide ((i : Int) < 0) = false := decide_eq_false (by omega)
    have hri := hr i hi
    have e2 : (((l.getD i 0).toNat : Nat) : Int) = l.getD i 0 := by omega
    simp only [vsAll, loadA, loadRow, partA, partOk, fieldAddrA, indexAddrA, opA, dstOk, nilSliceOp, resA, retA.eq_2, Nat.reduceLT, Nat.reduceEqDiff, ↓reduceIte, eq_self, wtAll, Tryz.results137, ez, c1, intF_at, e, pkR, e2]
    exact ⟨⟨by omega, by omega⟩, hi⟩
 ·unfold pkO at h
  rw [Option.map_eq_some_iff] at h
  obtain ⟨i, hf, rfl⟩ := h
  unfold firstI at hf
  rw [List.find?_range_eq_some] at hf
  obtain ⟨h1, h2, _⟩ := hf
  have hri := hr i (List.mem_range.1 h2)
  exact ⟨by omega, of_decide_eq_true h1⟩
 ·unfold pkO at h
  rw [Option.map_eq_none_iff] at h
  unfold firstI at h
  rw [List.find?_range_eq_none] at h
  obtain ⟨p, hp, e⟩ := hg.surj hs
  have := h p (by omega)
  simp only [e, Int.toNat_natCast, Bool.not_eq_true', decide_eq_false_iff_not] at this
  omega
theorem rising_pk {d : Dr} {l : List Int} (k : OkD d) (hl : l.length = d.lim.length) : Pk d (.iface 83 (.agg [intsAV l])) (pkU d) := by
 have n6 := k.n6
 refine ⟨fun b H => tri_inv meth83 ?_, fun {b s} h => ?_, fun {b} h s hs => ?_⟩
 ·refine tri_v0 (fun _ => false) Tryz.func139 (by kernel_rfl) rfl (by simp only [List.length_append, List.length_cons, List.length_nil, Tryz.ntmps139]; decide) ?_
  simp only [vsAll, loadA, loadRow, partA, partOk, fieldAddrA, lenA, boxA, boxZ, opA, dstOk, nilSliceOp, argFr, Nat.reduceLT, Nat.reduceEqDiff, ↓reduceIte, eq_self, wtAll, Tryz.ntmps139, hl]
  refine vs_loop (σ := Nat) (fun i => i ≤ d.lim.length ∧ ∀ s, s < i → b s < d.lim.getD s 0) (fun i => [(1, hP d), (5, .rptr 6 1 (blF b) 0 0), (12, i64 d.lim.length), (13, i64 i)]) (fun _ => H) (fun i => d.lim.length - i) 0 ⟨Nat.zero_le _, fun s hs => absurd hs (Nat.not_lt_zero s)⟩ ?_ HSub_rfl fun i hi => ?_
  ·simp only [vsAll, argFr, Nat.reduceEqDiff, ↓reduceIte, eq_self, Int.natCast_zero]
  ·obtain ⟨hi, hb⟩ := hi
   simp only [vsAll, binA, binLitA, intA, opA, dstOk, Nat.reduceLT, Nat.reduceEqDiff, ↓reduceIte, eq_self]
   refine condD (fun hd => ?_) (fun hd => ?_)
   ·have hil : i < d.lim.length := by omega
    simp only [vsAll, loadA, loadRow, okAll, stAll, opsA, opA, dstOk, nilSliceOp, Nat.reduceLT, Nat.reduceEqDiff, ↓reduceIte, eq_self, wtAll]
    refine callK_pure (can_tri d b i _ (by omega) n6) ?_
    rw [Int.toNat_natCast]
    simp only [vsAll, opA, ↓reduceIte, eq_self]
    refine condD (fun hc => ?_) (fun hc => ?_)
    ·have e : pkU d b = some i := List.find?_range_eq_some.2 ⟨decide_eq_true hc, List.mem_range.2 hil, fun j hj => by
      have := hb j hj
      rw [Bool.not_eq_true', decide_eq_false_iff_not]; omega⟩
     simp only [vsAll, opA, dstOk, nilSliceOp, resA, retA.eq_2, Nat.reduceLT, Nat.reduceEqDiff, ↓reduceIte, eq_self, Tryz.results139, e, pkR]
    ·simp only [vsAll, binA, binLitA, intA, opA, dstOk, Nat.reduceLT, Nat.reduceEqDiff, ↓reduceIte, eq_self]
     refine ⟨by simp only [InR_i64]; omega, loop_next (i + 1) ⟨hil, fun s hs => ?_⟩ (by omega) ?_ HSub_rfl⟩
     ·by_cases e : s = i
      ·subst e; omega
      ·exact hb s (by omega)
     ·simp only [vsAll, Nat.reduceEqDiff, ↓reduceIte, eq_self, Int.natCast_add, Int.natCast_one]
   ·have ei : i = d.lim.length := by omega
    subst ei
    have e : pkU d b = none := List.find?_range_eq_none.2 fun j hj => by
     have := hb j hj
     rw [Bool.not_eq_true', decide_eq_false_iff_not]; omega
    simp only [vsAll, opA, dstOk, nilSliceOp, resA, retA.eq_2, Nat.reduceLT, Nat.reduceEqDiff, ↓reduceIte, eq_self, Tryz.results139, e, pkR]
 ·have h := List.find?_range_eq_some.1 h
  exact ⟨List.mem_range.1 h.2.1, of_decide_eq_true h.1⟩
 ·have := List.find?_range_eq_none.1 h s hs
  rw [Bool.not_eq_true', decide_eq_false_iff_not] at this
  omega
/-- What is told of, one seam after another. -/
def runL (d : Dr) (pk : (Nat → Int) → Option Nat) : Nat → (Nat → Int) → List (Nat × (Nat → Int))
 | 0, _ => []
 | n + 1, b => match pk b with
   | none => []
   | some s => (s, d.dv.fire b s 1) :: runL d pk n (d.dv.fire b s 1)
theorem runL_len (d : Dr) (pk : (Nat → Int) → Option Nat) : ∀ n b, (runL d pk n b).length ≤ n
 | 0, _ => Nat.zero_le _
 | n + 1, b => by
   unfold runL
   cases pk b with
   | none => exact Nat.zero_le _
   | some s => have := runL_len d pk n (d.dv.fire b s 1); simp; omega
theorem runL_run {d : Dr} {pv : AV} {pk : (Nat → Int) → Option Nat} (k : OkD d) (hp : Pk d pv pk) {b : Nat → Int} (hb : BlO d b) :
  ∀ (n : Nat) u, d.dv.Run b u → d.dv.tot (d.dv.res b u) < n → ∃ w, d.dv.Run b w ∧ d.dv.Still b w ∧ ∀ i, w i = u i + (((runL d pk n (d.dv.res b u)).map (·.1)).count i : Nat)
 | 0, u, hr, ht => by
   have := hb.bd k hr
   omega
 | n + 1, u, hr, ht => by
   unfold runL
   cases hk : pk (d.dv.res b u) with
   | none => exact ⟨u, hr, fun i hi => hp.no hk i hi, fun i => by simp⟩
   | some s =>
     obtain ⟨h1, h2⟩ := hp.yes hk
     have htot := Dv.fire_tot (dv_ok k) (d.dv.res b u) (show s < d.dv.n from h1) (k := (1 : Int)) (by omega)
     have hup := Dv.res_up d.dv b u (show s < d.dv.n from h1) 1
     obtain ⟨w, w1, w2, w3⟩ := runL_run k hp hb n (upZ u s 1) (.step hr h1 h2) (by rw [hup]; omega)
     refine ⟨w, w1, w2, fun i => ?_⟩
     rw [w3 i, hup, List.map_cons, List.count_cons]
     unfold upZ
     by_cases e : i = s
     ·subst e; simp; omega
     ·have : ¬ s = i := fun q => e q.symm
      simp [e, this]
def ylB (L : List (Nat × (Nat → Int))) : List (List AV) := L.map fun x => [i64 x.1, blAV x.2]
theorem runL_lt {d : Dr} {pv : AV} {pk : (Nat → Int) → Option Nat} (hp : Pk d pv pk) : ∀ n b x, x ∈ runL d pk n b → x.1 < d.lim.length
 | n + 1, b, x, h => by
   unfold runL at h
   cases hk : pk b with
   | none => rw [hk] at h; cases h
   | some s =>
     rw [hk] at h
     rcases List.mem_cons.1 h with rfl | h
     ·exact (hp.yes hk).1
     ·exact runL_lt hp n _ x h
abbrev stA (d : Dr) (pv : AV) (ib : Nat) : AV := .func (.func 70) [] [.rptr 1 1 (fun _ => [pv]) 0 0, .rptr 1 1 (fun _ => [hP d]) 0 0, .ref ib 0 1 0 0]
def stepsR (d : Dr) (b : Nat → Int) (pv : AV) (H : Hp) : Res → Hp → Prop := fun r H' => ∃ ib, H ib = none ∧ r = .ret (stA d pv ib) ∧ H' = H.set ib (.box 1 6 (blF b))
theorem steps_tri (d : Dr) (b : Nat → Int) (T : Nat) (w : AV) (H : Hp) : Tri Tryz.prog (fnA 35) [hP d, blAV b, .iface T w] H (stepsR d b (.iface T w) H) := by
 refine Tri.drop ?_
 refine tri_v0 (mset [4]) Tryz.func35 (by kernel_rfl) rfl (by simp only [List.length_append, List.length_cons, List.length_nil, Tryz.ntmps35]; decide) ?_
 simp only [vsAll, boxA, boxZ, cellA, okAll, stAll, opsA, opA, boxMutA, dstOk, nilSliceOp, resA, argFr, retA.eq_1, Nat.reduceLT, Nat.reduceEqDiff, Nat.reduceBEq, ↓reduceIte, eq_self, wtAll, Tryz.ntmps35, Tryz.results35]
 rw [show (fun (_ : Nat) => [hP d]) = fun _ => [hP d] from rfl]
 intro i hi
 exact ⟨_, HSub_rfl, i, hi, rfl, rfl⟩
/-- One seam after another, told of. -/
abbrev cel (ib : Nat) (b : Nat → Int) : Hp := Hp.set (fun _ => none) ib (.box 1 6 (blF b))
theorem cel_mrg (A : Hp) (ib : Nat) (b : Nat → Int) : mrg A (cel ib b) = A.set ib (.box 1 6 (blF b)) := by
 rw [mrg_setE, mrg_emp]
theorem cel_apart {A : Hp} {ib : Nat} {b : Nat → Int} (h : A ib = none) : Apart A (cel ib b) := (apart_emp A).setE _ h
theorem stp_tri {d : Dr} {T : Nat} {w : AV} {pk : (Nat → Int) → Option Nat} (k : OkD d) (hp : Pk d (.iface T w) pk) {b : Nat → Int} (hb : BlO d b) {ib : Nat} {yf : Fn} {K : Hp → Prop} (N : Nat) (H : Hp) (hib : H ib = none) (hN : d.dv.tot b < N)
  (hit : IterE Tryz.prog (.func yf [] []) (ylB (runL d pk N b)) H K) :
  Tri Tryz.prog (stA d (.iface T w) ib) [.func yf [] []] (H.set ib (.box 1 6 (blF b))) fun r H' => (∃ v, r = .ret v) ∧ K H' := by
 have n6 := k.n6
 have r0 : d.dv.res b (fun _ => 0) = b := Dv.res_zero _ _
 refine Tri.drop ?_
 refine tri_v0 (mset []) Tryz.func70 (by kernel_rfl) rfl (by simp only [List.length_append, List.length_cons, List.length_nil, Tryz.ntmps70]; decide) ?_
 simp only [vsAll, Tryz.ntmps70]
 refine vs_loop (σ := Nat × (Nat → Int) × Hp) (fun y => d.dv.Run b y.2.1 ∧ d.dv.tot (d.dv.res b y.2.1) < y.1 ∧ y.2.2 ib = none ∧ IterE Tryz.prog (.func yf [] []) (ylB (runL d pk y.1 (d.dv.res b y.2.1))) y.2.2 K)
  (fun y => [(0, .func yf [] []), (1, .rptr 1 1 (fun _ => [.iface T w]) 0 0), (2, .rptr 1 1 (fun _ => [hP d]) 0 0), (3, .ref ib 0 1 0 0)])
  (fun y => y.2.2.set ib (.box 1 6 (blF (d.dv.res b y.2.1)))) (fun y => y.1) (N, (fun _ => 0), H) ⟨.start, by rw [r0]; exact hN, hib, by rw [r0]; exact hit⟩ ?_ (by rw [r0]; exact HSub_rfl) fun y hy => ?_
 ·simp only [vsAll, argFr]
 ·obtain ⟨n, u, A⟩ := y
  obtain ⟨h1, h2, h3, h4⟩ := hy
  simp only [] at h1 h2 h3 h4
  have hbd := hb.bd k h1
  match n with
  | 0 => exact absurd h2 (by omega)
  | n + 1 =>
  unfold runL at h4
  simp only [vsAll, loadA, loadRow, partA, partOk, okAll, stAll, opsA, opA, dstOk, Nat.reduceLT, Nat.reduceEqDiff, ↓reduceIte, reduceCtorEq, eq_self, wtAll]
  refine callK_pure (hp.tri _ _) ?_
  cases hk : pk (d.dv.res b u) with
  | none =>
    rw [hk] at h4
    simp only [vsAll, unA, extractA, opA, dstOk, nilSliceOp, resA, retA.eq_2, Nat.reduceAdd, Nat.reduceLT, Nat.reduceEqDiff, ↓reduceIte, reduceCtorEq, eq_self, Tryz.results70, pkR]
    exact ⟨A, by rw [← cel_mrg]; exact mrg_sub _ _ (cel_apart h3), ⟨_, rfl⟩, h4⟩
  | some s =>
    rw [hk] at h4
    obtain ⟨y1, y2⟩ := hp.yes hk
    have htot := Dv.fire_tot (dv_ok k) (d.dv.res b u) (show s < d.dv.n from y1) (k := (1 : Int)) (by omega)
    have hup := Dv.res_up d.dv b u (show s < d.dv.n from y1) 1
    simp only [← hup] at h4 htot
    have h5 := h4 (cel ib (d.dv.res b (upZ u s 1))) (cel_apart h3)
    rw [cel_mrg] at h5
    simp only [vsAll, unA, loadA, loadRow, partA, partOk, extractA, okAll, stAll, opsA, opA, dstOk, nilSliceOp, Nat.reduceAdd, Nat.reduceLT, Nat.reduceEqDiff, ↓reduceIte, reduceCtorEq, eq_self, wtAll, pkR]
    refine callK_pure (opened_tri d (d.dv.res b u) s 1 _ k y1 (fun j _ => by have := hbd.1 j; omega) (by omega)) ?_
    rw [← hup]
    simp only [vsAll, loadA, loadRow, okAll, stAll, opsA, opA, storeObj, dstOk, Nat.reduceMul, Nat.reduceLT, Nat.reduceEqDiff, ↓reduceIte, reduceCtorEq, eq_self, wtAll]
    rw [Hp.set_set]
    refine ⟨fun q _ => ⟨rfl, trivial⟩, callK h5 ?_⟩
    rintro r H' ⟨rfl, H1, a1, rfl, a3⟩
    rw [cel_mrg]
    have a4 : H1 ib = none := a1 ib (by show Hp.set _ _ _ _ ≠ none; rw [Hp.set_same]; exact Option.some_ne_none _)
    simp only [vsAll, unA, opA, dstOk, Nat.reduceLT, ↓reduceIte, eq_self]
    exact loop_next (n, upZ u s 1, H1) ⟨.step h1 y1 y2, by show d.dv.tot (d.dv.res b (upZ u s 1)) < ((n : Nat) : Int); omega, a4, a3⟩ (by show n < n + 1; omega) (by simp only [vsAll, Nat.reduceEqDiff, ↓reduceIte, reduceCtorEq, eq_self]) HSub_rfl
def runR (d : Dr) (l : List Int) (H : Hp) : Res → Hp → Prop := fun r H' => H' = H ∧ ∃ (u : Nat → Int) (L : List Int), d.dv.Run (bOf l) u ∧ d.dv.Still (bOf l) u ∧ L.length ≤ 320 ∧ (∀ i, i < L.length → 0 ≤ L.getD i 0 ∧ L.getD i 0 < d.lim.length) ∧ (∀ i : Nat, u i = (L.count (i : Int) : Nat)) ∧ r = .ret (.tuple [intsAV L, i64 0])
def rnL (L : List (Nat × (Nat → Int))) : List Int := L.map fun x => (x.1 : Int)
theorem run_tri (d : Dr) (l o : List Int) (H : Hp) (k : OkD d) (hl : l.length = d.lim.length) (hb : ∀ i, i < l.length → 0 ≤ l.getD i 0 ∧ l.getD i 0 ≤ 52) (ho : SrtL o d.lim.length) : Tri Tryz.prog (fnA 9) [d.av, intsAV l, intsAV o] H (runR d l H) := by
 have n1 := k.n1
 have n6 := k.n6
 obtain ⟨hol, hog⟩ := ho
 have hO := bOf_o hl hb
 refine Tri.thawD (R1 := fun r H' => ∃ (u : Nat → Int) (L : List Int) (id : Nat), d.dv.Run (bOf l) u ∧ d.dv.Still (bOf l) u ∧ L.length ≤ 320 ∧ (∀ i, i < L.length → 0 ≤ L.getD i 0 ∧ L.getD i 0 < d.lim.length) ∧ (∀ i : Nat, u i = (L.count (i : Int) : Nat)) ∧ H id = none ∧ r = .ret (.tuple [.sl id 1 L.length, i64 0]) ∧ H' = H.set id (.row 1 L.length (intF L))) ?_ ?_
 ·refine Tri.drop ?_
  refine tri_wam ans32 Tryz.func9 (by kernel_rfl) rfl (by simp only [List.length_append, List.length_cons, List.length_nil, Tryz.ntmps9]; decide) ?_
  refine wps_cutG5 (m := mset [6, 7]) (σ := Nat × Nat × Nat × AV) (fun y => H y.1 = none ∧ H y.2.1 = none ∧ ¬ y.2.1 = y.1 ∧ ∃ pk, Pk d (.iface y.2.2.1 y.2.2.2) pk)
   (fun y => [(1, intsAV l), (6, .ref y.1 0 1 0 0), (7, .ref y.2.1 0 1 0 0), (8, hP d), (9, .iface y.2.2.1 y.2.2.2)])
   (fun y => (H.set y.1 (.box 1 1 fun _ => [.lit (.slice none 0 0)])).set y.2.1 (.box 1 1 fun _ => [i64 0])) (fun y => [.call 32 [.ref y.2.1 0 1 0 0]]) ?_ fun y hy => ?_
  ·simp only [vsAll, boxA, boxZ, okAll, stAll, opsA, opA, allocA, dstOk, deferV, argFr, Nat.reduceAdd, Nat.reduceLT, Nat.reduceBEq, ↓reduceIte, eq_self, wtAll, Tryz.ntmps9]
   intro i6 hh_i6; (try simp only [Hp.set_none, ite_none] at hh_i6); intro i7 hh_i7; (try simp only [ite_none] at hh_i7)
   have g : ¬ i7 = i6 ∧ H i6 = none ∧ H i7 = none := by simp_all
   obtain ⟨g1, g2, g3⟩ := g
   have g1' : ¬ i6 = i7 := fun e => g1 e.symm
   refine vs_draw2 [0, 0, 0, 0, 0, 0, 0, 0, 0, 1, 2] [([0, 1, 2, 3, 4, 5, 6, 7, 8], [], 9)] [10] (by decide +kernel) ?_
   simp only [vsAll, loadA, loadRow, partA, partOk, opA, dstOk, argFr, Nat.reduceLT, Nat.reduceEqDiff, ↓reduceIte, eq_self, wtAll]
   refine qcall _ ⟨trivial, by simp only [vsAll, okAll, opsA, opA, Nat.reduceEqDiff, ↓reduceIte, eq_self], areBlows_tri d l _ hl n6 hb⟩ ?_
   simp only [vsAll, loadA, loadRow, partA, partOk, opA, guardV, dstOk, argFr, Nat.reduceLT, Nat.reduceEqDiff, ↓reduceIte, eq_self, wtAll]
   refine qgcall (boo true) (fun g => ⟨by simp only [vsAll, opA], by simp only [vsAll, okAll, opsA, opA, Nat.reduceEqDiff, ↓reduceIte, eq_self], isOrder_tri d o _ k ⟨hol, hog⟩⟩) ?_
   simp only [vsAll, pickA, okAll, stAll, opsA, opA, dstOk, Nat.reduceLT, Nat.reduceEqDiff, ↓reduceIte, implies_true, eq_self]
   refine open_call k (fun _ => ?_) (fun hv => by cases hv)
   simp only [vsAll, cellA, cellsA, fillA, okParts, ifaceA, okAll, stAll, opsA, partsA, partsOk, opA, dstOk, nilSliceOp, argFr, Nat.reduceLT, Nat.reduceEqDiff, Nat.reduceBEq, ↓reduceIte, eq_self, wtAll]
   refine callK (isSorted_tri o _ (by ((try clear hh_i6 hh_i7); omega)) fun i hi => by have := hog.r i (by ((try clear hh_i6 hh_i7); omega)); ((try clear hh_i6 hh_i7); omega)) ?_
   rintro r H' ⟨rfl, v, rfl⟩
   cases v
   ·simp only [vsAll, opA, ↓reduceIte, eq_self]
    exact cutG_of (i6, i7, 78, .agg [intsAV o]) ⟨g2, g3, g1, _, ordered_pk k ⟨hol, hog⟩⟩ (by simp only [vsAll, argFr, Nat.reduceEqDiff, ↓reduceIte, eq_self]) rfl HSub_rfl
   ·simp only [vsAll, cellA, cellsA, fillA, okParts, ifaceA, partsA, partsOk, opA, dstOk, nilSliceOp, argFr, Nat.reduceLT, Nat.reduceEqDiff, Nat.reduceBEq, ↓reduceIte, eq_self, wtAll]
    exact cutG_of (i6, i7, 83, .agg [intsAV o]) ⟨g2, g3, g1, _, rising_pk k hol⟩ (by simp only [vsAll, argFr, Nat.reduceEqDiff, ↓reduceIte, eq_self]) rfl HSub_rfl
  ·obtain ⟨i6, i7, T, w⟩ := y
   obtain ⟨c1, c2, c3, pk, hpk⟩ := hy
   simp only [] at c1 c2 c3 hpk
   have c3' : ¬ i6 = i7 := fun e => c3 e.symm
   refine wps_vs (m := mset [6, 7]) ?_
   let Lr := runL d pk 320 (bOf l)
   have htot : d.dv.tot (bOf l) < (320 : Nat) := by
    have := (hO.bd k .start).2.2.2
    rw [Dv.res_zero] at this
    show d.dv.tot (bOf l) < 320
    omega
   have hlen : Lr.length ≤ 320 := runL_len d pk 320 (bOf l)
   have hrl : (rnL Lr).length = Lr.length := by unfold rnL; exact List.length_map _
   simp only []
   skip
   simp only [vsAll, okAll, stAll, opsA, opA, dstOk, Nat.reduceLT, Nat.reduceEqDiff, ↓reduceIte, eq_self, Tryz.ntmps9]
   refine callK_pure (blowsOf_tri l _ (by ((try clear c1 c2 c3 c3'); omega))) ?_
   simp only [vsAll, okAll, stAll, opsA, opA, dstOk, Nat.reduceLT, Nat.reduceEqDiff, ↓reduceIte, eq_self]
   refine callK (steps_tri d (bOf l) T w _) ?_
   rintro r H' ⟨ib, hib, rfl, rfl⟩
   simp only [Hp.set_none] at hib
   obtain ⟨⟨b2, b2'⟩, ⟨b1, b1'⟩, b0⟩ := hib
   simp only [vsAll]
   have hb6 : (((H.set i6 (.box 1 1 fun _ => [.lit (.slice none 0 0)])).set i7 (.box 1 1 fun _ => [i64 0])).set ib (.box 1 6 (blF (bOf l)))) i6 = some (.box 1 1 fun _ => [.lit (.slice none 0 0)]) := by rw [Hp.set_ne _ _ b1', Hp.set_ne _ _ c3', Hp.set_same]
   refine vs_entF (Ent.nilBox 1 (intF (rnL Lr)) (fun id _ => [.sl id 1 0]) hb6 (fun _ _ _ => rfl) (fun id q d hq hd => ?_) fun ir hir => ?_)
   ·match d, hd with
    | 0, _ => exact .hit
   simp only [Hp.set_none] at hir
   obtain ⟨⟨r3, r3'⟩, ⟨r2, r2'⟩, ⟨r1, r1'⟩, r0⟩ := hir
   skip
   refine vs_rangeP (σ := Unit) (caps := [.rptr 1 1 (fun _ => [.iface T w]) 0 0, .rptr 1 1 (fun _ => [hP d]) 0 0, .ref ib 0 1 0 0]) (ylB Lr) (fun i _ => i ≤ Lr.length)
    (fun i _ => ((H.set i7 (.box 1 1 fun _ => [i64 0])).set ir (.row 1 i (intF (rnL Lr)))).set i6 (.box 1 1 fun _ => [.sl ir 1 i])) () (cel ib (bOf l)) (cel_apart (by simp only [vsAll, ↓reduceIte, eq_self, r3', b0, b1, b2])) Tryz.func70 (by kernel_rfl) rfl (by simp only [vsAll, opA, ↓reduceIte, eq_self]) (by simp only [vsAll, opA, ↓reduceIte, eq_self]) (by decide) (fun v hv => by obtain ⟨q, _, rfl⟩ := List.mem_map.1 hv; rfl)
    (fun yf H' K hap hi => by
     rw [cel_mrg]
     exact stp_tri k hpk hO 320 H' (hap ib (by show Hp.set _ _ _ _ ≠ none; rw [Hp.set_same]; exact Option.some_ne_none _)) htot hi) (Nat.zero_le _) ?_ ?_ ?_ ?_
   ·rw [cel_mrg]
    (refine HSub_eqn fun jj => ?_; refine (Classical.em (jj = ib)).elim (fun E0 => by rw [E0]; first | (left; simp only [vsAll, ↓reduceIte, reduceCtorEq, eq_self]; done) | (right; simp only [vsAll, ↓reduceIte, eq_self, r3', b1]; done)) (fun E0 => ?_); refine (Classical.em (jj = i6)).elim (fun E1 => by rw [E1]; first | (left; simp only [vsAll, ↓reduceIte, reduceCtorEq, eq_self, b1']; done) | (right; simp only [vsAll, ↓reduceIte, eq_self, b1']; done)) (fun E1 => ?_); refine (Classical.em (jj = ir)).elim (fun E2 => by rw [E2]; first | (left; simp only [vsAll, ↓reduceIte, reduceCtorEq, eq_self, r1, r3]; done) | (right; simp only [vsAll, ↓reduceIte, eq_self, r1, r3]; done)) (fun E2 => ?_); refine (Classical.em (jj = i7)).elim (fun E3 => by rw [E3]; first | (left; simp only [vsAll, ↓reduceIte, reduceCtorEq, eq_self, c3, r2', b2']; done) | (right; simp only [vsAll, ↓reduceIte, eq_self, c3, r2', b2']; done)) (fun E3 => ?_); right; simp only [vsAll, ↓reduceIte, eq_self, E0, E1, E2, E3])
   ·intro i _ _ q
    simp only [Hp.set]
    by_cases e1 : q = i6
    ·rw [if_pos e1, if_pos e1]; simp
    ·by_cases e2 : q = ir
     ·rw [if_neg e1, if_neg e1, if_pos e2, if_pos e2]; simp
     ·rw [if_neg e1, if_neg e1, if_neg e2, if_neg e2]
   ·rintro E i v ⟨⟩ hv hi ap lid did l' lo h1 h2 h3 e1 e2
    have q1 : E i6 = none := ap.E (by rw [Hp.set_same]; exact Option.some_ne_none _)
    have q2 : E ir = none := ap.E (by rw [Hp.set_ne _ _ r1, Hp.set_same]; exact Option.some_ne_none _)
    have q3 : E i7 = none := ap.E (by rw [Hp.set_ne _ _ c3, Hp.set_ne _ _ r2', Hp.set_same]; exact Option.some_ne_none _)
    have x1 : mrg H E ir = none := by rw [mrg_none q2]; exact r0
    have x2 : mrg H E i6 = none := by rw [mrg_none q1]; exact c1
    have x3 : mrg H E i7 = none := by rw [mrg_none q3]; exact c2
    simp only [Hp.set_none] at h1 h2
    obtain ⟨⟨f1, f1'⟩, ⟨f2, f2'⟩, ⟨f4, f4'⟩, f3⟩ := h1
    obtain ⟨⟨g1, g1'⟩, ⟨g2, g2'⟩, ⟨g4, g4'⟩, g3⟩ := h2
    have f3' : mrg H E lid = none := by rw [mrg_none e1]; exact f3
    have g3' : mrg H E did = none := by rw [mrg_none e2]; exact g3
    have eM : ∀ i, mrg (((H.set i7 (.box 1 1 fun _ => [i64 0])).set ir (.row 1 i (intF (rnL Lr)))).set i6 (.box 1 1 fun _ => [.sl ir 1 i])) E = (((mrg H E).set i7 (.box 1 1 fun _ => [i64 0])).set ir (.row 1 i (intF (rnL Lr)))).set i6 (.box 1 1 fun _ => [.sl ir 1 i]) := fun i => by rw [mrg_setA q1, mrg_setA q2, mrg_setA q3]
    simp only [eM]
    have h4 : ¬ did = lid := fun e => h3 e.symm
    generalize mrg H E = M at *
    obtain ⟨q, hq, rfl⟩ : ∃ q, Lr[i]? = some q ∧ v = [i64 q.1, blAV q.2] := by
     unfold ylB at hv
     rw [List.getElem?_map] at hv
     cases hz : Lr[i]? with
     | none => rw [hz] at hv; cases hv
     | some q => rw [hz] at hv; exact ⟨q, rfl, (Option.some.inj hv).symm⟩
    have hil := (List.getElem?_eq_some_iff.1 hq).1
    have hgi : (rnL Lr).getD i 0 = q.1 := by unfold rnL; rw [List.getD_eq_getElem?_getD, List.getElem?_map, hq]; rfl
    skip
    simp only [vsAll, loadA, loadRow, partA, partOk, cellA, cellsA, okParts, buildSliceA, partIdx, elemsA, lensA, partsA, partsOk, opA, newCells, okCells, storeObj, appendA, dstOk, quietOk, nilSliceOp, Nat.reduceMul, Nat.reduceLT, Nat.reduceLeDiff, Nat.reduceEqDiff, Nat.reduceBEq, ↓reduceIte, eq_self, wtAll, r1, r1', f1, f2, f1', f2', g1', g2', AsgE_normal, RndE_normal]
    refine ⟨fun j hj => ?_, by ((try clear c1 c2 c3 c3' r0 r1 r1' r2 r2' r3 r3' b0 b1 b1' b2 b2' h3 h4 f1 f2 f1' f2' g1 g2 g1' g2' f4 f4' g4 g4' x1 x2 x3 f3' g3'); omega), by ((try clear c1 c2 c3 c3' r0 r1 r1' r2 r2' r3 r3' b0 b1 b1' b2 b2' h3 h4 f1 f2 f1' f2' g1 g2 g1' g2' f4 f4' g4 g4' x1 x2 x3 f3' g3'); omega), ⟨_, _, rfl⟩, _, ⟨(), by ((try clear c1 c2 c3 c3' r0 r1 r1' r2 r2' r3 r3' b0 b1 b1' b2 b2' h3 h4 f1 f2 f1' f2' g1 g2 g1' g2' f4 f4' g4 g4' x1 x2 x3 f3' g3'); omega), rfl⟩, ?_⟩
    ·have : j = 0 := by ((try clear c1 c2 c3 c3' r0 r1 r1' r2 r2' r3 r3' b0 b1 b1' b2 b2' h3 h4 f1 f2 f1' f2' g1 g2 g1' g2' f4 f4' g4 g4' x1 x2 x3 f3' g3'); omega)
     subst this
     exact ⟨rfl, trivial⟩
    ·have eap : ∀ q', q' < i + 1 → appF i 1 (intF (rnL Lr)) (fun i => [[AV.lit (Value.int IntKind.i64 (q.1 : Int))]].getD i []) q' = intF (rnL Lr) q' := fun q' hq' => by
      rw [appF_at (by ((try clear c1 c2 c3 c3' r0 r1 r1' r2 r2' r3 r3' b0 b1 b1' b2 b2' h3 h4 f1 f2 f1' f2' g1 g2 g1' g2' f4 f4' g4 g4' x1 x2 x3 f3' g3'); omega))]
      by_cases e : q' < i
      ·rw [if_pos e]
      ·have : q' = i := by ((try clear c1 c2 c3 c3' r0 r1 r1' r2 r2' r3 r3' b0 b1 b1' b2 b2' h3 h4 f1 f2 f1' f2' g1 g2 g1' g2' f4 f4' g4 g4' x1 x2 x3 f3' g3'); omega)
       subst this
       rw [if_neg (by ((try clear c1 c2 c3 c3' r0 r1 r1' r2 r2' r3 r3' b0 b1 b1' b2 b2' h3 h4 f1 f2 f1' f2' g1 g2 g1' g2' f4 f4' g4 g4' x1 x2 x3 f3' g3'); omega)), Nat.sub_self]
       show [i64 (q.1 : Int)] = [i64 ((rnL Lr).getD q' 0)]
       rw [hgi]
     refine Go.V.HSub.trans (Go.V.HSub.set (Go.V.HSub.set (.refl _) (row_ext fun q' hq' => eap q' hq')) (.refl _)) ?_
     (refine HSub_eqn fun jj => ?_; refine (Classical.em (jj = i6)).elim (fun E0 => by rw [E0]; first | (left; simp only [vsAll, ↓reduceIte, reduceCtorEq, eq_self, f1', g1']; done) | (right; simp only [vsAll, ↓reduceIte, eq_self, f1', g1']; done)) (fun E0 => ?_); refine (Classical.em (jj = ir)).elim (fun E1 => by rw [E1]; first | (left; simp only [vsAll, ↓reduceIte, reduceCtorEq, eq_self, r1, f2', g2']; done) | (right; simp only [vsAll, ↓reduceIte, eq_self, r1, f2', g2']; done)) (fun E1 => ?_); refine (Classical.em (jj = lid)).elim (fun E2 => by rw [E2]; first | (left; simp only [vsAll, ↓reduceIte, reduceCtorEq, eq_self]; done) | (right; simp only [vsAll, ↓reduceIte, eq_self, f1, f2]; done)) (fun E2 => ?_); refine (Classical.em (jj = did)).elim (fun E3 => by rw [E3]; first | (left; simp only [vsAll, ↓reduceIte, reduceCtorEq, eq_self, h4]; done) | (right; simp only [vsAll, ↓reduceIte, eq_self, h4, g1, g2]; done)) (fun E3 => ?_); refine (Classical.em (jj = i7)).elim (fun E4 => by rw [E4]; first | (left; simp only [vsAll, ↓reduceIte, reduceCtorEq, eq_self, c3, r2', f4', g4']; done) | (right; simp only [vsAll, ↓reduceIte, eq_self, c3, r2', f4', g4']; done)) (fun E4 => ?_); right; simp only [vsAll, ↓reduceIte, eq_self, E0, E1, E2, E3, E4])
   ·rintro ⟨⟩ hi lid did lo h1 h2 h3
    simp only [Hp.set_none] at h1 h2
    obtain ⟨⟨f1, f1'⟩, ⟨f2, f2'⟩, ⟨f4, f4'⟩, f3⟩ := h1
    obtain ⟨⟨g1, g1'⟩, ⟨g2, g2'⟩, ⟨g4, g4'⟩, g3⟩ := h2
    have eL : (ylB Lr).length = (rnL Lr).length := by rw [hrl]; simp [ylB]
    simp only [eL]
    have h4 : ¬ did = lid := fun e => h3 e.symm
    skip
    simp only [vsAll, loadA, loadRow, partA, partOk, cellA, cellsA, opA, newCells, okCells, storeObj, dstOk, resA, retA.eq_2, Nat.reduceLT, Nat.reduceEqDiff, ↓reduceIte, eq_self, wtAll, Tryz.results9, c3, c3', r2', h4, f1', g1, g1', f4', g4, g4']
    obtain ⟨u, u1, u2, u3⟩ := runL_run k hpk hO 320 (fun _ => 0) .start (by rw [Dv.res_zero]; exact htot)
    rw [Dv.res_zero] at u3
    refine ⟨i7, fun _ => [.lit (.int .i64 0)], rfl, by simp only [↓reduceIte, eq_self, g4'], H.set ir (.row 1 (rnL Lr).length (intF (rnL Lr))), by (refine HSub_eqn fun jj => ?_; refine (Classical.em (jj = did)).elim (fun E0 => by rw [E0]; first | (left; simp only [vsAll, ↓reduceIte, eq_self, g2, g3]; done) | (right; simp only [vsAll, binA, binLitA, intA, aggA, aggV, boolA, nilA2, isConst, unA, loadA, loadRow, partA, partOk, fieldAddrA, indexAddrA, indexA, fieldA, extractA, lenA, nilCheckA, boxA, boxZ, cellA, cellsA, fillA, okParts, buildSliceA, buildMutA, makeSliceA, partIdx, elemsA, lensA, ifaceA, convA, mmA, pickA, okAll, stAll, opsA, partsA, partsOk, opA, allocA, boxMutA, newCells, okCells, storeObj, appendA, guardV, taA, nM, mapUpA, rangeA, nextA, entryA, lookA, sliceA, sliceM, sliceS, boundsA, opO, okO, copyA, dstOk, nilA, quietOk, nilSliceOp, deferV, panA, resA, argFr, retA.eq_1, retA.eq_2, Nat.reduceAdd, Nat.reduceSub, Nat.reduceMul, Nat.reduceLT, Nat.reduceLeDiff, Nat.reduceEqDiff, Nat.reduceBEq, Int.reduceAdd, Int.reduceSub, Int.reduceMul, Int.reduceNeg, Int.reduceLE, Int.reduceLT, Int.reduceEq, Int.reduceNe, Int.reduceToNat, ↓reduceIte, reduceCtorEq, implies_true, forall_const, eq_self, ne_eq, wtAll, Tryz.ntmps9, Tryz.results9, c1, c2, c3, c3', r0, r1, r1', r2, r2', r3, r3', b0, b1, b1', b2, b2', h3, h4, f1, f2, f1', f2', g1, g2, g1', g2', f4, f4', g4, g4', f3, g3]; done)) (fun E0 => ?_); refine (Classical.em (jj = i7)).elim (fun E1 => by rw [E1]; first | (left; simp only [vsAll, ↓reduceIte, eq_self, c2, r2']; done) | (right; simp only [vsAll, binA, binLitA, intA, aggA, aggV, boolA, nilA2, isConst, unA, loadA, loadRow, partA, partOk, fieldAddrA, indexAddrA, indexA, fieldA, extractA, lenA, nilCheckA, boxA, boxZ, cellA, cellsA, fillA, okParts, buildSliceA, buildMutA, makeSliceA, partIdx, elemsA, lensA, ifaceA, convA, mmA, pickA, okAll, stAll, opsA, partsA, partsOk, opA, allocA, boxMutA, newCells, okCells, storeObj, appendA, guardV, taA, nM, mapUpA, rangeA, nextA, entryA, lookA, sliceA, sliceM, sliceS, boundsA, opO, okO, copyA, dstOk, nilA, quietOk, nilSliceOp, deferV, panA, resA, argFr, retA.eq_1, retA.eq_2, Nat.reduceAdd, Nat.reduceSub, Nat.reduceMul, Nat.reduceLT, Nat.reduceLeDiff, Nat.reduceEqDiff, Nat.reduceBEq, Int.reduceAdd, Int.reduceSub, Int.reduceMul, Int.reduceNeg, Int.reduceLE, Int.reduceLT, Int.reduceEq, Int.reduceNe, Int.reduceToNat, ↓reduceIte, reduceCtorEq, implies_true, forall_const, eq_self, ne_eq, wtAll, Tryz.ntmps9, Tryz.results9, c1, c2, c3, c3', r0, r1, r1', r2, r2', r3, r3', b0, b1, b1', b2, b2', h3, h4, f1, f2, f1', f2', g1, g2, g1', g2', f4, f4', g4, g4', f3, g3]; done)) (fun E1 => ?_); refine (Classical.em (jj = i6)).elim (fun E2 => by rw [E2]; first | (left; simp only [vsAll, ↓reduceIte, eq_self, c1, r1']; done) | (right; simp only [vsAll, binA, binLitA, intA, aggA, aggV, boolA, nilA2, isConst, unA, loadA, loadRow, partA, partOk, fieldAddrA, indexAddrA, indexA, fieldA, extractA, lenA, nilCheckA, boxA, boxZ, cellA, cellsA, fillA, okParts, buildSliceA, buildMutA, makeSliceA, partIdx, elemsA, lensA, ifaceA, convA, mmA, pickA, okAll, stAll, opsA, partsA, partsOk, opA, allocA, boxMutA, newCells, okCells, storeObj, appendA, guardV, taA, nM, mapUpA, rangeA, nextA, entryA, lookA, sliceA, sliceM, sliceS, boundsA, opO, okO, copyA, dstOk, nilA, quietOk, nilSliceOp, deferV, panA, resA, argFr, retA.eq_1, retA.eq_2, Nat.reduceAdd, Nat.reduceSub, Nat.reduceMul, Nat.reduceLT, Nat.reduceLeDiff, Nat.reduceEqDiff, Nat.reduceBEq, Int.reduceAdd, Int.reduceSub, Int.reduceMul, Int.reduceNeg, Int.reduceLE, Int.reduceLT, Int.reduceEq, Int.reduceNe, Int.reduceToNat, ↓reduceIte, reduceCtorEq, implies_true, forall_const, eq_self, ne_eq, wtAll, Tryz.ntmps9, Tryz.results9, c1, c2, c3, c3', r0, r1, r1', r2, r2', r3, r3', b0, b1, b1', b2, b2', h3, h4, f1, f2, f1', f2', g1, g2, g1', g2', f4, f4', g4, g4', f3, g3]; done)) (fun E2 => ?_); refine (Classical.em (jj = lid)).elim (fun E3 => by rw [E3]; first | (left; simp only [vsAll, ↓reduceIte, eq_self, f2, f3]; done) | (right; simp only [vsAll, binA, binLitA, intA, aggA, aggV, boolA, nilA2, isConst, unA, loadA, loadRow, partA, partOk, fieldAddrA, indexAddrA, indexA, fieldA, extractA, lenA, nilCheckA, boxA, boxZ, cellA, cellsA, fillA, okParts, buildSliceA, buildMutA, makeSliceA, partIdx, elemsA, lensA, ifaceA, convA, mmA, pickA, okAll, stAll, opsA, partsA, partsOk, opA, allocA, boxMutA, newCells, okCells, storeObj, appendA, guardV, taA, nM, mapUpA, rangeA, nextA, entryA, lookA, sliceA, sliceM, sliceS, boundsA, opO, okO, copyA, dstOk, nilA, quietOk, nilSliceOp, deferV, panA, resA, argFr, retA.eq_1, retA.eq_2, Nat.reduceAdd, Nat.reduceSub, Nat.reduceMul, Nat.reduceLT, Nat.reduceLeDiff, Nat.reduceEqDiff, Nat.reduceBEq, Int.reduceAdd, Int.reduceSub, Int.reduceMul, Int.reduceNeg, Int.reduceLE, Int.reduceLT, Int.reduceEq, Int.reduceNe, Int.reduceToNat, ↓reduceIte, reduceCtorEq, implies_true, forall_const, eq_self, ne_eq, wtAll, Tryz.ntmps9, Tryz.results9, c1, c2, c3, c3', r0, r1, r1', r2, r2', r3, r3', b0, b1, b1', b2, b2', h3, h4, f1, f2, f1', f2', g1, g2, g1', g2', f4, f4', g4, g4', f3, g3]; done)) (fun E3 => ?_); refine (Classical.em (jj = ir)).elim (fun E4 => by rw [E4]; first | (left; simp only [vsAll, ↓reduceIte, reduceCtorEq, eq_self]; done) | (right; simp only [vsAll, ↓reduceIte, eq_self, r1, r2, f2', g2']; done)) (fun E4 => ?_); right; simp only [vsAll, ↓reduceIte, eq_self, E0, E1, E2, E3, E4]), u, rnL Lr, ir, u1, u2, by ((try clear c1 c2 c3 c3' r0 r1 r1' r2 r2' r3 r3' b0 b1 b1' b2 b2' h3 h4 f1 f2 f1' f2' g1 g2 g1' g2' f4 f4' g4 g4' f3 g3); omega), fun i hi => ?_, fun i => ?_, r0, rfl, rfl⟩
    ·rw [hrl] at hi
     have := runL_lt hpk 320 (bOf l) Lr[i] (List.getElem_mem hi)
     have e : (rnL Lr).getD i 0 = (Lr[i].1 : Int) := by unfold rnL; rw [List.getD_eq_getElem?_getD, List.getElem?_map, List.getElem?_eq_getElem hi]; rfl
     ((try clear c1 c2 c3 c3' r0 r1 r1' r2 r2' r3 r3' b0 b1 b1' b2 b2' h3 h4 f1 f2 f1' f2' g1 g2 g1' g2' f4 f4' g4 g4' f3 g3); omega)
    ·rw [u3 i]
     have key : ∀ L : List (Nat × (Nat → Int)), (L.map (·.1)).count i = (rnL L).count (i : Int) := fun L => by
      induction L with
      | nil => rfl
      | cons x L ih =>
        show ((x.1 :: L.map (·.1)).count i) = (((x.1 : Int) :: rnL L).count (i : Int))
        rw [List.count_cons, List.count_cons, ih]
        by_cases e : x.1 = i
        ·simp [e]
        ·have : ¬ (x.1 : Int) = (i : Int) := by ((try clear c1 c2 c3 c3' r0 r1 r1' r2 r2' r3 r3' b0 b1 b1' b2 b2' h3 h4 f1 f2 f1' f2' g1 g2 g1' g2' f4 f4' g4 g4' f3 g3); omega)
         simp [e, this]
     rw [← key]
     exact Int.zero_add _
 ·rintro r H' ⟨u, L, id, h1, h2, h3, h4, h5, hid, rfl, rfl⟩
  exact .inr ⟨_, .tuple [intsAV L, i64 0], id, 1, L.length, intF L, rfl, Hp.set_same _ _ _, .tuple rfl fun q hq => (match q, hq with
   | 0, _ => .hit fun _ _ => rfl
   | 1, _ => .same _), ⟨set_delO hid, u, L, h1, h2, h3, h4, h5, rfl⟩⟩
end Go.Proofs.YtclkjifgipcamaaGreat
end
section
set_option linter.unusedVariables false
set_option linter.unusedSimpArgs false
set_option maxHeartbeats 8000000
set_option maxRecDepth 100000
namespace Go.Proofs.YtclkjifgipcamaaGreat
open Go.V
theorem rwithin_tri (n lo hi : Int) (H : Hp) : PTri Tryz.prog (fnA 72) [i64 n, i64 lo, i64 hi] H (boo (decide (lo ≤ n) && decide (n ≤ hi))) := by
 refine tri_v0 (fun _ => false) Tryz.func72 (by kernel_rfl) rfl (by simp only [List.length_append, List.length_cons, List.length_nil, Tryz.ntmps72]; decide) ?_
 simp only [vsAll, binA, binLitA, intA, pickA, opA, guardV, dstOk, nilSliceOp, resA, argFr, retA.eq_1, Nat.reduceLT, Nat.reduceEqDiff, ↓reduceIte, reduceCtorEq, implies_true, eq_self, Tryz.ntmps72, Tryz.results72]
theorem rwant_tri (b : Bool) (e : Int) (H : Hp) : Tri Tryz.prog (fnA 50) [boo b, i64 e] H fun r H' => H' = H ∧ r = if b then .ret (.tuple []) else .pan (refR e) := by
 refine tri_v0 (fun _ => false) Tryz.func50 (by kernel_rfl) rfl (by simp only [List.length_append, List.length_cons, List.length_nil, Tryz.ntmps50]; decide) ?_
 simp only [vsAll, unA, opA, dstOk, argFr, Nat.reduceLT, ↓reduceIte, eq_self, Tryz.ntmps50]
 refine condV (fun hc => ?_) (fun hc => ?_)
 ·simp only [Bool.not_eq_true'] at hc
  subst hc
  simp only [vsAll, cellA, cellsA, fillA, okParts, ifaceA, partsA, partsOk, opA, dstOk, panA, argFr, Nat.reduceLT, Nat.reduceEqDiff, ↓reduceIte, eq_self, wtAll]
 ·simp only [Bool.not_eq_false'] at hc
  subst hc
  simp only [vsAll, resA, retA.eq_2, ↓reduceIte, eq_self, Tryz.results50]
theorem rwant_call {b : Bool} {e : Int} {H : Hp} {K : AV → Hp → Prop} {Kp : AV → Hp → Prop} (h1 : b = true → K (.tuple []) H) (h2 : b = false → Kp (refR e) H) :
  CallK Tryz.prog (fnA 50) [boo b, i64 e] H K Kp := by
 refine ⟨_, rwant_tri b e H, ?_⟩
 rintro r H' ⟨rfl, rfl⟩
 cases b
 ·exact h2 rfl
 ·exact h1 rfl
theorem swith_tri (a b : Nat) (H : Hp) (ha : a < 2 ^ 60) (hb : b < 2 ^ 60) : PTri Tryz.prog (fnA 89) [u64 a, u64 b] H (u64 (a ||| b : Nat)) := by
 refine tri_v0 (fun _ => false) Tryz.func89 (by kernel_rfl) rfl (by simp only [List.length_append, List.length_cons, List.length_nil, Tryz.ntmps89]; decide) ?_
 simp only [vsAll, binA, binLitA, intA, opA, dstOk, nilSliceOp, resA, argFr, retA.eq_1, Nat.reduceLT, Nat.reduceEqDiff, ↓reduceIte, reduceCtorEq, eq_self, Tryz.ntmps89, Tryz.results89]
 exact ⟨by omega, by omega, by simp only [InR_u64]; omega, by simp only [InR_u64]; omega⟩
theorem bit_eq (C i : Nat) : decide ((((((C : Int) / 2 ^ i).toNat &&& 1 : Nat) : Int)) = 1) = C.testBit i := by
 have e : (C : Int) / 2 ^ i = ((C / 2 ^ i : Nat) : Int) := by simp
 rw [e, Int.toNat_natCast, Nat.and_one_is_mod, Nat.testBit_eq_decide_div_mod_eq]
 exact decide_eq_decide.2 (by omega)
theorem shas_tri (a k : Nat) (H : Hp) (ha : a < 2 ^ 60) (hk : k < 60) : PTri Tryz.prog (fnA 140) [u64 a, i64 k] H (boo (a.testBit k)) := by
 refine tri_v0 (fun _ => false) Tryz.func140 (by kernel_rfl) rfl (by simp only [List.length_append, List.length_cons, List.length_nil, Tryz.ntmps140]; decide) ?_
 simp only [vsAll, binA, binLitA, intA, opA, dstOk, nilSliceOp, resA, argFr, retA.eq_1, Nat.reduceLT, Nat.reduceEqDiff, Int.reduceLE, Int.reduceToNat, ↓reduceIte, reduceCtorEq, eq_self, Tryz.ntmps140, Tryz.results140]
 have h1 : (a : Int) / 2 ^ k = ((a / 2 ^ k : Nat) : Int) := by simp
 have h2 : a / 2 ^ k ≤ a := Nat.div_le_self _ _
 refine ⟨⟨by omega, by omega, rfl⟩, ?_, congrArg _ (congrArg _ (congrArg _ (bit_eq a k)))⟩
 rw [h1]
 generalize a / 2 ^ k = q at *
 simp only [InR_u64]
 omega
theorem union_tri (a b : Nat) (H : Hp) (ha : a < 2 ^ 60) (hb : b < 2 ^ 60) : PTri Tryz.prog (fnA 73) [.rsl 2 1 fun i => [[u64 a], [u64 b]].getD i []] H (u64 (a ||| b : Nat)) := by
 refine tri_v0 (fun _ => false) Tryz.func73 (by kernel_rfl) rfl (by simp only [List.length_append, List.length_cons, List.length_nil, Tryz.ntmps73]; decide) ?_
 simp only [vsAll, lenA, opA, dstOk, nilSliceOp, argFr, Nat.reduceLT, ↓reduceIte, reduceCtorEq, eq_self, wtAll, Tryz.ntmps73]
 refine vs_loop (σ := Nat) (fun i => i ≤ 2) (fun i => [(2, u64 ([0, a, a ||| b].getD i 0 : Nat)), (3, fnA 89), (6, .rsl 2 1 fun i => [[u64 a], [u64 b]].getD i []), (7, i64 2), (8, i64 i)]) (fun _ => H) (fun i => 2 - i) 0 (Nat.zero_le _) ?_ HSub_rfl fun i hi => ?_
 ·simp only [vsAll, Nat.reduceEqDiff, ↓reduceIte, eq_self, Int.natCast_zero]
  exact .refl _
 ·have c0 : (0 : Int) < ((2 : Nat) : Int) := by decide
  have c1 : (1 : Int) < ((2 : Nat) : Int) := by decide
  have c2 : ¬ ((2 : Nat) : Int) < ((2 : Nat) : Int) := by decide
  rcases (by omega : i = 0 ∨ i = 1 ∨ i = 2) with rfl | rfl | rfl
  ·simp only [vsAll, binA, binLitA, intA, loadA, loadRow, partA, partOk, indexAddrA, okAll, stAll, opsA, opA, dstOk, nilSliceOp, Nat.reduceLT, Nat.reduceEqDiff, Int.reduceLE, Int.reduceLT, Int.reduceToNat, ↓reduceIte, eq_self, wtAll, Int.natCast_zero]
   refine ⟨c0, callK_pure (swith_tri 0 a _ (by omega) ha) ?_⟩
   simp only [vsAll, binA, binLitA, intA, opA, dstOk, nilSliceOp, Nat.reduceLT, Nat.reduceEqDiff, Int.reduceAdd, ↓reduceIte, eq_self, Nat.zero_or]
   exact ⟨by simp only [InR_i64]; omega, loop_next 1 (by decide) (by decide) (by simp only [vsAll, Nat.reduceEqDiff, ↓reduceIte, eq_self, Int.natCast_one]) HSub_rfl⟩
  ·simp only [vsAll, binA, binLitA, intA, loadA, loadRow, partA, partOk, indexAddrA, okAll, stAll, opsA, opA, dstOk, nilSliceOp, Nat.reduceLT, Nat.reduceEqDiff, Int.reduceLE, Int.reduceLT, Int.reduceToNat, ↓reduceIte, eq_self, wtAll, Int.natCast_one]
   refine ⟨c1, callK_pure (swith_tri a b _ ha hb) ?_⟩
   simp only [vsAll, binA, binLitA, intA, opA, dstOk, nilSliceOp, Nat.reduceLT, Nat.reduceEqDiff, Int.reduceAdd, ↓reduceIte, eq_self]
   exact ⟨by simp only [InR_i64]; omega, loop_next 2 (by decide) (by decide) (by simp only [vsAll, Nat.reduceEqDiff, ↓reduceIte, eq_self]; exact .refl _) HSub_rfl⟩
  ·simp only [vsAll, binA, binLitA, intA, opA, dstOk, Nat.reduceLT, Nat.reduceEqDiff, ↓reduceIte, eq_self]
   refine condD (fun h => absurd h c2) (fun _ => ?_)
   simp only [vsAll, opA, dstOk, nilSliceOp, resA, retA.eq_1, Nat.reduceLT, Nat.reduceEqDiff, ↓reduceIte, eq_self, Tryz.results73]
/-- Raps: a drive, and what was heard. -/
abbrev hdF (l : List (Nat × Bool)) : Nat → List AV := fun i => [i64 (l.getD i (0, false)).1, boo (l.getD i (0, false)).2]
abbrev hdAV (l : List (Nat × Bool)) : AV := .rsl l.length 2 (hdF l)
abbrev rpC (d : Dr) (l : List (Nat × Bool)) : List AV := [intsAV d.lim, prAV d.be, prAV d.bl, hdAV l]
theorem times_tri (d : Dr) (H : Hp) (k : OkD d) : PTri Tryz.prog (fnA 71) [d.av, i64 (-1)] H (.tuple [.agg [i64 0, i64 0], i64 2]) := by
 have n1 := k.n1
 have n6 := k.n6
 have cS : (decide ((0 : Int) ≤ -1) && decide ((-1 : Int) ≤ (d.lim.length : Int) - 1)) = false := rfl
 have hS : ∀ H, PTri Tryz.prog (fnA 58) [d.av, i64 (-1)] H (boo false) := fun H => by have := isSeam_tri d (-1); rw [cS] at this; exact this _ (by omega)
 refine Tri.drop ?_
 refine tri_a (m := mset [4, 5, 6, 7]) ans87 Tryz.func71 (by kernel_rfl) rfl (by simp only [List.length_append, List.length_cons, List.length_nil, Tryz.ntmps71]; decide) ?_
 simp only [vsAll, boxA, boxZ, okAll, stAll, opsA, opA, allocA, dstOk, deferV, argFr, Nat.reduceAdd, Nat.reduceLT, Nat.reduceBEq, Int.reduceNeg, ↓reduceIte, eq_self, wtAll, Tryz.ntmps71]
 intro i4 hh_i4; (try simp only [Hp.set_none, ite_none] at hh_i4); intro i5 hh_i5; (try simp only [ite_none] at hh_i5)
 have g : ¬ i5 = i4 ∧ H i4 = none ∧ H i5 = none := by simp_all
 obtain ⟨g1, g2, g3⟩ := g
 have g1' : ¬ i4 = i5 := fun e => g1 e.symm
 skip
 refine vs_draw3 [4, 9, 10] [([0, 0, 0, 0, 1, 2, 2, 2, 2, 3, 5, 6, 6], [([0, 1, 2, 3], [], 4), ([5, 6, 7, 8], [5], 9), ([], [5], 10)], [11, 12]), ([0, 0, 0, 0, 1, 2, 2, 2, 2, 5, 3, 6, 6], [([0, 1, 2, 3], [], 4), ([5, 6, 7, 8], [5], 10), ([], [5], 9)], [11, 12]), ([0, 0, 0, 0, 3, 4, 4, 4, 4, 1, 5, 6, 6], [([0, 1, 2, 3], [0, 1, 3], 9), ([], [], 4), ([5, 6, 7, 8], [5], 10)], [11, 12]), ([0, 0, 0, 0, 5, 6, 6, 6, 6, 1, 3, 6, 6], [([0, 1, 2, 3], [0, 1, 3], 9), ([], [0, 1, 3], 10), ([], [], 4)], [5, 6, 7, 8, 11, 12]), ([0, 0, 0, 0, 3, 4, 4, 4, 4, 5, 1, 6, 6], [([0, 1, 2, 3], [0, 1, 3], 10), ([], [], 4), ([5, 6, 7, 8], [5], 9)], [11, 12]), ([0, 0, 0, 0, 5, 6, 6, 6, 6, 3, 1, 6, 6], [([0, 1, 2, 3], [0, 1, 3], 10), ([], [0, 1, 3], 9), ([], [], 4)], [5, 6, 7, 8, 11, 12])] (by decide +kernel) fun p hp => ?_
 simp only [List.mem_cons, List.not_mem_nil, or_false] at hp
 rcases hp with rfl | rfl | rfl | rfl | rfl | rfl
 ·simp only [vsAll, loadA, loadRow, partA, partOk, opA, dstOk, argFr, Nat.reduceLT, Nat.reduceEqDiff, Int.reduceNeg, ↓reduceIte, eq_self, wtAll]
  refine qcall _ ⟨trivial, by simp only [vsAll, okAll, opsA, opA, Nat.reduceEqDiff, Int.reduceNeg, ↓reduceIte, eq_self], hS _⟩ ?_
  simp only [vsAll, okAll, stAll, opsA, opA, dstOk, Nat.reduceLT, Nat.reduceEqDiff, Int.reduceNeg, ↓reduceIte, eq_self]
  refine open_call k (fun hv => by cases hv) (fun _ => ?_)
  simp only [vsAll, Int.reduceNeg]
  refine ⟨2, i5, _, rfl, rfl, by simp only [vsAll, ↓reduceIte, eq_self]; try rfl, ?_⟩
  simp only [vsAll, loadA, loadRow, partA, partOk, resA, retA.eq_2, Nat.reduceLT, Nat.reduceEqDiff, Int.reduceNeg, ↓reduceIte, eq_self, wtAll, Tryz.results71, hh_i5]
  exact dropR_pure rfl (by (repeat (first | exact HSub_rfl | refine HSub_put_eq (by simp only [vsAll, binA, binLitA, intA, aggA, aggV, boolA, nilA2, isConst, unA, loadA, loadRow, partA, partOk, fieldAddrA, indexAddrA, indexA, fieldA, extractA, lenA, nilCheckA, boxA, boxZ, cellA, cellsA, fillA, okParts, buildSliceA, buildMutA, makeSliceA, partIdx, elemsA, lensA, ifaceA, convA, mmA, pickA, okAll, stAll, opsA, partsA, partsOk, opA, allocA, boxMutA, newCells, okCells, storeObj, appendA, guardV, taA, nM, mapUpA, rangeA, nextA, entryA, lookA, sliceA, sliceM, sliceS, boundsA, opO, okO, copyA, dstOk, nilA, quietOk, nilSliceOp, deferV, panA, resA, argFr, retA.eq_1, retA.eq_2, Nat.reduceAdd, Nat.reduceSub, Nat.reduceMul, Nat.reduceLT, Nat.reduceLeDiff, Nat.reduceEqDiff, Nat.reduceBEq, Int.reduceAdd, Int.reduceSub, Int.reduceMul, Int.reduceNeg, Int.reduceLE, Int.reduceLT, Int.reduceEq, Int.reduceNe, Int.reduceToNat, ↓reduceIte, reduceCtorEq, implies_true, forall_const, eq_self, ne_eq, wtAll, Tryz.ntmps71, Tryz.results71, hh_i4, hh_i5, g1, g2, g3, g1']) ?_ | refine HSub_drop2 (by simp only [eq_self, hh_i4, hh_i5]) ?_ | refine HSub_keep_eq (by simp only [vsAll, binA, binLitA, intA, aggA, aggV, boolA, nilA2, isConst, unA, loadA, loadRow, partA, partOk, fieldAddrA, indexAddrA, indexA, fieldA, extractA, lenA, nilCheckA, boxA, boxZ, cellA, cellsA, fillA, okParts, buildSliceA, buildMutA, makeSliceA, partIdx, elemsA, lensA, ifaceA, convA, mmA, pickA, okAll, stAll, opsA, partsA, partsOk, opA, allocA, boxMutA, newCells, okCells, storeObj, appendA, guardV, taA, nM, mapUpA, rangeA, nextA, entryA, lookA, sliceA, sliceM, sliceS, boundsA, opO, okO, copyA, dstOk, nilA, quietOk, nilSliceOp, deferV, panA, resA, argFr, retA.eq_1, retA.eq_2, Nat.reduceAdd, Nat.reduceSub, Nat.reduceMul, Nat.reduceLT, Nat.reduceLeDiff, Nat.reduceEqDiff, Nat.reduceBEq, Int.reduceAdd, Int.reduceSub, Int.reduceMul, Int.reduceNeg, Int.reduceLE, Int.reduceLT, Int.reduceEq, Int.reduceNe, Int.reduceToNat, ↓reduceIte, reduceCtorEq, implies_true, forall_const, eq_self, ne_eq, wtAll, Tryz.ntmps71, Tryz.results71, hh_i4, hh_i5, g1, g2, g3, g1']) ?_)))
 ·simp only [vsAll, loadA, loadRow, partA, partOk, opA, dstOk, argFr, Nat.reduceLT, Nat.reduceEqDiff, Int.reduceNeg, ↓reduceIte, eq_self, wtAll]
  refine qcall _ ⟨trivial, by simp only [vsAll, okAll, opsA, opA, Nat.reduceEqDiff, Int.reduceNeg, ↓reduceIte, eq_self], hS _⟩ ?_
  simp only [vsAll, okAll, stAll, opsA, opA, dstOk, Nat.reduceLT, Nat.reduceEqDiff, Int.reduceNeg, ↓reduceIte, eq_self]
  refine open_call k (fun hv => by cases hv) (fun _ => ?_)
  simp only [vsAll, Int.reduceNeg]
  refine ⟨2, i5, _, rfl, rfl, by simp only [vsAll, ↓reduceIte, eq_self]; try rfl, ?_⟩
  simp only [vsAll, loadA, loadRow, partA, partOk, resA, retA.eq_2, Nat.reduceLT, Nat.reduceEqDiff, Int.reduceNeg, ↓reduceIte, eq_self, wtAll, Tryz.results71, hh_i5]
  exact dropR_pure rfl (by (repeat (first | exact HSub_rfl | refine HSub_put_eq (by simp only [vsAll, binA, binLitA, intA, aggA, aggV, boolA, nilA2, isConst, unA, loadA, loadRow, partA, partOk, fieldAddrA, indexAddrA, indexA, fieldA, extractA, lenA, nilCheckA, boxA, boxZ, cellA, cellsA, fillA, okParts, buildSliceA, buildMutA, makeSliceA, partIdx, elemsA, lensA, ifaceA, convA, mmA, pickA, okAll, stAll, opsA, partsA, partsOk, opA, allocA, boxMutA, newCells, okCells, storeObj, appendA, guardV, taA, nM, mapUpA, rangeA, nextA, entryA, lookA, sliceA, sliceM, sliceS, boundsA, opO, okO, copyA, dstOk, nilA, quietOk, nilSliceOp, deferV, panA, resA, argFr, retA.eq_1, retA.eq_2, Nat.reduceAdd, Nat.reduceSub, Nat.reduceMul, Nat.reduceLT, Nat.reduceLeDiff, Nat.reduceEqDiff, Nat.reduceBEq, Int.reduceAdd, Int.reduceSub, Int.reduceMul, Int.reduceNeg, Int.reduceLE, Int.reduceLT, Int.reduceEq, Int.reduceNe, Int.reduceToNat, ↓reduceIte, reduceCtorEq, implies_true, forall_const, eq_self, ne_eq, wtAll, Tryz.ntmps71, Tryz.results71, hh_i4, hh_i5, g1, g2, g3, g1']) ?_ | refine HSub_drop2 (by simp only [eq_self, hh_i4, hh_i5]) ?_ | refine HSub_keep_eq (by simp only [vsAll, binA, binLitA, intA, aggA, aggV, boolA, nilA2, isConst, unA, loadA, loadRow, partA, partOk, fieldAddrA, indexAddrA, indexA, fieldA, extractA, lenA, nilCheckA, boxA, boxZ, cellA, cellsA, fillA, okParts, buildSliceA, buildMutA, makeSliceA, partIdx, elemsA, lensA, ifaceA, convA, mmA, pickA, okAll, stAll, opsA, partsA, partsOk, opA, allocA, boxMutA, newCells, okCells, storeObj, appendA, guardV, taA, nM, mapUpA, rangeA, nextA, entryA, lookA, sliceA, sliceM, sliceS, boundsA, opO, okO, copyA, dstOk, nilA, quietOk, nilSliceOp, deferV, panA, resA, argFr, retA.eq_1, retA.eq_2, Nat.reduceAdd, Nat.reduceSub, Nat.reduceMul, Nat.reduceLT, Nat.reduceLeDiff, Nat.reduceEqDiff, Nat.reduceBEq, Int.reduceAdd, Int.reduceSub, Int.reduceMul, Int.reduceNeg, Int.reduceLE, Int.reduceLT, Int.reduceEq, Int.reduceNe, Int.reduceToNat, ↓reduceIte, reduceCtorEq, implies_true, forall_const, eq_self, ne_eq, wtAll, Tryz.ntmps71, Tryz.results71, hh_i4, hh_i5, g1, g2, g3, g1']) ?_)))
 ·simp only [vsAll, loadA, loadRow, partA, partOk, opA, dstOk, argFr, Nat.reduceLT, Nat.reduceEqDiff, Int.reduceNeg, ↓reduceIte, eq_self, wtAll]
  refine qcall _ ⟨trivial, by simp only [vsAll, okAll, opsA, opA, Nat.reduceEqDiff, Int.reduceNeg, ↓reduceIte, eq_self], hS _⟩ ?_
  simp only [vsAll, loadA, loadRow, partA, partOk, okAll, stAll, opsA, opA, allocA, dstOk, Nat.reduceLT, Nat.reduceEqDiff, Int.reduceNeg, ↓reduceIte, eq_self, wtAll]
  intro i6 hh_i6; (try simp only [ite_none] at hh_i6)
  refine ⟨⟨_, ⟨trivial, by simp only [vsAll, okAll, opsA, opA, Nat.reduceEqDiff, Int.reduceNeg, ↓reduceIte, eq_self], hS _⟩, rfl⟩, ?_⟩
  refine open_call k (fun hv => by cases hv) (fun _ => ?_)
  simp only [vsAll, Int.reduceNeg]
  refine ⟨2, i5, _, rfl, rfl, by simp only [vsAll, ↓reduceIte, eq_self, hh_i6]; try rfl, ?_⟩
  simp only [vsAll, loadA, loadRow, partA, partOk, resA, retA.eq_2, Nat.reduceLT, Nat.reduceEqDiff, Int.reduceNeg, ↓reduceIte, eq_self, wtAll, Tryz.results71, hh_i5, hh_i6]
  exact dropR_pure rfl (by (repeat (first | exact HSub_rfl | refine HSub_put_eq (by simp only [vsAll, binA, binLitA, intA, aggA, aggV, boolA, nilA2, isConst, unA, loadA, loadRow, partA, partOk, fieldAddrA, indexAddrA, indexA, fieldA, extractA, lenA, nilCheckA, boxA, boxZ, cellA, cellsA, fillA, okParts, buildSliceA, buildMutA, makeSliceA, partIdx, elemsA, lensA, ifaceA, convA, mmA, pickA, okAll, stAll, opsA, partsA, partsOk, opA, allocA, boxMutA, newCells, okCells, storeObj, appendA, guardV, taA, nM, mapUpA, rangeA, nextA, entryA, lookA, sliceA, sliceM, sliceS, boundsA, opO, okO, copyA, dstOk, nilA, quietOk, nilSliceOp, deferV, panA, resA, argFr, retA.eq_1, retA.eq_2, Nat.reduceAdd, Nat.reduceSub, Nat.reduceMul, Nat.reduceLT, Nat.reduceLeDiff, Nat.reduceEqDiff, Nat.reduceBEq, Int.reduceAdd, Int.reduceSub, Int.reduceMul, Int.reduceNeg, Int.reduceLE, Int.reduceLT, Int.reduceEq, Int.reduceNe, Int.reduceToNat, ↓reduceIte, reduceCtorEq, implies_true, forall_const, eq_self, ne_eq, wtAll, Tryz.ntmps71, Tryz.results71, hh_i4, hh_i5, g1, g2, g3, g1', hh_i6]) ?_ | refine HSub_drop2 (by simp only [eq_self, hh_i4, hh_i5, hh_i6]) ?_ | refine HSub_keep_eq (by simp only [vsAll, binA, binLitA, intA, aggA, aggV, boolA, nilA2, isConst, unA, loadA, loadRow, partA, partOk, fieldAddrA, indexAddrA, indexA, fieldA, extractA, lenA, nilCheckA, boxA, boxZ, cellA, cellsA, fillA, okParts, buildSliceA, buildMutA, makeSliceA, partIdx, elemsA, lensA, ifaceA, convA, mmA, pickA, okAll, stAll, opsA, partsA, partsOk, opA, allocA, boxMutA, newCells, okCells, storeObj, appendA, guardV, taA, nM, mapUpA, rangeA, nextA, entryA, lookA, sliceA, sliceM, sliceS, boundsA, opO, okO, copyA, dstOk, nilA, quietOk, nilSliceOp, deferV, panA, resA, argFr, retA.eq_1, retA.eq_2, Nat.reduceAdd, Nat.reduceSub, Nat.reduceMul, Nat.reduceLT, Nat.reduceLeDiff, Nat.reduceEqDiff, Nat.reduceBEq, Int.reduceAdd, Int.reduceSub, Int.reduceMul, Int.reduceNeg, Int.reduceLE, Int.reduceLT, Int.reduceEq, Int.reduceNe, Int.reduceToNat, ↓reduceIte, reduceCtorEq, implies_true, forall_const, eq_self, ne_eq, wtAll, Tryz.ntmps71, Tryz.results71, hh_i4, hh_i5, g1, g2, g3, g1', hh_i6]) ?_)))
 ·simp only [vsAll, loadA, loadRow, partA, partOk, opA, dstOk, argFr, Nat.reduceLT, Nat.reduceEqDiff, Int.reduceNeg, ↓reduceIte, eq_self, wtAll]
  refine qcall _ ⟨trivial, by simp only [vsAll, okAll, opsA, opA, Nat.reduceEqDiff, Int.reduceNeg, ↓reduceIte, eq_self], hS _⟩ ?_
  simp only [vsAll, loadA, loadRow, partA, partOk, okAll, stAll, opsA, opA, allocA, dstOk, Nat.reduceLT, Nat.reduceEqDiff, Int.reduceNeg, ↓reduceIte, eq_self, wtAll]
  intro i6 hh_i6; (try simp only [ite_none] at hh_i6)
  refine ⟨⟨_, ⟨trivial, by simp only [vsAll, okAll, opsA, opA, Nat.reduceEqDiff, Int.reduceNeg, ↓reduceIte, eq_self], hS _⟩, rfl⟩, ?_⟩
  intro i7 hh_i7; (try simp only [ite_none] at hh_i7)
  refine ⟨⟨_, ⟨trivial, by simp only [vsAll, okAll, opsA, opA, Nat.reduceEqDiff, Int.reduceNeg, ↓reduceIte, eq_self], hS _⟩, rfl⟩, ?_⟩
  refine open_call k (fun hv => by cases hv) (fun _ => ?_)
  simp only [vsAll, Int.reduceNeg]
  refine ⟨2, i5, _, rfl, rfl, by simp only [vsAll, ↓reduceIte, eq_self, hh_i6, hh_i7]; try rfl, ?_⟩
  simp only [vsAll, loadA, loadRow, partA, partOk, resA, retA.eq_2, Nat.reduceLT, Nat.reduceEqDiff, Int.reduceNeg, ↓reduceIte, eq_self, wtAll, Tryz.results71, hh_i5, hh_i6, hh_i7]
  exact dropR_pure rfl (by (repeat (first | exact HSub_rfl | refine HSub_put_eq (by simp only [vsAll, binA, binLitA, intA, aggA, aggV, boolA, nilA2, isConst, unA, loadA, loadRow, partA, partOk, fieldAddrA, indexAddrA, indexA, fieldA, extractA, lenA, nilCheckA, boxA, boxZ, cellA, cellsA, fillA, okParts, buildSliceA, buildMutA, makeSliceA, partIdx, elemsA, lensA, ifaceA, convA, mmA, pickA, okAll, stAll, opsA, partsA, partsOk, opA, allocA, boxMutA, newCells, okCells, storeObj, appendA, guardV, taA, nM, mapUpA, rangeA, nextA, entryA, lookA, sliceA, sliceM, sliceS, boundsA, opO, okO, copyA, dstOk, nilA, quietOk, nilSliceOp, deferV, panA, resA, argFr, retA.eq_1, retA.eq_2, Nat.reduceAdd, Nat.reduceSub, Nat.reduceMul, Nat.reduceLT, Nat.reduceLeDiff, Nat.reduceEqDiff, Nat.reduceBEq, Int.reduceAdd, Int.reduceSub, Int.reduceMul, Int.reduceNeg, Int.reduceLE, Int.reduceLT, Int.reduceEq, Int.reduceNe, Int.reduceToNat, ↓reduceIte, reduceCtorEq, implies_true, forall_const, eq_self, ne_eq, wtAll, Tryz.ntmps71, Tryz.results71, hh_i4, hh_i5, g1, g2, g3, g1', hh_i6, hh_i7]) ?_ | refine HSub_drop2 (by simp only [eq_self, hh_i4, hh_i5, hh_i6, hh_i7]) ?_ | refine HSub_keep_eq (by simp only [vsAll, binA, binLitA, intA, aggA, aggV, boolA, nilA2, isConst, unA, loadA, loadRow, partA, partOk, fieldAddrA, indexAddrA, indexA, fieldA, extractA, lenA, nilCheckA, boxA, boxZ, cellA, cellsA, fillA, okParts, buildSliceA, buildMutA, makeSliceA, partIdx, elemsA, lensA, ifaceA, convA, mmA, pickA, okAll, stAll, opsA, partsA, partsOk, opA, allocA, boxMutA, newCells, okCells, storeObj, appendA, guardV, taA, nM, mapUpA, rangeA, nextA, entryA, lookA, sliceA, sliceM, sliceS, boundsA, opO, okO, copyA, dstOk, nilA, quietOk, nilSliceOp, deferV, panA, resA, argFr, retA.eq_1, retA.eq_2, Nat.reduceAdd, Nat.reduceSub, Nat.reduceMul, Nat.reduceLT, Nat.reduceLeDiff, Nat.reduceEqDiff, Nat.reduceBEq, Int.reduceAdd, Int.reduceSub, Int.reduceMul, Int.reduceNeg, Int.reduceLE, Int.reduceLT, Int.reduceEq, Int.reduceNe, Int.reduceToNat, ↓reduceIte, reduceCtorEq, implies_true, forall_const, eq_self, ne_eq, wtAll, Tryz.ntmps71, Tryz.results71, hh_i4, hh_i5, g1, g2, g3, g1', hh_i6, hh_i7]) ?_)))
 ·simp only [vsAll, loadA, loadRow, partA, partOk, opA, dstOk, argFr, Nat.reduceLT, Nat.reduceEqDiff, Int.reduceNeg, ↓reduceIte, eq_self, wtAll]
  refine qcall _ ⟨trivial, by simp only [vsAll, okAll, opsA, opA, Nat.reduceEqDiff, Int.reduceNeg, ↓reduceIte, eq_self], hS _⟩ ?_
  simp only [vsAll, loadA, loadRow, partA, partOk, okAll, stAll, opsA, opA, allocA, dstOk, Nat.reduceLT, Nat.reduceEqDiff, Int.reduceNeg, ↓reduceIte, eq_self, wtAll]
  intro i6 hh_i6; (try simp only [ite_none] at hh_i6)
  refine ⟨⟨_, ⟨trivial, by simp only [vsAll, okAll, opsA, opA, Nat.reduceEqDiff, Int.reduceNeg, ↓reduceIte, eq_self], hS _⟩, rfl⟩, ?_⟩
  refine open_call k (fun hv => by cases hv) (fun _ => ?_)
  simp only [vsAll, Int.reduceNeg]
  refine ⟨2, i5, _, rfl, rfl, by simp only [vsAll, ↓reduceIte, eq_self, hh_i6]; try rfl, ?_⟩
  simp only [vsAll, loadA, loadRow, partA, partOk, resA, retA.eq_2, Nat.reduceLT, Nat.reduceEqDiff, Int.reduceNeg, ↓reduceIte, eq_self, wtAll, Tryz.results71, hh_i5, hh_i6]
  exact dropR_pure rfl (by (repeat (first | exact HSub_rfl | refine HSub_put_eq (by simp only [vsAll, binA, binLitA, intA, aggA, aggV, boolA, nilA2, isConst, unA, loadA, loadRow, partA, partOk, fieldAddrA, indexAddrA, indexA, fieldA, extractA, lenA, nilCheckA, boxA, boxZ, cellA, cellsA, fillA, okParts, buildSliceA, buildMutA, makeSliceA, partIdx, elemsA, lensA, ifaceA, convA, mmA, pickA, okAll, stAll, opsA, partsA, partsOk, opA, allocA, boxMutA, newCells, okCells, storeObj, appendA, guardV, taA, nM, mapUpA, rangeA, nextA, entryA, lookA, sliceA, sliceM, sliceS, boundsA, opO, okO, copyA, dstOk, nilA, quietOk, nilSliceOp, deferV, panA, resA, argFr, retA.eq_1, retA.eq_2, Nat.reduceAdd, Nat.reduceSub, Nat.reduceMul, Nat.reduceLT, Nat.reduceLeDiff, Nat.reduceEqDiff, Nat.reduceBEq, Int.reduceAdd, Int.reduceSub, Int.reduceMul, Int.reduceNeg, Int.reduceLE, Int.reduceLT, Int.reduceEq, Int.reduceNe, Int.reduceToNat, ↓reduceIte, reduceCtorEq, implies_true, forall_const, eq_self, ne_eq, wtAll, Tryz.ntmps71, Tryz.results71, hh_i4, hh_i5, g1, g2, g3, g1', hh_i6]) ?_ | refine HSub_drop2 (by simp only [eq_self, hh_i4, hh_i5, hh_i6]) ?_ | refine HSub_keep_eq (by simp only [vsAll, binA, binLitA, intA, aggA, aggV, boolA, nilA2, isConst, unA, loadA, loadRow, partA, partOk, fieldAddrA, indexAddrA, indexA, fieldA, extractA, lenA, nilCheckA, boxA, boxZ, cellA, cellsA, fillA, okParts, buildSliceA, buildMutA, makeSliceA, partIdx, elemsA, lensA, ifaceA, convA, mmA, pickA, okAll, stAll, opsA, partsA, partsOk, opA, allocA, boxMutA, newCells, okCells, storeObj, appendA, guardV, taA, nM, mapUpA, rangeA, nextA, entryA, lookA, sliceA, sliceM, sliceS, boundsA, opO, okO, copyA, dstOk, nilA, quietOk, nilSliceOp, deferV, panA, resA, argFr, retA.eq_1, retA.eq_2, Nat.reduceAdd, Nat.reduceSub, Nat.reduceMul, Nat.reduceLT, Nat.reduceLeDiff, Nat.reduceEqDiff, Nat.reduceBEq, Int.reduceAdd, Int.reduceSub, Int.reduceMul, Int.reduceNeg, Int.reduceLE, Int.reduceLT, Int.reduceEq, Int.reduceNe, Int.reduceToNat, ↓reduceIte, reduceCtorEq, implies_true, forall_const, eq_self, ne_eq, wtAll, Tryz.ntmps71, Tryz.results71, hh_i4, hh_i5, g1, g2, g3, g1', hh_i6]) ?_)))
 ·simp only [vsAll, loadA, loadRow, partA, partOk, opA, dstOk, argFr, Nat.reduceLT, Nat.reduceEqDiff, Int.reduceNeg, ↓reduceIte, eq_self, wtAll]
  refine qcall _ ⟨trivial, by simp only [vsAll, okAll, opsA, opA, Nat.reduceEqDiff, Int.reduceNeg, ↓reduceIte, eq_self], hS _⟩ ?_
  simp only [vsAll, loadA, loadRow, partA, partOk, okAll, stAll, opsA, opA, allocA, dstOk, Nat.reduceLT, Nat.reduceEqDiff, Int.reduceNeg, ↓reduceIte, eq_self, wtAll]
  intro i6 hh_i6; (try simp only [ite_none] at hh_i6)
  refine ⟨⟨_, ⟨trivial, by simp only [vsAll, okAll, opsA, opA, Nat.reduceEqDiff, Int.reduceNeg, ↓reduceIte, eq_self], hS _⟩, rfl⟩, ?_⟩
  intro i7 hh_i7; (try simp only [ite_none] at hh_i7)
  refine ⟨⟨_, ⟨trivial, by simp only [vsAll, okAll, opsA, opA, Nat.reduceEqDiff, Int.reduceNeg, ↓reduceIte, eq_self], hS _⟩, rfl⟩, ?_⟩
  refine open_call k (fun hv => by cases hv) (fun _ => ?_)
  simp only [vsAll, Int.reduceNeg]
  refine ⟨2, i5, _, rfl, rfl, by simp only [vsAll, ↓reduceIte, eq_self, hh_i6, hh_i7]; try rfl, ?_⟩
  simp only [vsAll, loadA, loadRow, partA, partOk, resA, retA.eq_2, Nat.reduceLT, Nat.reduceEqDiff, Int.reduceNeg, ↓reduceIte, eq_self, wtAll, Tryz.results71, hh_i5, hh_i6, hh_i7]
  exact dropR_pure rfl (by (repeat (first | exact HSub_rfl | refine HSub_put_eq (by simp only [vsAll, binA, binLitA, intA, aggA, aggV, boolA, nilA2, isConst, unA, loadA, loadRow, partA, partOk, fieldAddrA, indexAddrA, indexA, fieldA, extractA, lenA, nilCheckA, boxA, boxZ, cellA, cellsA, fillA, okParts, buildSliceA, buildMutA, makeSliceA, partIdx, elemsA, lensA, ifaceA, convA, mmA, pickA, okAll, stAll, opsA, partsA, partsOk, opA, allocA, boxMutA, newCells, okCells, storeObj, appendA, guardV, taA, nM, mapUpA, rangeA, nextA, entryA, lookA, sliceA, sliceM, sliceS, boundsA, opO, okO, copyA, dstOk, nilA, quietOk, nilSliceOp, deferV, panA, resA, argFr, retA.eq_1, retA.eq_2, Nat.reduceAdd, Nat.reduceSub, Nat.reduceMul, Nat.reduceLT, Nat.reduceLeDiff, Nat.reduceEqDiff, Nat.reduceBEq, Int.reduceAdd, Int.reduceSub, Int.reduceMul, Int.reduceNeg, Int.reduceLE, Int.reduceLT, Int.reduceEq, Int.reduceNe, Int.reduceToNat, ↓reduceIte, reduceCtorEq, implies_true, forall_const, eq_self, ne_eq, wtAll, Tryz.ntmps71, Tryz.results71, hh_i4, hh_i5, g1, g2, g3, g1', hh_i6, hh_i7]) ?_ | refine HSub_drop2 (by simp only [eq_self, hh_i4, hh_i5, hh_i6, hh_i7]) ?_ | refine HSub_keep_eq (by simp only [vsAll, binA, binLitA, intA, aggA, aggV, boolA, nilA2, isConst, unA, loadA, loadRow, partA, partOk, fieldAddrA, indexAddrA, indexA, fieldA, extractA, lenA, nilCheckA, boxA, boxZ, cellA, cellsA, fillA, okParts, buildSliceA, buildMutA, makeSliceA, partIdx, elemsA, lensA, ifaceA, convA, mmA, pickA, okAll, stAll, opsA, partsA, partsOk, opA, allocA, boxMutA, newCells, okCells, storeObj, appendA, guardV, taA, nM, mapUpA, rangeA, nextA, entryA, lookA, sliceA, sliceM, sliceS, boundsA, opO, okO, copyA, dstOk, nilA, quietOk, nilSliceOp, deferV, panA, resA, argFr, retA.eq_1, retA.eq_2, Nat.reduceAdd, Nat.reduceSub, Nat.reduceMul, Nat.reduceLT, Nat.reduceLeDiff, Nat.reduceEqDiff, Nat.reduceBEq, Int.reduceAdd, Int.reduceSub, Int.reduceMul, Int.reduceNeg, Int.reduceLE, Int.reduceLT, Int.reduceEq, Int.reduceNe, Int.reduceToNat, ↓reduceIte, reduceCtorEq, implies_true, forall_const, eq_self, ne_eq, wtAll, Tryz.ntmps71, Tryz.results71, hh_i4, hh_i5, g1, g2, g3, g1', hh_i6, hh_i7]) ?_)))
end Go.Proofs.YtclkjifgipcamaaGreat
end
section
set_option linter.unusedVariables false
set_option linter.unusedSimpArgs false
set_option maxHeartbeats 8000000
set_option maxRecDepth 100000
namespace Go.Proofs.YtclkjifgipcamaaGreat
open Go.V
def arP (a : Nat → Nat) (p : Int × Int) : Nat → Nat := fun s => if s = p.1.toNat then a s ||| 2 ^ p.2.toNat else if s = p.2.toNat then a s ||| 2 ^ p.1.toNat else a s
def arI (i : Nat) : Nat → Nat := fun s => if s < i then 2 ^ s else 0
def arK (d : Dr) : Nat → Nat → Nat
 | 0 => arI d.lim.length
 | k + 1 => arP (arK d k) (d.be.getD k (0, 0))
abbrev rhC (d : Dr) (l : List (Nat × Bool)) (a : Nat → Nat) : List AV := [intsAV d.lim, prAV d.be, prAV d.bl, hdAV l, u64 (a 0), u64 (a 1), u64 (a 2), u64 (a 3), u64 (a 4), u64 (a 5)]
abbrev arF (a : Nat → Nat) : Nat → List AV := fun s => [u64 (a s)]
abbrev rH (d : Dr) (l : List (Nat × Bool)) : AV := .rptr 1 10 (fun _ => rhC d l (arK d d.be.length)) 0 0
structure OkL (d : Dr) (l : List (Nat × Bool)) : Prop where
 n : l.length ≤ 6
 k : ∀ i, i < l.length → (l.getD i (0, false)).1 < d.lim.length
theorem arK_lt {d : Dr} (k : OkD d) : ∀ q, q ≤ d.be.length → ∀ s, arK d q s < 2 ^ 6
 | 0, _, s => by
   have := k.n6
   show arI _ s < _
   unfold arI
   split
   ·exact Nat.pow_lt_pow_right (by decide) (by omega)
   ·decide
 | q + 1, hq, s => by
   have ih := arK_lt k q (by omega) s
   have hp := k.p q (by omega)
   have := k.n6
   have h1 : 2 ^ (d.be.getD q (0, 0)).1.toNat < 2 ^ 6 := Nat.pow_lt_pow_right (by decide) (by omega)
   have h2 : 2 ^ (d.be.getD q (0, 0)).2.toNat < 2 ^ 6 := Nat.pow_lt_pow_right (by decide) (by omega)
   show arP _ _ s < _
   unfold arP
   split
   ·exact Nat.or_lt_two_pow ih h2
   ·split
    ·exact Nat.or_lt_two_pow ih h1
    ·exact ih
def upN (a : Nat → Nat) (s x : Nat) : Nat → Nat := fun q => if q = s then x else a q
theorem rh_at (d : Dr) (l : List (Nat × Bool)) (a : Nat → Nat) {s : Nat} (hs : s < 6) : (List.drop (4 + s * 1) (rhC d l a)).getD 0 .any = u64 (a s) := by
 rcases (by omega : s = 0 ∨ s = 1 ∨ s = 2 ∨ s = 3 ∨ s = 4 ∨ s = 5) with rfl | rfl | rfl | rfl | rfl | rfl <;> rfl
theorem rh_set (d : Dr) (l : List (Nat × Bool)) (a : Nat → Nat) (x : Nat) {s : Nat} (hs : s < 6) : List.take (4 + s * 1) (rhC d l a) ++ [u64 x] ++ List.drop (4 + s * 1) [prAV d.be, prAV d.bl, hdAV l, u64 (a 0), u64 (a 1), u64 (a 2), u64 (a 3), u64 (a 4), u64 (a 5)] = rhC d l (upN a s x) := by
 rcases (by omega : s = 0 ∨ s = 1 ∨ s = 2 ∨ s = 3 ∨ s = 4 ∨ s = 5) with rfl | rfl | rfl | rfl | rfl | rfl <;> rfl
theorem rh_set2 (d : Dr) (l : List (Nat × Bool)) (a : Nat → Nat) (x : Nat) {s : Nat} (hs : s < 6) : List.take (4 + s * 1) (rhC d l a) ++ [u64 x] ++ List.drop (4 + s * 1 + 1) (rhC d l a) = rhC d l (upN a s x) := by
 rcases (by omega : s = 0 ∨ s = 1 ∨ s = 2 ∨ s = 3 ∨ s = 4 ∨ s = 5) with rfl | rfl | rfl | rfl | rfl | rfl <;> rfl
theorem arI_up (i : Nat) : upN (arI i) i (2 ^ i) = arI (i + 1) := by
 funext s
 unfold upN arI
 by_cases e : s = i
 ·subst e; rw [if_pos rfl, if_pos (by omega)]
 ·rw [if_neg e]
  by_cases h : s < i
  ·rw [if_pos h, if_pos (by omega)]
  ·rw [if_neg h, if_neg (by omega)]
theorem arP_up (a : Nat → Nat) (p : Int × Int) (h : p.1.toNat ≠ p.2.toNat) : upN (upN a p.1.toNat (a p.1.toNat ||| 2 ^ p.2.toNat)) p.2.toNat (a p.2.toNat ||| 2 ^ p.1.toNat) = arP a p := by
 funext s
 unfold upN arP
 by_cases e1 : s = p.1.toNat
 ·subst e1; rw [if_neg h, if_pos rfl, if_pos rfl]
 ·rw [if_neg e1, if_neg e1]
  by_cases e2 : s = p.2.toNat
  ·rw [if_pos e2, if_pos e2, e2]
  ·rw [if_neg e2, if_neg e2]
theorem inrN {n : Nat} (h : n < 2 ^ 60) : InR IntKind.u64 (n : Int) := by
 simp only [InR_u64]; omega
theorem ropenH_tri (d : Dr) (l : List (Nat × Bool)) (v : Bool) (H : Hp) (k : OkD d) (kl : OkL d l) : Tri Tryz.prog (fnA 38) [.agg (rpC d l), boo v] H fun r H' => H' = H ∧ r = if v then .ret (rH d l) else .pan (refR 2) := by
 have n1 := k.n1
 have n6 := k.n6
 have hln := kl.n
 have km := k.m
 refine Tri.thawX (R1 := fun r H' => (v = true ∧ ∃ ih, H ih = none ∧ r = .ret (.ref ih 0 10 0 0) ∧ H' = H.set ih (.box 10 1 fun _ => rhC d l (arK d d.be.length))) ∨ (v = false ∧ r = .pan (refR 2) ∧ H' = H)) ?_ ?_
 rotate_left
 ·rintro r H' (⟨rfl, ih, hih, rfl, rfl⟩ | ⟨rfl, rfl, rfl⟩)
  ·exact .inr ⟨_, rH d l, ih, 10, 1, fun _ => rhC d l (arK d d.be.length), rfl, .inl ⟨Hp.set_same _ _ _, .leaf ⟨0, 0, rfl, rfl⟩⟩, ⟨set_delO hih, rfl⟩⟩
  ·exact .inl ⟨rfl, rfl⟩
 refine Tri.drop ?_
 refine tri_v0 (mset [49]) Tryz.func38 (by kernel_rfl) rfl (by simp only [List.length_append, List.length_cons, List.length_nil, Tryz.ntmps38]; decide) ?_
 simp only [vsAll, loadA, loadRow, partA, partOk, fieldAddrA, boxA, boxZ, okAll, stAll, opsA, opA, dstOk, nilSliceOp, argFr, Nat.reduceAdd, Nat.reduceLT, Nat.reduceLeDiff, Nat.reduceEqDiff, Nat.reduceBEq, Int.reduceNeg, ↓reduceIte, eq_self, wtAll, Tryz.ntmps38]
 refine callK_pure (times_tri d _ k) ?_
 have cT : (decide (l.length ≤ 10)) = true := decide_eq_true (by omega)
 have cT2 : (decide ((l.length : Int) ≤ 10)) = true := decide_eq_true (by omega)
 simp only [vsAll, binA, binLitA, intA, loadA, loadRow, partA, partOk, fieldAddrA, extractA, lenA, cellA, pickA, okAll, stAll, opsA, opA, allocA, newCells, okCells, storeObj, guardV, dstOk, nilSliceOp, Nat.reduceAdd, Nat.reduceLT, Nat.reduceEqDiff, Nat.reduceBEq, Int.reduceNeg, ↓reduceIte, implies_true, eq_self, wtAll, cT2]
 intro i5 hh_i5; (try simp only [Hp.set_none, ite_none] at hh_i5)
 refine rwant_call (fun _ => ?_) (fun hv => by cases hv)
 simp only [vsAll, loadA, loadRow, partA, partOk, fieldAddrA, lenA, opA, dstOk, Nat.reduceLT, Nat.reduceEqDiff, ↓reduceIte, eq_self, wtAll]
 refine vs_loop (σ := Nat) (fun i => i ≤ l.length) (fun i => [(1, boo v), (2, .rptr 1 4 (fun _ => rpC d l) 0 0), (29, hdAV l), (30, i64 l.length), (31, i64 i)]) (fun _ => H) (fun i => l.length - i) 0 (Nat.zero_le _) ?_ (by (repeat (first | exact HSub_rfl | refine HSub_put_eq (by simp only [vsAll, binA, binLitA, intA, aggA, aggV, boolA, nilA2, isConst, unA, loadA, loadRow, partA, partOk, fieldAddrA, indexAddrA, indexA, fieldA, extractA, lenA, nilCheckA, boxA, boxZ, cellA, cellsA, fillA, okParts, buildSliceA, buildMutA, makeSliceA, partIdx, elemsA, lensA, ifaceA, convA, mmA, pickA, okAll, stAll, opsA, partsA, partsOk, opA, allocA, boxMutA, newCells, okCells, storeObj, appendA, guardV, taA, nM, mapUpA, rangeA, nextA, entryA, lookA, sliceA, sliceM, sliceS, boundsA, opO, okO, copyA, dstOk, nilA, quietOk, nilSliceOp, deferV, panA, resA, argFr, retA.eq_1, retA.eq_2, Nat.reduceAdd, Nat.reduceSub, Nat.reduceMul, Nat.reduceLT, Nat.reduceLeDiff, Nat.reduceEqDiff, Nat.reduceBEq, Int.reduceAdd, Int.reduceSub, Int.reduceMul, Int.reduceNeg, Int.reduceLE, Int.reduceLT, Int.reduceEq, Int.reduceNe, Int.reduceToNat, ↓reduceIte, reduceCtorEq, implies_true, forall_const, eq_self, ne_eq, wtAll, Tryz.ntmps38, Tryz.results38, hh_i5]) ?_ | refine HSub_drop2 (by simp only [eq_self, hh_i5]) ?_ | refine HSub_keep_eq (by simp only [vsAll, binA, binLitA, intA, aggA, aggV, boolA, nilA2, isConst, unA, loadA, loadRow, partA, partOk, fieldAddrA, indexAddrA, indexA, fieldA, extractA, lenA, nilCheckA, boxA, boxZ, cellA, cellsA, fillA, okParts, buildSliceA, buildMutA, makeSliceA, partIdx, elemsA, lensA, ifaceA, convA, mmA, pickA, okAll, stAll, opsA, partsA, partsOk, opA, allocA, boxMutA, newCells, okCells, storeObj, appendA, guardV, taA, nM, mapUpA, rangeA, nextA, entryA, lookA, sliceA, sliceM, sliceS, boundsA, opO, okO, copyA, dstOk, nilA, quietOk, nilSliceOp, deferV, panA, resA, argFr, retA.eq_1, retA.eq_2, Nat.reduceAdd, Nat.reduceSub, Nat.reduceMul, Nat.reduceLT, Nat.reduceLeDiff, Nat.reduceEqDiff, Nat.reduceBEq, Int.reduceAdd, Int.reduceSub, Int.reduceMul, Int.reduceNeg, Int.reduceLE, Int.reduceLT, Int.reduceEq, Int.reduceNe, Int.reduceToNat, ↓reduceIte, reduceCtorEq, implies_true, forall_const, eq_self, ne_eq, wtAll, Tryz.ntmps38, Tryz.results38, hh_i5]) ?_))) fun i hi => ?_
 ·simp only [vsAll, argFr, Nat.reduceEqDiff, ↓reduceIte, eq_self, Int.natCast_zero]
 ·simp only [vsAll, binA, binLitA, intA, opA, dstOk, Nat.reduceLT, Nat.reduceEqDiff, ↓reduceIte, eq_self]
  refine condD (fun hd => ?_) (fun hd => ?_)
  ·have hil : i < l.length := by ((try clear hh_i5); omega)
   have hk := kl.k i hil
   have cW : (decide ((0 : Int) ≤ ((l.getD i (0, false)).1 : Int)) && decide (((l.getD i (0, false)).1 : Int) ≤ (d.lim.length : Int) - 1)) = true := by rw [decide_eq_true (by ((try clear hh_i5); omega)), decide_eq_true (by ((try clear hh_i5); omega))]; rfl
   simp only [vsAll, binA, binLitA, intA, loadA, loadRow, partA, partOk, fieldAddrA, indexAddrA, lenA, cellA, okAll, stAll, opsA, opA, allocA, newCells, okCells, storeObj, dstOk, Nat.reduceAdd, Nat.reduceLT, Nat.reduceEqDiff, ↓reduceIte, eq_self, wtAll]
   refine ⟨⟨by ((try clear hh_i5); omega), by ((try clear hh_i5); omega)⟩, hil, ?_⟩
   intro i8 hh_i8; (try simp only [Hp.set_none, ite_none] at hh_i8)
   refine ⟨by simp only [InR_i64]; ((try clear hh_i5 hh_i8); omega), callK_pure (rwithin_tri _ _ _ _) ?_⟩
   rw [cW]
   simp only [vsAll, okAll, stAll, opsA, opA, dstOk, Nat.reduceLT, ↓reduceIte, eq_self]
   refine rwant_call (fun _ => ?_) (fun hv => by cases hv)
   simp only [vsAll, binA, binLitA, intA, opA, dstOk, Nat.reduceLT, Nat.reduceEqDiff, ↓reduceIte, eq_self]
   refine ⟨by simp only [InR_i64]; ((try clear hh_i5 hh_i8); omega), loop_next (i + 1) hil (by ((try clear hh_i5 hh_i8); omega)) ?_ (by (repeat (first | exact HSub_rfl | refine HSub_put_eq (by simp only [vsAll, binA, binLitA, intA, aggA, aggV, boolA, nilA2, isConst, unA, loadA, loadRow, partA, partOk, fieldAddrA, indexAddrA, indexA, fieldA, extractA, lenA, nilCheckA, boxA, boxZ, cellA, cellsA, fillA, okParts, buildSliceA, buildMutA, makeSliceA, partIdx, elemsA, lensA, ifaceA, convA, mmA, pickA, okAll, stAll, opsA, partsA, partsOk, opA, allocA, boxMutA, newCells, okCells, storeObj, appendA, guardV, taA, nM, mapUpA, rangeA, nextA, entryA, lookA, sliceA, sliceM, sliceS, boundsA, opO, okO, copyA, dstOk, nilA, quietOk, nilSliceOp, deferV, panA, resA, argFr, retA.eq_1, retA.eq_2, Nat.reduceAdd, Nat.reduceSub, Nat.reduceMul, Nat.reduceLT, Nat.reduceLeDiff, Nat.reduceEqDiff, Nat.reduceBEq, Int.reduceAdd, Int.reduceSub, Int.reduceMul, Int.reduceNeg, Int.reduceLE, Int.reduceLT, Int.reduceEq, Int.reduceNe, Int.reduceToNat, ↓reduceIte, reduceCtorEq, implies_true, forall_const, eq_self, ne_eq, wtAll, Tryz.ntmps38, Tryz.results38, hh_i5, hh_i8]) ?_ | refine HSub_drop2 (by simp only [eq_self, hh_i8]) ?_ | refine HSub_keep_eq (by simp only [vsAll, binA, binLitA, intA, aggA, aggV, boolA, nilA2, isConst, unA, loadA, loadRow, partA, partOk, fieldAddrA, indexAddrA, indexA, fieldA, extractA, lenA, nilCheckA, boxA, boxZ, cellA, cellsA, fillA, okParts, buildSliceA, buildMutA, makeSliceA, partIdx, elemsA, lensA, ifaceA, convA, mmA, pickA, okAll, stAll, opsA, partsA, partsOk, opA, allocA, boxMutA, newCells, okCells, storeObj, appendA, guardV, taA, nM, mapUpA, rangeA, nextA, entryA, lookA, sliceA, sliceM, sliceS, boundsA, opO, okO, copyA, dstOk, nilA, quietOk, nilSliceOp, deferV, panA, resA, argFr, retA.eq_1, retA.eq_2, Nat.reduceAdd, Nat.reduceSub, Nat.reduceMul, Nat.reduceLT, Nat.reduceLeDiff, Nat.reduceEqDiff, Nat.reduceBEq, Int.reduceAdd, Int.reduceSub, Int.reduceMul, Int.reduceNeg, Int.reduceLE, Int.reduceLT, Int.reduceEq, Int.reduceNe, Int.reduceToNat, ↓reduceIte, reduceCtorEq, implies_true, forall_const, eq_self, ne_eq, wtAll, Tryz.ntmps38, Tryz.results38, hh_i5, hh_i8]) ?_)))⟩
   simp only [vsAll, Nat.reduceEqDiff, ↓reduceIte, eq_self, Int.natCast_add, Int.natCast_one]
  ·have ei : i = l.length := by ((try clear hh_i5); omega)
   subst ei
   simp only [vsAll, okAll, stAll, opsA, opA, dstOk, Nat.reduceLT, Nat.reduceEqDiff, ↓reduceIte, eq_self]
   refine rwant_call (fun hv => ?_) (fun hv => ?_)
   rotate_left
   ·simp only [vsAll, eq_self]
    exact ⟨H, HSub_rfl, .inr ⟨hv, rfl, rfl⟩⟩
   ·simp only [vsAll, loadA, loadRow, partA, partOk, fieldAddrA, lenA, cellsA, fillA, okParts, partsA, partsOk, opA, boxMutA, dstOk, nilSliceOp, Nat.reduceAdd, Nat.reduceLT, Nat.reduceLeDiff, Nat.reduceEqDiff, Nat.reduceBEq, ↓reduceIte, eq_self, wtAll]
    intro ih hh_ih; (try simp only [Hp.set_none, ite_none] at hh_ih)
    refine vs_loop (σ := Nat) (fun i => i ≤ d.lim.length) (fun i => [(1, boo v), (2, .rptr 1 4 (fun _ => rpC d l) 0 0), (9, .ref ih 0 10 0 0), (53, i64 d.lim.length), (54, i64 i)]) (fun i => H.set ih (.box 10 1 fun _ => rhC d l (arI i))) (fun i => d.lim.length - i) 0 (Nat.zero_le _) ?_ ?_ fun i hi => ?_
    ·simp only [vsAll, Nat.reduceEqDiff, ↓reduceIte, eq_self, Int.natCast_zero]
    ·have e0 : (fun _ : Nat => rhC d l (arI 0)) = fun _ => [intsAV d.lim, prAV d.be, prAV d.bl, hdAV l, .lit (.int .u64 0), .lit (.int .u64 0), .lit (.int .u64 0), .lit (.int .u64 0), .lit (.int .u64 0), .lit (.int .u64 0)] := rfl
     rw [e0]
     (repeat (first | exact HSub_rfl | refine HSub_put_eq (by simp only [vsAll, binA, binLitA, intA, aggA, aggV, boolA, nilA2, isConst, unA, loadA, loadRow, partA, partOk, fieldAddrA, indexAddrA, indexA, fieldA, extractA, lenA, nilCheckA, boxA, boxZ, cellA, cellsA, fillA, okParts, buildSliceA, buildMutA, makeSliceA, partIdx, elemsA, lensA, ifaceA, convA, mmA, pickA, okAll, stAll, opsA, partsA, partsOk, opA, allocA, boxMutA, newCells, okCells, storeObj, appendA, guardV, taA, nM, mapUpA, rangeA, nextA, entryA, lookA, sliceA, sliceM, sliceS, boundsA, opO, okO, copyA, dstOk, nilA, quietOk, nilSliceOp, deferV, panA, resA, argFr, retA.eq_1, retA.eq_2, Nat.reduceAdd, Nat.reduceSub, Nat.reduceMul, Nat.reduceLT, Nat.reduceLeDiff, Nat.reduceEqDiff, Nat.reduceBEq, Int.reduceAdd, Int.reduceSub, Int.reduceMul, Int.reduceNeg, Int.reduceLE, Int.reduceLT, Int.reduceEq, Int.reduceNe, Int.reduceToNat, ↓reduceIte, reduceCtorEq, implies_true, forall_const, eq_self, ne_eq, wtAll, Tryz.ntmps38, Tryz.results38, hh_i5, hh_ih]) ?_ | refine HSub_drop2 (by simp only [vsAll, binA, binLitA, intA, aggA, aggV, boolA, nilA2, isConst, unA, loadA, loadRow, partA, partOk, fieldAddrA, indexAddrA, indexA, fieldA, extractA, lenA, nilCheckA, boxA, boxZ, cellA, cellsA, fillA, okParts, buildSliceA, buildMutA, makeSliceA, partIdx, elemsA, lensA, ifaceA, convA, mmA, pickA, okAll, stAll, opsA, partsA, partsOk, opA, allocA, boxMutA, newCells, okCells, storeObj, appendA, guardV, taA, nM, mapUpA, rangeA, nextA, entryA, lookA, sliceA, sliceM, sliceS, boundsA, opO, okO, copyA, dstOk, nilA, quietOk, nilSliceOp, deferV, panA, resA, argFr, retA.eq_1, retA.eq_2, Nat.reduceAdd, Nat.reduceSub, Nat.reduceMul, Nat.reduceLT, Nat.reduceLeDiff, Nat.reduceEqDiff, Nat.reduceBEq, Int.reduceAdd, Int.reduceSub, Int.reduceMul, Int.reduceNeg, Int.reduceLE, Int.reduceLT, Int.reduceEq, Int.reduceNe, Int.reduceToNat, ↓reduceIte, reduceCtorEq, implies_true, forall_const, eq_self, ne_eq, wtAll, Tryz.ntmps38, Tryz.results38, hh_i5, hh_ih]) ?_ | refine HSub_keep_eq (by simp only [vsAll, binA, binLitA, intA, aggA, aggV, boolA, nilA2, isConst, unA, loadA, loadRow, partA, partOk, fieldAddrA, indexAddrA, indexA, fieldA, extractA, lenA, nilCheckA, boxA, boxZ, cellA, cellsA, fillA, okParts, buildSliceA, buildMutA, makeSliceA, partIdx, elemsA, lensA, ifaceA, convA, mmA, pickA, okAll, stAll, opsA, partsA, partsOk, opA, allocA, boxMutA, newCells, okCells, storeObj, appendA, guardV, taA, nM, mapUpA, rangeA, nextA, entryA, lookA, sliceA, sliceM, sliceS, boundsA, opO, okO, copyA, dstOk, nilA, quietOk, nilSliceOp, deferV, panA, resA, argFr, retA.eq_1, retA.eq_2, Nat.reduceAdd, Nat.reduceSub, Nat.reduceMul, Nat.reduceLT, Nat.reduceLeDiff, Nat.reduceEqDiff, Nat.reduceBEq, Int.reduceAdd, Int.reduceSub, Int.reduceMul, Int.reduceNeg, Int.reduceLE, Int.reduceLT, Int.reduceEq, Int.reduceNe, Int.reduceToNat, ↓reduceIte, reduceCtorEq, implies_true, forall_const, eq_self, ne_eq, wtAll, Tryz.ntmps38, Tryz.results38, hh_i5, hh_ih]) ?_))
    ·simp only [vsAll, binA, binLitA, intA, opA, dstOk, Nat.reduceLT, Nat.reduceEqDiff, ↓reduceIte, eq_self]
     refine condD (fun hd2 => ?_) (fun hd2 => ?_)
     ·have his : i < d.lim.length := by ((try clear hh_i5 hh_ih); omega)
      have ra := rh_at d l (arI i) (s := i) (by ((try clear hh_i5 hh_ih); omega))
      skip
      simp only [vsAll, opA, dstOk, nilSliceOp, Nat.reduceLT, Nat.reduceEqDiff, Nat.reduceBEq, ↓reduceIte, eq_self]
      refine vs_draw2 [0, 0, 0, 0, 0, 0, 0, 1] [([0, 1, 2, 3, 4, 5, 6], [], 7)] [] (by decide +kernel) ?_
      have ep : (1 : Int) * 2 ^ i = ((2 ^ i : Nat) : Int) := by rw [Int.one_mul]; simp
      have hp2 : 2 ^ i ≤ 2 ^ 5 := Nat.pow_le_pow_right (by decide) (by ((try clear hh_i5 hh_ih ra); omega))
      have es := (rh_set d l (arI i) (2 ^ i) (s := i) (by ((try clear hh_i5 hh_ih ra); omega))).trans (congrArg (rhC d l) (arI_up i))
      simp only [vsAll, binA, binLitA, intA, fieldAddrA, indexAddrA, nilCheckA, cellA, cellsA, opA, newCells, okCells, storeObj, dstOk, Nat.reduceLT, Nat.reduceLeDiff, Nat.reduceEqDiff, ↓reduceIte, eq_self, wtAll, ep]
      refine ⟨⟨by ((try clear hh_i5 hh_ih ra); omega), by ((try clear hh_i5 hh_ih ra); omega), inrN (by ((try clear hh_i5 hh_ih ra); omega))⟩, ⟨by ((try clear hh_i5 hh_ih ra); omega), by ((try clear hh_i5 hh_ih ra); omega)⟩, by ((try clear hh_i5 hh_ih ra); omega), by simp only [InR_i64]; ((try clear hh_i5 hh_ih ra); omega), loop_next (i + 1) his (by ((try clear hh_i5 hh_ih ra); omega)) ?_ ?_⟩
      ·simp only [vsAll, Nat.reduceEqDiff, ↓reduceIte, eq_self, Int.natCast_add, Int.natCast_one]
      ·rw [Hp.set_set]
       exact Go.V.HSub.set (.refl _) (box_ext fun q hq => es)
     ·have ei : i = d.lim.length := by ((try clear hh_i5 hh_ih); omega)
      subst ei
      simp only [vsAll, loadA, loadRow, partA, partOk, fieldAddrA, lenA, opA, dstOk, Nat.reduceLT, Nat.reduceEqDiff, ↓reduceIte, eq_self, wtAll]
      refine vs_loop (σ := Nat) (fun i => i ≤ d.be.length) (fun i => [(9, .ref ih 0 10 0 0), (67, prAV d.be), (68, i64 d.be.length), (69, i64 i)]) (fun i => H.set ih (.box 10 1 fun _ => rhC d l (arK d i))) (fun i => d.be.length - i) 0 (Nat.zero_le _) ?_ HSub_rfl fun i hi => ?_
      ·simp only [vsAll, Nat.reduceEqDiff, ↓reduceIte, eq_self, Int.natCast_zero]
      ·simp only [vsAll, binA, binLitA, intA, opA, dstOk, Nat.reduceLT, Nat.reduceEqDiff, ↓reduceIte, eq_self]
       refine condD (fun hd3 => ?_) (fun hd3 => ?_)
       ·have hib : i < d.be.length := by ((try clear hh_i5 hh_ih); omega)
        have kp := k.p i hib
        simp only [vsAll, loadA, loadRow, indexAddrA, opA, allocA, storeObj, dstOk, Nat.reduceMul, Nat.reduceLT, Nat.reduceEqDiff, ↓reduceIte, eq_self, wtAll]
        refine ⟨⟨by ((try clear hh_i5 hh_ih); omega), by ((try clear hh_i5 hh_ih); omega)⟩, hib, ?_⟩
        intro ip hh_ip; (try simp only [ite_none] at hh_ip)
        have g : ¬ ip = ih ∧ H ip = none := by simp_all
        obtain ⟨g1, g2⟩ := g
        have g1' : ¬ ih = ip := fun e => g1 e.symm
        have hlt := arK_lt k i hi
        obtain ⟨p1, hp1⟩ : ∃ z : Nat, (d.be.getD i (0, 0)).1 = (z : Int) := ⟨(d.be.getD i (0, 0)).1.toNat, by ((try clear hh_i5 hh_ih hh_ip); omega)⟩
        obtain ⟨p2, hp2⟩ : ∃ z : Nat, (d.be.getD i (0, 0)).2 = (z : Int) := ⟨(d.be.getD i (0, 0)).2.toNat, by ((try clear hh_i5 hh_ih hh_ip); omega)⟩
        have r1 := rh_at d l (arK d i) (s := p1) (by ((try clear hh_i5 hh_ih hh_ip); omega))
        have r2 := rh_at d l (arK d i) (s := p2) (by ((try clear hh_i5 hh_ih hh_ip); omega))
        have eP : prF d.be i = [i64 p1, i64 p2] := by rw [prF_at, hp1, hp2]
        rw [eP]
        skip
        refine ⟨fun q hq => ?_, ?_⟩
        ·match q, hq with
         | 0, _ => exact ⟨rfl, trivial⟩
         | 1, _ => exact ⟨rfl, trivial⟩
        refine vs_draw2 [0, 0, 0, 0, 0, 0, 0, 0, 0, 0, 0, 0, 0, 0, 0, 0, 0, 0, 0, 0, 0, 0, 0, 0, 0, 0, 0, 0, 0, 0, 0, 0, 0, 1, 0, 0, 2, 3] [([0, 1, 2, 3, 4, 5, 6, 7, 8, 9, 10, 11, 12, 13, 14, 15, 16, 17, 18, 19, 20, 21, 22, 23, 24, 25, 26, 27, 28, 29, 30, 31, 32, 34, 35], [5], 33), ([36], [], 37)] [] (by decide +kernel) ?_
        have ep1 : (1 : Int) * 2 ^ p1 = ((2 ^ p1 : Nat) : Int) := by rw [Int.one_mul]; simp
        have ep2 : (1 : Int) * 2 ^ p2 = ((2 ^ p2 : Nat) : Int) := by rw [Int.one_mul]; simp
        have z1 : 2 ^ p1 ≤ 2 ^ 5 := Nat.pow_le_pow_right (by decide) (by ((try clear hh_i5 hh_ih hh_ip g1 g2 g1' r1 r2); omega))
        have z2 : 2 ^ p2 ≤ 2 ^ 5 := Nat.pow_le_pow_right (by decide) (by ((try clear hh_i5 hh_ih hh_ip g1 g2 g1' r1 r2); omega))
        have l1 := hlt p1
        have l2 := hlt p2
        simp only [vsAll, binA, binLitA, intA, loadA, loadRow, partA, partOk, fieldAddrA, indexAddrA, nilCheckA, cellA, cellsA, okParts, buildSliceA, partIdx, elemsA, lensA, partsA, partsOk, opA, dstOk, Nat.reduceAdd, Nat.reduceMul, Nat.reduceLT, Nat.reduceLeDiff, Nat.reduceEqDiff, Int.reduceLE, Int.reduceToNat, ↓reduceIte, eq_self, wtAll, hh_ip, r1, ep2]
        refine ⟨by decide, by decide, by decide, ⟨by ((try clear hh_i5 hh_ih hh_ip g1 g2 g1' r1 r2); omega), by ((try clear hh_i5 hh_ih hh_ip g1 g2 g1' r1 r2); omega)⟩, by ((try clear hh_i5 hh_ih hh_ip g1 g2 g1' r1 r2); omega), by decide, ⟨by ((try clear hh_i5 hh_ih hh_ip g1 g2 g1' r1 r2); omega), by ((try clear hh_i5 hh_ih hh_ip g1 g2 g1' r1 r2); omega), inrN (by ((try clear hh_i5 hh_ih hh_ip g1 g2 g1' r1 r2); omega))⟩, qcall _ ⟨trivial, by simp only [vsAll, okAll, opsA, opA, ↓reduceIte, eq_self], union_tri _ _ _ (by ((try clear hh_i5 hh_ih hh_ip g1 g2 g1' r1 r2); omega)) (by ((try clear hh_i5 hh_ih hh_ip g1 g2 g1' r1 r2); omega))⟩ ?_⟩
        simp only [vsAll, binA, binLitA, intA, loadA, loadRow, partA, partOk, fieldAddrA, indexAddrA, nilCheckA, cellA, cellsA, okParts, buildSliceA, partIdx, elemsA, lensA, partsA, partsOk, opA, dstOk, Nat.reduceAdd, Nat.reduceMul, Nat.reduceLT, Nat.reduceLeDiff, Nat.reduceEqDiff, Int.reduceLE, Int.reduceToNat, ↓reduceIte, eq_self, wtAll, hh_ip, r2, ep1]
        refine ⟨by decide, ⟨by ((try clear hh_i5 hh_ih hh_ip g1 g2 g1' r1 r2); omega), by ((try clear hh_i5 hh_ih hh_ip g1 g2 g1' r1 r2); omega)⟩, by ((try clear hh_i5 hh_ih hh_ip g1 g2 g1' r1 r2); omega), by decide, ⟨by ((try clear hh_i5 hh_ih hh_ip g1 g2 g1' r1 r2); omega), by ((try clear hh_i5 hh_ih hh_ip g1 g2 g1' r1 r2); omega), inrN (by ((try clear hh_i5 hh_ih hh_ip g1 g2 g1' r1 r2); omega))⟩, qcall _ ⟨trivial, by simp only [vsAll, okAll, opsA, opA, ↓reduceIte, eq_self], union_tri _ _ _ (by ((try clear hh_i5 hh_ih hh_ip g1 g2 g1' r1 r2); omega)) (by ((try clear hh_i5 hh_ih hh_ip g1 g2 g1' r1 r2); omega))⟩ ?_⟩
        simp only [vsAll, binA, binLitA, intA, loadA, loadRow, partA, partOk, fieldAddrA, indexAddrA, nilCheckA, cellA, cellsA, opA, newCells, okCells, storeObj, dstOk, Nat.reduceMul, Nat.reduceLT, Nat.reduceLeDiff, Nat.reduceEqDiff, ↓reduceIte, eq_self, wtAll, hh_ip]
        refine ⟨⟨by ((try clear hh_i5 hh_ih hh_ip g1 g2 g1' r1 r2); omega), by ((try clear hh_i5 hh_ih hh_ip g1 g2 g1' r1 r2); omega)⟩, by ((try clear hh_i5 hh_ih hh_ip g1 g2 g1' r1 r2); omega), ⟨by ((try clear hh_i5 hh_ih hh_ip g1 g2 g1' r1 r2); omega), by ((try clear hh_i5 hh_ih hh_ip g1 g2 g1' r1 r2); omega)⟩, by ((try clear hh_i5 hh_ih hh_ip g1 g2 g1' r1 r2); omega), by simp only [InR_i64]; ((try clear hh_i5 hh_ih hh_ip g1 g2 g1' r1 r2); omega), loop_next (i + 1) hib (by show d.be.length - (i + 1) < d.be.length - i; ((try clear hh_i5 hh_ih hh_ip g1 g2 g1' r1 r2); omega)) ?_ ?_⟩
        ·simp only [vsAll, Nat.reduceEqDiff, ↓reduceIte, eq_self, Int.natCast_add, Int.natCast_one]
        ·have eq : d.be.getD i (0, 0) = ((p1 : Int), (p2 : Int)) := Prod.ext hp1 hp2
         have e3 := arP_up (arK d i) ((p1 : Int), (p2 : Int)) (by simp only [Int.toNat_natCast]; ((try clear hh_i5 hh_ih hh_ip g1 g2 g1' r1 r2); omega))
         simp only [Int.toNat_natCast] at e3
         have e4 : arK d (i + 1) = arP (arK d i) ((p1 : Int), (p2 : Int)) := by show arP (arK d i) (d.be.getD i (0, 0)) = _; rw [eq]
         have e1 := rh_set d l (arK d i) (arK d i p1 ||| 2 ^ p2) (s := p1) (by ((try clear hh_i5 hh_ih hh_ip g1 g2 g1' r1 r2); omega))
         rw [e1, rh_set2 d l _ _ (by ((try clear hh_i5 hh_ih hh_ip g1 g2 g1' r1 r2); omega)), e4, ← e3]
         (refine HSub_eqn fun jj => ?_; refine (Classical.em (jj = ih)).elim (fun E0 => by rw [E0]; first | (left; simp only [vsAll, ↓reduceIte, reduceCtorEq, eq_self]; done) | (right; simp only [vsAll, ↓reduceIte, eq_self]; done)) (fun E0 => ?_); refine (Classical.em (jj = ip)).elim (fun E1 => by rw [E1]; first | (left; simp only [vsAll, ↓reduceIte, eq_self, hh_ip]; done) | (right; simp only [vsAll, binA, binLitA, intA, aggA, aggV, boolA, nilA2, isConst, unA, loadA, loadRow, partA, partOk, fieldAddrA, indexAddrA, indexA, fieldA, extractA, lenA, nilCheckA, boxA, boxZ, cellA, cellsA, fillA, okParts, buildSliceA, buildMutA, makeSliceA, partIdx, elemsA, lensA, ifaceA, convA, mmA, pickA, okAll, stAll, opsA, partsA, partsOk, opA, allocA, boxMutA, newCells, okCells, storeObj, appendA, guardV, taA, nM, mapUpA, rangeA, nextA, entryA, lookA, sliceA, sliceM, sliceS, boundsA, opO, okO, copyA, dstOk, nilA, quietOk, nilSliceOp, deferV, panA, resA, argFr, retA.eq_1, retA.eq_2, Nat.reduceAdd, Nat.reduceSub, Nat.reduceMul, Nat.reduceLT, Nat.reduceLeDiff, Nat.reduceEqDiff, Nat.reduceBEq, Int.reduceAdd, Int.reduceSub, Int.reduceMul, Int.reduceNeg, Int.reduceLE, Int.reduceLT, Int.reduceEq, Int.reduceNe, Int.reduceToNat, ↓reduceIte, reduceCtorEq, implies_true, forall_const, eq_self, ne_eq, wtAll, Tryz.ntmps38, Tryz.results38, hh_i5, hh_ih, hh_ip, g1, g2, g1', r1, r2]; done)) (fun E1 => ?_); right; simp only [vsAll, ↓reduceIte, eq_self, E0, E1])
       ·have ei : i = d.be.length := by ((try clear hh_i5 hh_ih); omega)
        subst ei
        simp only [vsAll, opA, dstOk, nilSliceOp, resA, retA.eq_1, Nat.reduceLT, Nat.reduceEqDiff, Nat.reduceBEq, ↓reduceIte, eq_self, Tryz.results38]
        exact ⟨_, HSub_rfl, .inl ⟨hv, ih, hh_ih, rfl, rfl⟩⟩
end Go.Proofs.YtclkjifgipcamaaGreat
end
section
set_option linter.unusedVariables false
set_option linter.unusedSimpArgs false
set_option maxHeartbeats 8000000
set_option maxRecDepth 100000
namespace Go.Proofs.YtclkjifgipcamaaGreat
open Go.V
def dlN (a : Nat → Nat) (o : Nat) : Nat → Nat
 | 0 => 0
 | s + 1 => if a s &&& o = 0 then dlN a o s else dlN a o s ||| 2 ^ s
theorem dlN_lt (a : Nat → Nat) (o : Nat) : ∀ n, dlN a o n < 2 ^ n
 | 0 => Nat.one_pos
 | n + 1 => by
   have ih := dlN_lt a o n
   have e : 2 ^ (n + 1) = 2 ^ n + 2 ^ n := by rw [Nat.pow_succ]; omega
   rw [dlN]
   split
   ·omega
   ·refine Nat.or_lt_two_pow (by omega) ?_
    have := Nat.two_pow_pos n
    omega
theorem dull_tri (a : Nat → Nat) (o : Nat) (H : Hp) (ha : ∀ s, a s < 2 ^ 6) (ho : o < 2 ^ 6) : PTri Tryz.prog (fnA 39) [.arr 6 1 (arF a), u64 o] H (u64 (dlN a o 6 : Nat)) := by
 refine tri_v0 (fun _ => false) Tryz.func39 (by kernel_rfl) rfl (by simp only [List.length_append, List.length_cons, List.length_nil, Tryz.ntmps39]; decide) ?_
 simp only [vsAll, loadA, loadRow, boxA, boxZ, opA, dstOk, nilSliceOp, argFr, Nat.reduceLT, Nat.reduceEqDiff, ↓reduceIte, eq_self, wtAll, Tryz.ntmps39]
 refine vs_loop (σ := Nat) (fun i => i ≤ 6) (fun i => [(1, u64 o), (4, u64 (dlN a o i : Nat)), (7, .arr 6 1 (arF a)), (8, i64 i)]) (fun _ => H) (fun i => 6 - i) 0 (Nat.zero_le _) ?_ HSub_rfl fun i hi => ?_
 ·have e0 : dlN a o 0 = 0 := rfl
  simp only [vsAll, argFr, Nat.reduceEqDiff, ↓reduceIte, eq_self, Int.natCast_zero, e0]
 ·simp only [vsAll, binA, binLitA, intA, opA, dstOk, Nat.reduceLT, Nat.reduceEqDiff, ↓reduceIte, eq_self]
  refine condD (fun hd => ?_) (fun hd => ?_)
  ·have hi6 : i < 6 := by omega
   have l1 := dlN_lt a o i
   have l2 := dlN_lt a o (i + 1)
   have p1 : 2 ^ i ≤ 2 ^ 5 := Nat.pow_le_pow_right (by decide) (by omega)
   have p2 : 2 ^ (i + 1) ≤ 2 ^ 6 := Nat.pow_le_pow_right (by decide) (by omega)
   have ep : (1 : Int) * 2 ^ i = ((2 ^ i : Nat) : Int) := by rw [Int.one_mul]; simp
   have es : dlN a o (i + 1) = if a i &&& o = 0 then dlN a o i else dlN a o i ||| 2 ^ i := rfl
   have hai := ha i
   simp only [vsAll, binA, binLitA, intA, partA, indexA, opA, dstOk, nilSliceOp, Nat.reduceLT, Nat.reduceEqDiff, ↓reduceIte, eq_self, wtAll]
   refine ⟨⟨by omega, by omega⟩, ⟨by omega, by omega, inrN (by omega), inrN (by omega)⟩, condV (fun hc => ?_) (fun hc => ?_)⟩
   ·rw [Bool.not_eq_true', decide_eq_false_iff_not] at hc
    rw [if_neg (by omega)] at es
    simp only [vsAll, binA, binLitA, intA, cellA, cellsA, okParts, buildSliceA, partIdx, elemsA, lensA, okAll, stAll, opsA, partsA, partsOk, opA, dstOk, Nat.reduceAdd, Nat.reduceMul, Nat.reduceLT, Nat.reduceLeDiff, Nat.reduceEqDiff, ↓reduceIte, eq_self, wtAll, ep]
    refine ⟨⟨by omega, by omega, inrN (by omega)⟩, callK_pure (union_tri _ _ _ (by omega) (by omega)) ?_⟩
    rw [← es]
    simp only [vsAll, binA, binLitA, intA, opA, dstOk, nilSliceOp, Nat.reduceLT, Nat.reduceEqDiff, ↓reduceIte, eq_self]
    refine ⟨by simp only [InR_i64]; omega, loop_next (i + 1) hi6 (by omega) ?_ HSub_rfl⟩
    simp only [vsAll, Nat.reduceEqDiff, ↓reduceIte, eq_self, Int.natCast_add, Int.natCast_one]
   ·rw [Bool.not_eq_false', decide_eq_true_eq] at hc
    rw [if_pos (by omega)] at es
    simp only [vsAll, binA, binLitA, intA, opA, dstOk, Nat.reduceLT, Nat.reduceEqDiff, ↓reduceIte, eq_self]
    refine ⟨by simp only [InR_i64]; omega, loop_next (i + 1) hi6 (by omega) ?_ HSub_rfl⟩
    simp only [vsAll, Nat.reduceEqDiff, ↓reduceIte, eq_self, es, Int.natCast_add, Int.natCast_one]
  ·have e1 : i = 6 := by omega
   subst e1
   simp only [vsAll, opA, dstOk, nilSliceOp, resA, retA.eq_1, Nat.reduceLT, Nat.reduceEqDiff, ↓reduceIte, eq_self, Tryz.results39]
theorem rh_arr (d : Dr) (l : List (Nat × Bool)) (a : Nat → Nat) : AV.Le (.arr 6 1 fun r => List.take 1 (List.drop (4 + r * 1) (rhC d l a))) (.arr 6 1 (arF a)) := .arr fun q hq => by
 rcases (by omega : q = 0 ∨ q = 1 ∨ q = 2 ∨ q = 3 ∨ q = 4 ∨ q = 5) with rfl | rfl | rfl | rfl | rfl | rfl <;> rfl
theorem rdull_tri (d : Dr) (l : List (Nat × Bool)) (o : Nat) (H : Hp) (k : OkD d) (kl : OkL d l) (ho : o < 2 ^ d.lim.length) : PTri Tryz.prog (fnA 10) [.agg (rpC d l), i64 o] H (.tuple [i64 (dlN (arK d d.be.length) o 6 : Nat), i64 0]) := by
 have n1 := k.n1
 have n6 := k.n6
 refine Tri.drop ?_
 refine tri_a (m := mset [5]) ans36 Tryz.func10 (by kernel_rfl) rfl (by simp only [List.length_append, List.length_cons, List.length_nil, Tryz.ntmps10]; decide) ?_
 simp only [vsAll, boxA, boxZ, okAll, stAll, opsA, opA, allocA, dstOk, nilSliceOp, deferV, argFr, Nat.reduceAdd, Nat.reduceLT, Nat.reduceBEq, ↓reduceIte, eq_self, wtAll, Tryz.ntmps10]
 intro i5 hh_i5; (try simp only [Hp.set_none, ite_none] at hh_i5)
 refine vs_draw2 [0, 0, 0, 0, 0, 0, 0, 0, 0, 0, 0, 0, 0, 1, 2] [([0, 1, 2, 3, 4, 5, 6, 7, 8, 9, 10, 11, 12], [], 13)] [14] (by decide +kernel) ?_
 have em : min (d.lim.length : Int) 62 = d.lim.length := by ((try clear hh_i5); omega)
 have c0 : decide ((0 : Int) ≤ (o : Int)) = true := decide_eq_true (Int.natCast_nonneg _)
 have cz : decide ((o : Int) / 2 ^ d.lim.length = 0) = true := decide_eq_true (by
  have : (o : Int) / 2 ^ d.lim.length = ((o / 2 ^ d.lim.length : Nat) : Int) := by simp
  rw [this, Nat.div_eq_of_lt ho]; rfl)
 have p6 : 2 ^ d.lim.length ≤ 2 ^ 6 := Nat.pow_le_pow_right (by decide) n6
 have eS : ∀ z : Int, shB IntKind.i64 z = 64 := fun _ => rfl
 simp only [vsAll, binA, binLitA, intA, loadA, loadRow, partA, partOk, fieldAddrA, lenA, mmA, pickA, okAll, stAll, opsA, opA, guardV, dstOk, argFr, Nat.reduceLT, Nat.reduceEqDiff, ↓reduceIte, implies_true, forall_const, eq_self, wtAll, em, c0, cz, eS]
 refine ⟨⟨by ((try clear hh_i5); omega), by ((try clear hh_i5); omega)⟩, _, ropenH_tri d l true _ k kl, ?_⟩
 rintro r H' ⟨rfl, rfl⟩
 simp only [vsAll, loadA, loadRow, fieldAddrA, nilCheckA, convA, okAll, stAll, opsA, opA, dstOk, argFr, Nat.reduceAdd, Nat.reduceMul, Nat.reduceLT, Nat.reduceEqDiff, ↓reduceIte, eq_self, wtAll]
 have hdl := dlN_lt (arK d d.be.length) o 6
 refine ⟨inrN (by ((try clear hh_i5); omega)), callK_pure (Tri.args (args' := [.arr 6 1 (arF (arK d d.be.length)), u64 o]) (dull_tri _ o _ (arK_lt k _ (Nat.le_refl _)) (by ((try clear hh_i5); omega))) rfl fun j hj => ?_) ?_⟩
 ·match j, hj with
  | 0, _ => exact rh_arr d l _
  | 1, _ => exact .refl _
 simp only [vsAll, cellA, cellsA, convA, opA, newCells, okCells, storeObj, dstOk, nilSliceOp, Nat.reduceLT, Nat.reduceEqDiff, Nat.reduceBEq, ↓reduceIte, eq_self, wtAll]
 refine ⟨by simp only [InR_i64]; ((try clear hh_i5); omega), Ent.ret ⟨i5, _, rfl, by simp only [vsAll, ↓reduceIte, eq_self]; try rfl, ?_⟩⟩
 simp only [vsAll, loadA, loadRow, partA, partOk, resA, retA.eq_2, Nat.reduceLT, Nat.reduceEqDiff, ↓reduceIte, eq_self, wtAll, Tryz.results10]
 exact ⟨H, by (repeat (first | exact HSub_rfl | refine HSub_put_eq (by simp only [vsAll, binA, binLitA, intA, aggA, aggV, boolA, nilA2, isConst, unA, loadA, loadRow, partA, partOk, fieldAddrA, indexAddrA, indexA, fieldA, extractA, lenA, nilCheckA, boxA, boxZ, cellA, cellsA, fillA, okParts, buildSliceA, buildMutA, makeSliceA, partIdx, elemsA, lensA, ifaceA, convA, mmA, pickA, okAll, stAll, opsA, partsA, partsOk, opA, allocA, boxMutA, newCells, okCells, storeObj, appendA, guardV, taA, nM, mapUpA, rangeA, nextA, entryA, lookA, sliceA, sliceM, sliceS, boundsA, opO, okO, copyA, dstOk, nilA, quietOk, nilSliceOp, deferV, panA, resA, argFr, retA.eq_1, retA.eq_2, Nat.reduceAdd, Nat.reduceSub, Nat.reduceMul, Nat.reduceLT, Nat.reduceLeDiff, Nat.reduceEqDiff, Nat.reduceBEq, Int.reduceAdd, Int.reduceSub, Int.reduceMul, Int.reduceNeg, Int.reduceLE, Int.reduceLT, Int.reduceEq, Int.reduceNe, Int.reduceToNat, ↓reduceIte, reduceCtorEq, implies_true, forall_const, eq_self, ne_eq, wtAll, Tryz.ntmps10, Tryz.results10, hh_i5]) ?_ | refine HSub_drop2 (by simp only [eq_self, hh_i5]) ?_ | refine HSub_keep_eq (by simp only [vsAll, binA, binLitA, intA, aggA, aggV, boolA, nilA2, isConst, unA, loadA, loadRow, partA, partOk, fieldAddrA, indexAddrA, indexA, fieldA, extractA, lenA, nilCheckA, boxA, boxZ, cellA, cellsA, fillA, okParts, buildSliceA, buildMutA, makeSliceA, partIdx, elemsA, lensA, ifaceA, convA, mmA, pickA, okAll, stAll, opsA, partsA, partsOk, opA, allocA, boxMutA, newCells, okCells, storeObj, appendA, guardV, taA, nM, mapUpA, rangeA, nextA, entryA, lookA, sliceA, sliceM, sliceS, boundsA, opO, okO, copyA, dstOk, nilA, quietOk, nilSliceOp, deferV, panA, resA, argFr, retA.eq_1, retA.eq_2, Nat.reduceAdd, Nat.reduceSub, Nat.reduceMul, Nat.reduceLT, Nat.reduceLeDiff, Nat.reduceEqDiff, Nat.reduceBEq, Int.reduceAdd, Int.reduceSub, Int.reduceMul, Int.reduceNeg, Int.reduceLE, Int.reduceLT, Int.reduceEq, Int.reduceNe, Int.reduceToNat, ↓reduceIte, reduceCtorEq, implies_true, forall_const, eq_self, ne_eq, wtAll, Tryz.ntmps10, Tryz.results10, hh_i5]) ?_)), rfl, rfl⟩
end Go.Proofs.YtclkjifgipcamaaGreat
end
