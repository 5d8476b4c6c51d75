/- Helper lemmas of this claim, part 4. -/
import Derived.Shelf.Sort.Plain
import Derived.Test.YtclkjifgipcamaaRa3
section
set_option linter.unusedVariables false
set_option linter.unusedSimpArgs false
set_option maxHeartbeats 4000000
set_option maxRecDepth 100000
namespace Go.Proofs.Ytclkjifgipcamaa
open Go.V
abbrev rTl : RefT := ⟨163, true⟩
theorem lsaid_no (v : AV) (H : Hp) : PTri Try.prog (fnA 33) [.lit .nilIface, v] H (.tuple []) := by
 refine tri_v0 (fun _ => false) Try.func33 (by kernel_rfl) rfl (by simp only [List.length_append, List.length_cons, List.length_nil, Try.ntmps33]; decide) ?_
 simp only [vsAll, binA, binLitA, nilA2, isConst, opA, dstOk, resA, argFr, retA.eq_2, Nat.reduceLT, ↓reduceIte, eq_self, wtAll, Try.ntmps33, Try.results33]
theorem intT163 : intT Try.prog 163 = none := by kernel_rfl
theorem lsaid_err {c : Int} {id : Nat} {f : Nat → List AV} {H : Hp} (ho : H id = some (.box 1 1 f)) (hl : (f 0).length = 1) :
  Tri Try.prog (fnA 33) [refL c, .ref id 0 1 0 0] H fun r H' => H' = H.set id (.box 1 1 fun _ => [i64 c]) ∧ r = .ret (.tuple []) := by
 refine Tri.drop ?_
 refine tri_v0 (mset [4]) Try.func33 (by kernel_rfl) rfl (by simp only [List.length_append, List.length_cons, List.length_nil, Try.ntmps33]; decide) ?_
 simp only [vsAll, binA, nilA2, unA, loadA, loadRow, partA, partOk, fieldAddrA, extractA, nilCheckA, cellA, cellsA, opA, allocA, newCells, okCells, storeObj, taA, dstOk, nilSliceOp, resA, argFr, retA.eq_2, Nat.reduceAdd, Nat.reduceLT, Nat.reduceEqDiff, Nat.reduceBEq, ↓reduceIte, reduceCtorEq, eq_self, wtAll, Try.ntmps33, Try.results33, intT163]
 intro k hh_k; (try simp only [Hp.set_none, ite_none] at hh_k)
 have hk : ¬ id = k := fun e => by rw [e, hh_k] at ho; cases ho
 simp only [vsAll, Nat.reduceLT, ↓reduceIte, eq_self, ho, hk]
 rw [List.drop_eq_nil_of_le (show (f 0).length ≤ 1 by ((try clear hh_k); omega)), Hp.set_set]
 exact ⟨_, HSub.set (HSub.drop (HSub.refl _) hh_k) (.refl _), rfl, rfl⟩
/-- What a deferred function does. -/
theorem lans_of {g : FuncId} {fn : Func} {id : Nat} {p1 p2 : String} {a1 a2 : Array Edge} {ty : Array TypeId} (hf : Try.prog.funcs[g]? = some fn)
  (hb : fn.body = some (.region id #[⟨some 1, .call ⟨.builtin .recover, #[], #[]⟩, 20, p1, a1, none⟩, ⟨some 2, .call ⟨.value (.func 33), #[.tmp 1, .tmp 0], ty⟩, 0, p2, a2, none⟩] false))
  (hr : fn.results = #[]) (hn : fn.ntmps = 3) (he : ∀ (vs : Array Value) (w : World), (callFunc g vs).run Try.prog w = .ok (.enter g vs) w) : AnsOk Try.prog g rTl := by
 refine ⟨fun H id f S vs ho hH ha => ?_, fun H id f c S vs ho hH ha => ?_, he⟩
 ·refine (ansR (m := fun _ => false) (args := [.ref id 0 1 0 0]) (Q := fun H' => H' = H) (u' := .returning) (rv := .lit .nilIface) (cv := .nilIface) hf hb hr (by rw [hn]; exact Nat.le_of_ble_eq_true rfl) (fun c₀ cs hu => .inr ⟨by simp [recoverD, hu], rfl, rfl⟩) hH ha (.lit _) (by rw [hn]; decide) ?_).mono ?_
  ·simp only [vcOps, vsAll, okAll, stAll, opsA, opA, dstOk, argFr, Nat.reduceLT, ↓reduceIte, reduceCtorEq, eq_self, hn]
   refine callK_pure (lsaid_no _ _) ?_
   simp only [vsAll, eq_self]
  ·rintro e u w ⟨h1, h2, S', H', h3, h4, h5, rfl⟩
   exact ⟨h1, h2, S', h3, h4, h5⟩
 ·have hl : (f 0).length = 1 := by
   obtain ⟨bb, cc, e, q1, q2, q3, q4⟩ := hH.obj id _ ho
   exact q4.2.1 0 (by omega)
  refine (ansR (m := fun _ => false) (args := [.ref id 0 1 0 0]) (Q := fun H' => H' = H.set id (.box 1 1 fun _ => [i64 c])) (u' := .panicking [{ v := Go.V.refusal rTl c, recovered := true }]) (rv := refL c) (cv := Go.V.refusal rTl c) hf hb hr (by rw [hn]; exact Nat.le_of_ble_eq_true rfl) (fun c₀ cs hu => .inl (by simp [recoverD, hu])) hH ha (.iface (.agg rfl fun k hk => by
   have : k = 0 := by simp at hk; exact hk
   subst this
   exact .lit _)) (by rw [hn]; decide) ?_).mono ?_
  ·simp only [vcOps, vsAll, okAll, stAll, opsA, opA, dstOk, argFr, Nat.reduceLT, ↓reduceIte, reduceCtorEq, eq_self, hn]
   refine ⟨_, lsaid_err ho hl, ?_⟩
   rintro r H' ⟨rfl, rfl⟩
   simp only [vsAll, eq_self]
  ·rintro e u w ⟨h1, h2, S', H', h3, h4, h5, rfl⟩
   exact ⟨h1, h2, S', h3, h4, h5⟩
theorem ans32 : AnsOk Try.prog 32 rTl := lans_of Try.func32 rfl rfl rfl fun vs w => by kernel_rfl
theorem ans66 : AnsOk Try.prog 66 rTl := lans_of Try.func66 rfl rfl rfl fun vs w => by kernel_rfl
theorem ans69 : AnsOk Try.prog 69 rTl := lans_of Try.func69 rfl rfl rfl fun vs w => by kernel_rfl
theorem ans130 : AnsOk Try.prog 130 rTl := lans_of Try.func130 rfl rfl rfl fun vs w => by kernel_rfl
end Go.Proofs.Ytclkjifgipcamaa
end
section
set_option linter.unusedVariables false
set_option linter.unusedSimpArgs false
set_option maxHeartbeats 4000000
set_option maxRecDepth 100000
namespace Go.Proofs.Ytclkjifgipcamaa
open Go.V
theorem openL_call {h : Hl} {v : Bool} {H : Hp} {K : AV → Hp → Prop} {Kp : AV → Hp → Prop} (k : OkH h) (h1 : v = true → ∀ im, H im = none → K (hP h im) (H.set im (.memo (wetM h)))) (h2 : v = false → Kp (refL 2) H) :
  CallK Try.prog (fnA 34) [h.av, boo v] H K Kp := by
 refine ⟨_, openL_tri h v H k, ?_⟩
 rintro r H' (⟨hv, im, hi, rfl, rfl⟩ | ⟨hv, rfl, rfl⟩)
 ·exact h1 hv im hi
 ·exact h2 hv
abbrev flV (h : Hl) (d l : Int) : Int × Int := spnV (fun b => lsN (wetS h d l) b 6) (allT h)
theorem wlflow_tri (h : Hl) (d l : Int) (H : Hp) (k : OkH h) (hT : 0 < (allT h).length) (hd : 0 ≤ d ∧ d ≤ 12) (hl : -3 ≤ l ∧ l ≤ 3) :
  PTri Try.prog (fnA 9) [h.av, i64 d, i64 l] H (.tuple [.agg [i64 (flV h d l).1, i64 (flV h d l).2], i64 0]) := by
 have hw := wetN_lt h d l h.N
 have p : 2 ^ h.N ≤ 2 ^ 6 := Nat.pow_le_pow_right (by decide) k.nS
 have hS : wetS h d l < 2 ^ 60 := by unfold wetS; omega
 have hN : 0 < h.N := k.n1
 have c1 : ((decide (0 ≤ d) && decide (d ≤ 12)) && (decide (-3 ≤ l) && decide (l ≤ 3))) = true := by
  rw [decide_eq_true hd.1, decide_eq_true hd.2, decide_eq_true hl.1, decide_eq_true hl.2]; rfl
 refine Tri.drop ?_
 refine tri_a (m := mset [6, 7, 8]) ans32 Try.func9 (by kernel_rfl) rfl (by simp only [List.length_append, List.length_cons, List.length_nil, Try.ntmps9]; decide) ?_
 simp only [vsAll, boxA, boxZ, cellA, cellsA, fillA, okParts, okAll, stAll, opsA, partsA, partsOk, opA, allocA, newCells, okCells, storeObj, dstOk, deferV, argFr, Nat.reduceAdd, Nat.reduceLT, Nat.reduceLeDiff, Nat.reduceEqDiff, Nat.reduceBEq, ↓reduceIte, eq_self, wtAll, Try.ntmps9]
 intro i6 hh_i6; (try simp only [Hp.set_none, ite_none] at hh_i6); intro i7 hh_i7; (try simp only [ite_none] at hh_i7); intro i8 hh_i8; (try simp only [ite_none] at hh_i8)
 refine vs_draw2 [0, 0, 0, 1, 2] [([0, 1, 2], [], 3)] [4] (by decide +kernel) ?_
 simp only [vsAll, loadA, loadRow, partA, partOk, opA, dstOk, Nat.reduceLT, Nat.reduceEqDiff, ↓reduceIte, eq_self, wtAll]
 refine qcall _ ⟨trivial, by simp only [vsAll, okAll, opsA, opA, ↓reduceIte, eq_self], isPlace_tri d l _⟩ ?_
 rw [c1]
 simp only [vsAll, okAll, stAll, opsA, opA, dstOk, Nat.reduceLT, Nat.reduceEqDiff, ↓reduceIte, eq_self]
 refine openL_call k (fun _ im him => ?_) (fun hb => by cases hb)
 simp only [Hp.set_none] at him
 obtain ⟨⟨a1, a2⟩, _, ⟨a3, a4⟩, ⟨a5, a6⟩, a7⟩ := him
 skip
 simp only [vsAll, loadA, loadRow, partA, partOk, okAll, stAll, opsA, opA, dstOk, Nat.reduceLT, Nat.reduceEqDiff, ↓reduceIte, eq_self, wtAll, a2]
 refine callK_pure (lwet_tri h im d l _ k (Hp.set_same _ _ _) hd hl) ?_
 simp only [vsAll, okAll, stAll, opsA, opA, dstOk, Nat.reduceLT, Nat.reduceEqDiff, ↓reduceIte, eq_self]
 refine callK_pure (ltotal_tri k (wetS h d l) im _ (Hp.set_same _ _ _) hT hN hS) ?_
 simp only [vsAll, cellA, cellsA, opA, newCells, okCells, storeObj, dstOk, Nat.reduceAdd, Nat.reduceLT, Nat.reduceEqDiff, ↓reduceIte, eq_self, wtAll, hh_i7, hh_i8, a4, a6]
 refine Ent.ret ⟨i7, _, rfl, by simp only [vsAll, ↓reduceIte, eq_self]; try rfl, ?_⟩
 simp only [vsAll, loadA, loadRow, partA, partOk, resA, retA.eq_2, Nat.reduceLT, Nat.reduceEqDiff, ↓reduceIte, eq_self, wtAll, Try.results9, hh_i7]
 refine dropR_pure ?_ (by (repeat (first | exact HSub_rfl | refine HSub_put_eq (by simp only [vsAll, ↓reduceIte, eq_self, reduceCtorEq, Nat.reduceEqDiff, hh_i6, hh_i7, hh_i8, a1, a2, a3, a4, a5, a6, a7]) ?_ | refine HSub_drop2 (by simp only [eq_self, hh_i6, hh_i7, hh_i8, a7]) ?_ | refine HSub_keep_eq (by simp only [vsAll, ↓reduceIte, eq_self, reduceCtorEq, Nat.reduceEqDiff, hh_i6, hh_i7, hh_i8, a1, a2, a3, a4, a5, a6, a7]) ?_)))
 rfl
end Go.Proofs.Ytclkjifgipcamaa
end
section
set_option linter.unusedVariables false
set_option linter.unusedSimpArgs false
set_option maxHeartbeats 4000000
set_option maxRecDepth 100000
namespace Go.Proofs.Ytclkjifgipcamaa
open Go.V
def orM (L : List (List Int)) : Nat → Nat
 | 0 => 0
 | i + 1 => orM L i ||| lksN (L.getD i []) 6
def anM (L : List (List Int)) : Nat → Nat
 | 0 => 63
 | i + 1 => anM L i &&& lksN (L.getD i []) 6
theorem orM_lt (L : List (List Int)) : ∀ i, orM L i < 2 ^ 6
 | 0 => Nat.two_pow_pos 6
 | i + 1 => Nat.or_lt_two_pow (orM_lt L i) (lksN_lt _ 6)
theorem anM_lt (L : List (List Int)) : ∀ i, anM L i < 2 ^ 6
 | 0 => show 63 < 64 by decide
 | i + 1 => Nat.lt_of_le_of_lt Nat.and_le_left (anM_lt L i)
theorem wlleaks_tri (h : Hl) (H : Hp) (k : OkH h) (hT : 0 < (allT h).length) :
  PTri Try.prog (fnA 20) [h.av] H (.tuple [i64 (orM (allT h) (allT h).length : Nat), i64 (anM (allT h) (allT h).length : Nat), i64 0]) := by
 refine Tri.drop ?_
 refine tri_a (m := mset [2, 3, 4, 5, 6, 8, 9, 15]) ans66 Try.func20 (by kernel_rfl) rfl (by simp only [List.length_append, List.length_cons, List.length_nil, Try.ntmps20]; decide) ?_
 simp only [vsAll, loadA, loadRow, partA, partOk, boxA, boxZ, okAll, stAll, opsA, opA, allocA, dstOk, nilSliceOp, deferV, argFr, Nat.reduceAdd, Nat.reduceLT, Nat.reduceEqDiff, Nat.reduceBEq, ↓reduceIte, eq_self, wtAll, Try.ntmps20]
 intro i4 hh_i4; (try simp only [Hp.set_none, ite_none] at hh_i4)
 refine openL_call k (fun _ im him => ?_) (fun hb => by cases hb)
 simp only [Hp.set_none] at him
 obtain ⟨⟨a1, a2⟩, a3⟩ := him
 skip
 simp only [vsAll, okAll, stAll, opsA, opA, dstOk, Nat.reduceLT, ↓reduceIte, eq_self]
 refine callK_pure (ltru_tri k im _ (Hp.set_same _ _ _) hT) ?_
 have hle := allT_len k
 simp only [vsAll, lenA, opA, dstOk, Nat.reduceLT, ↓reduceIte, eq_self, wtAll]
 refine vs_loopD (σ := Nat) (fun i => i ≤ (allT h).length) (fun i => [(4, .ref i4 0 1 0 0), (5, u64 (anM (allT h) i : Nat)), (6, u64 (orM (allT h) i : Nat)), (13, trA h), (14, i64 (allT h).length), (15, i64 i)]) (fun _ => [.call 66 [.ref i4 0 1 0 0]])
  (fun i => (H.set i4 (.box 1 1 fun _ => [i64 0])).set im (.memo (wetM h))) (fun i => (allT h).length - i) 0 (Nat.zero_le _) ?_ rfl HSub_rfl fun i hi => ?_
 ·simp only [vsAll, Nat.reduceEqDiff, ↓reduceIte, eq_self, Int.natCast_zero]
  exact ⟨.refl _, .refl _⟩
 ·simp only [vsAll, binA, binLitA, intA, opA, dstOk, Nat.reduceLT, Nat.reduceEqDiff, ↓reduceIte, eq_self]
  refine condD (fun hd => ?_) (fun hd => ?_)
  ·have hil : i < (allT h).length := by ((try clear hh_i4 a1 a2 a3); omega)
   simp only [vsAll, loadA, loadRow, indexAddrA, okAll, stAll, opsA, opA, allocA, storeObj, dstOk, nilSliceOp, Nat.reduceMul, Nat.reduceLT, Nat.reduceEqDiff, Nat.reduceBEq, ↓reduceIte, eq_self, wtAll]
   refine ⟨⟨by ((try clear hh_i4 a1 a2 a3); omega), by ((try clear hh_i4 a1 a2 a3); omega)⟩, hil, ?_⟩
   intro i8 hh_i8; (try simp only [ite_none] at hh_i8)
   have hq : ∀ H', PTri Try.prog (.func (.func 68) [.arr 6 1 fun r => List.take 1 (List.drop (r * 1) (trF h i))] []) [] H' (u64 (lksN ((allT h).getD i []) 6 : Nat)) := fun H' => tri_bound (ptri_q (lleaks_tri _ H'))
   have b1 := anM_lt (allT h) i
   have b2 := orM_lt (allT h) i
   have b3 := lksN_lt ((allT h).getD i []) 6
   refine ⟨fun q hq => ?_, callK_pure (hq _) ?_⟩
   ·match q, hq with
    | 0, _ => exact ⟨rfl, trivial⟩
    | 1, _ => exact ⟨rfl, trivial⟩
    | 2, _ => exact ⟨rfl, trivial⟩
    | 3, _ => exact ⟨rfl, trivial⟩
    | 4, _ => exact ⟨rfl, trivial⟩
    | 5, _ => exact ⟨rfl, trivial⟩
   simp only [vsAll, binA, binLitA, intA, okAll, stAll, opsA, opA, dstOk, Nat.reduceLT, Nat.reduceEqDiff, ↓reduceIte, eq_self]
   refine ⟨⟨by ((try clear hh_i4 a1 a2 a3 hh_i8); omega), by ((try clear hh_i4 a1 a2 a3 hh_i8); omega), by simp only [InR_u64]; ((try clear hh_i4 a1 a2 a3 hh_i8); omega), by simp only [InR_u64]; ((try clear hh_i4 a1 a2 a3 hh_i8); omega)⟩, callK_pure (hq _) ?_⟩
   simp only [vsAll, binA, binLitA, intA, opA, dstOk, nilSliceOp, Nat.reduceLT, Nat.reduceEqDiff, Nat.reduceBEq, ↓reduceIte, eq_self]
   refine ⟨⟨by ((try clear hh_i4 a1 a2 a3 hh_i8); omega), by ((try clear hh_i4 a1 a2 a3 hh_i8); omega), by simp only [InR_u64]; ((try clear hh_i4 a1 a2 a3 hh_i8); omega), by simp only [InR_u64]; ((try clear hh_i4 a1 a2 a3 hh_i8); omega)⟩, by simp only [InR_i64]; ((try clear hh_i4 a1 a2 a3 hh_i8); omega), loopD_next (i + 1) hil (by ((try clear hh_i4 a1 a2 a3 hh_i8); omega)) ?_ rfl ?_⟩
   ·simp only [vsAll, Nat.reduceEqDiff, ↓reduceIte, eq_self, Int.natCast_add, Int.natCast_one]
    exact ⟨.refl _, .refl _⟩
   ·(repeat (first | exact HSub_rfl | refine HSub_put_eq (by simp only [vsAll, ↓reduceIte, eq_self, a2, hh_i8]) ?_ | refine HSub_drop2 (by simp only [eq_self, hh_i4, a3, hh_i8]) ?_ | refine HSub_keep_eq (by simp only [vsAll, ↓reduceIte, eq_self, reduceCtorEq, Nat.reduceEqDiff, hh_i4, a1, a2, a3, hh_i8]) ?_))
  ·have ei : i = (allT h).length := by ((try clear hh_i4 a1 a2 a3); omega)
   subst ei
   have b1 := anM_lt (allT h) (allT h).length
   have b2 := orM_lt (allT h) (allT h).length
   simp only [vsAll, cellA, cellsA, convA, opA, newCells, okCells, storeObj, dstOk, nilSliceOp, Nat.reduceLT, Nat.reduceEqDiff, Nat.reduceBEq, ↓reduceIte, eq_self, wtAll, a2]
   refine ⟨by simp only [InR_i64]; ((try clear hh_i4 a1 a2 a3); omega), by simp only [InR_i64]; ((try clear hh_i4 a1 a2 a3); omega), ?_⟩
   refine Ent.ret ⟨i4, _, rfl, by simp only [vsAll, ↓reduceIte, eq_self]; try rfl, ?_⟩
   simp only [vsAll, loadA, loadRow, partA, partOk, resA, retA.eq_2, Nat.reduceLT, Nat.reduceEqDiff, ↓reduceIte, eq_self, wtAll, Try.results20]
   refine dropR_pure ?_ (by (repeat (first | exact HSub_rfl | refine HSub_put_eq (by simp only [vsAll, ↓reduceIte, eq_self, reduceCtorEq, Nat.reduceEqDiff, hh_i4, a1, a2, a3]) ?_ | refine HSub_drop2 (by simp only [eq_self, hh_i4, a3]) ?_ | refine HSub_keep_eq (by simp only [vsAll, ↓reduceIte, eq_self, reduceCtorEq, Nat.reduceEqDiff, hh_i4, a1, a2, a3]) ?_)))
   rfl
end Go.Proofs.Ytclkjifgipcamaa
end
section
set_option linter.unusedVariables false
set_option linter.unusedSimpArgs false
namespace Go.V
set_option linter.unusedSectionVars false
variable [Inhabited GivT]
def slcT (P : Program) (T : TypeId) : Bool := match P.underlying T with
 | some (.slice _) => true
 | _ => false
section
variable {P : Program} {m : Option Tmp → Bool} {n id : Nat} {ops : Array Oper} {s : Fr} {ds : List AD} {H : Hp} {Q : Post}
end
end Go.V
end
section
set_option linter.unusedVariables false
namespace Go.V
set_option linter.unusedSectionVars false
variable [Inhabited GivT]
open Go.Sort in
theorem tri_sort {P : Program} {f : FuncId} {fn : Func} {cd : Code} (hf : P.funcs[f]? = some fn) (hname : (fn.name == "runtime.NumGoroutine") = false) (hbd : fn.body = some cd)
  (hs : ∀ (blk off cap : Nat) (zs : List Int) (w : World), Holds (Value.int .i64) w blk off zs.toArray → blk < w.heap.size → zs.length < 4611686018427387904 →
   Calls P f #[.slice (some ⟨blk, off, none⟩) zs.length cap] w fun e w' => e = .returned (.tuple #[]) ∧ ∃ n os, w' = grow (putRow (Value.int .i64) (Go.Sort.ahead w n) blk off (zs.mergeSort fun x y => decide (x ≤ y)).toArray) os)
  {id : Nat} {zs : List Int} {H : Hp} (h0 : 0 < zs.length) (hl : zs.length < 1000000000) (ho : H id = some (.row 1 zs.length (intF zs))) :
  Tri P (fnA f) [.sl id 1 zs.length] H fun r H' => r = .ret (.tuple []) ∧ H' = H.set id (.row 1 zs.length (intF (zs.mergeSort fun x y => decide (x ≤ y)))) := by
 intro S vf vs hH hvf ha
 cases hvf with
 | @func _ _ _ ws us hn hm h h' =>
   have hws : ws = #[] := by simpa using hn
   have hus : us = #[] := by simpa using hm
   subst hws hus
   obtain ⟨v, rfl⟩ : ∃ v, vs = [v] := by
    have := ha.1
    match vs, this with
    | [v], _ => exact ⟨v, rfl⟩
   have hv : VRel S (.sl id 1 zs.length) v := ha.2 0 (by simp)
   generalize hzn : zs.length = n at hv
   cases hv with
   | slnil _ => omega
   | @sl _ _ _ b cap c1 e1 fz1 hlc hb1 hc1 hlen =>
     obtain ⟨hg, hcase⟩ := hH.obj id _ ho
     rw [hzn] at hcase
     rcases hcase with ⟨hm0, _⟩ | ⟨b2, c, e, hl2, hb, hni, hc⟩
     ·omega
     rw [hlc] at hl2; cases hl2
     have hval : ∀ j, j < n → c.getD j undef = .int .i64 (zs.getD j 0) := fun j hj => by
      have := hc.2.2 j 0 hj (by omega)
      rw [Nat.mul_one, Nat.add_zero] at this
      have h2 : VRel S (.lit (.int .i64 (zs.getD j 0))) (c.getD j undef) := this
      exact h2.lit_inv
     have hcs := hc.1
     have hlt : b < S.w.heap.size := lt_of_heap hb
     have hH2 : Holds (Value.int .i64) S.w b 0 zs.toArray := fun j hj => by
      have hj' : j < n := by simpa [hzn] using hj
      rw [Nat.zero_add]
      refine ⟨?_, ?_⟩
      ·rw [cell_at hb (by omega), hval j hj', List.getD_eq_getElem?_getD]
       have hj2 : j < zs.length := by omega
       simp [hj2]
      ·simp [World.frozen?, hb]
     refine ⟨.enter f #[.slice (some ⟨b, 0, none⟩) n cap], ?_, ?_⟩
     ·have hcf : (callFunc f #[.slice (some ⟨b, 0, none⟩) n cap]).run P S.w = .ok (.enter f #[.slice (some ⟨b, 0, none⟩) n cap]) S.w := by
       simp only [callFunc, Sem.run_bind, run_program, Result.andThen_ok, hf, hname, hbd]
       simp
      simp only [Deferred.ofValue, Sem.run_bind, Sem.run_pure, Result.andThen_ok, invoke]
      simpa using hcf
     ·have hcall := hs b 0 cap zs S.w hH2 hlt (by omega)
      rw [hzn] at hcall
      refine Calls.mono hcall ?_
      rintro en w' ⟨rfl, q, os, rfl⟩
      generalize hd : (zs.mergeSort fun x y => decide (x ≤ y)) = d
      have hdl : d.length = n := by rw [← hd, List.length_mergeSort, hzn]
      generalize hw : grow (putRow (Value.int .i64) (Go.Sort.ahead S.w q) b 0 d.toArray) os = w'
      have hwb : w'.heap[b]? = some (.cells (putCells (Value.int .i64) 0 d.toArray c) e (0, 0)) := by
       subst hw
       simp only [grow, putRow, mapBlock, Go.Sort.ahead]
       rw [Array.getElem?_append_left (by simpa using hlt), Array.getElem?_modify, if_pos rfl, hb]
       rfl
      have hwo : ∀ k, k < S.w.heap.size → k ≠ b → w'.heap[k]? = S.w.heap[k]? := fun k hk hne => by
       subst hw
       simp only [grow, putRow, mapBlock, Go.Sort.ahead]
       rw [Array.getElem?_append_left (by simpa using hk), Array.getElem?_modify, if_neg (fun e => hne e.symm)]
      have hwz : S.w.heap.size ≤ w'.heap.size := by
       subst hw
       simp only [grow, putRow, mapBlock, Go.Sort.ahead, Array.size_append, Array.size_modify]
       omega
      have hpz : (putCells (Value.int .i64) 0 d.toArray c).size = c.size := by simp [putCells]
      have hpv : ∀ j, j < n → (putCells (Value.int .i64) 0 d.toArray c).getD j undef = .int .i64 (d.getD j 0) := fun j hj => by
       have hjc : j < c.size := by omega
       have hjd : j < d.length := by omega
       rw [Array.getD_eq_getD_getElem?]
       simp [putCells, hjc, hjd, List.getD_eq_getElem?_getD]
      have hchg : Chg S id (.row 1 n (intF zs)) w' := by
       refine ⟨by subst hw; rfl, by subst hw; rfl, by subst hw; rfl, hwz, fun k hk hne => hwo k hk (fun e => hne (by rw [e]; exact hlc)), fun k c0 e0 fz0 hk h0 => ?_⟩
       have hk : S.loc id n = .blk k := hk
       rw [hlc] at hk; cases hk
       rw [hb] at h0; cases h0
       exact ⟨_, hwb, hpz⟩
      rw [hzn] at ho
      have hloc : S.loc id n = .unk ∨ S.loc id n = .blk b := .inr hlc
      have hle := hchg.le (g := n) (l := .blk b) hH ho hloc
      rw [St.chg_same hlc] at hle
      have hH' := hchg.hrel (g := n) (l := .blk b) (o' := .row 1 n (intF d)) hH ho hloc
       (by
        rw [St.chg_same hlc]
        refine ⟨by rw [← hzn]; exact hg, .inr ⟨b, _, e, hlc, hwb, hni, by rw [hpz]; exact hcs, fun i hi => rfl, fun i j hi hj => ?_⟩⟩
        have : j = 0 := by omega
        subst this
        rw [Nat.mul_one, Nat.add_zero, hpv i hi]
        exact .lit _)
       (fun q hq => by rw [St.chg_same hlc] at hq; exact .inl hq)
      rw [St.chg_same hlc] at hH'
      exact ⟨{ S with w := w' }, .ret (.tuple []), H.set id (.row 1 n (intF d)), rfl, hle, hH', .tuple rfl (fun k hk => absurd hk (Nat.not_lt_zero k)), rfl, rfl⟩
end Go.V
end
section
set_option linter.unusedVariables false
set_option linter.unusedSimpArgs false
namespace Go.V
set_option linter.unusedSectionVars false
variable [Inhabited GivT]
def mpT (P : Program) (T : TypeId) : Bool := match P.underlying T with
 | some (.map _ _) => true
 | _ => false
theorem mpT_spec {P : Program} {t : TypeId} (h : mpT P t = true) : ∃ k e, P.underlying t = some (.map k e) := by
 unfold mpT at h
 split at h
 ·exact ⟨_, _, by assumption⟩
 ·cases h
section
variable {P : Program} {m : Option Tmp → Bool} {n id : Nat} {ops : Array Oper} {s : Fr} {ds : List AD} {H : Hp} {Q : Post}
theorem wps_region_mlen (l1 l2 : List Oper) (o : Oper) (he : ops.toList = l1 ++ o :: l2) {T : TypeId} {x : Operand} {d : Nat} (ho : o.op = .call ⟨.builtin .len, #[x], #[T]⟩) (hg : o.guard = none) (hd : o.dst = some d) (hdn : d < n) (hT : mpT P T = true)
  (h : VS none P m n [.ops ops.toList l1] s ds H fun e s' ds' H' => match e with
   | .normal => ∃ mid es ck, opA s' x = .map mid ∧ H' mid = some (.raw (.map es ck)) ∧ VS none P m n [.ops ops.toList l2] (put s' (some d) (.lit (.int .i64 (es.size : Nat)))) ds' H' Q
   | e => Q e s' ds' H') : WPS none P n (.region id ops false) s ds H Q := by
 intro S a hn hH hF hD
 refine wpIn_region ?_
 have hget : ∀ i : Nat, ops[i]? = ops.toList[i]? := fun i => Array.getElem?_toList.symm
 have hsz : ops.size = l1.length + (1 + l2.length) := by
  have := congrArg List.length he
  simpa [Nat.add_comm] using this
 have hr : List.range ops.size = List.range l1.length ++ (l1.length :: (List.range l2.length).map (l1.length + 1 + ·)) := by
  rw [hsz, List.range_add, Nat.add_comm 1, List.range_succ_eq_map]
  simp only [List.map_cons, List.map_map, Nat.add_zero]
  congr 2
  apply List.map_congr_left
  intro i _
  simp [Function.comp]; omega
 rw [hr]
 refine wpOpsIn_append _ _ _ _ ?_
 have h1 := vcOps_sound (r := none) (P := P) (m := m) (n := n) (ops := ops) (.inl rfl) l1 (List.range l1.length) s ds H (fun o ho => by rw [he]; simp [ho]) (by
  apply List.ext_getElem
  ·simp
  ·intro i h1 h2
   simp at h1
   simp only [List.getElem_map, List.getElem_range, hget, he, List.getElem?_append_left h1, List.getElem?_eq_getElem h1]) h S a hn hH hF hD
 refine wpOpsIn_mono' (fun e a1 w1 q => ?_) _ _ _ h1
 obtain ⟨S1, x1, s1, ds1, H1, rfl, hle, hH1, hF1, hD1, hsz1, hx, hq⟩ := q
 cases e with
 | normal =>
   cases x1 <;> simp [XRel] at hx
   obtain ⟨mid, es, ck, hxv, hom, h2⟩ := hq
   simp only [wpOpsIn, hget, he, List.getElem?_append_right (Nat.le_refl _), Nat.sub_self, List.getElem?_cons_zero, Region.wanted, hg, if_true]
   have rx : VRel S1 (.map mid) (a1.eval x) := by
    have := opA_rel (x := x) hF1
    rw [hxv] at this; exact this
   obtain ⟨kt, et, hu⟩ := mpT_spec hT
   obtain ⟨b, q1, q2, q3, q4⟩ := hH1.obj mid _ hom
   have ev : a1.eval x = .map (some b) := by
    generalize a1.eval x = cv at rx
    cases rx with
    | map hl => rw [q1] at hl; cases hl; rfl
   have hrun : (execOp a1.eval o).run P S1.w = .ok (.value (.int .i64 (es.size : Nat))) S1.w := by
    have hl : (Builtin.len_ #[T] o.type #[.map (some b)]).run P S1.w = .ok (.int .i64 (es.size : Nat)) S1.w := by
     simp [Builtin.len_, run_underlying hu, MapKept.run_getObj_map q2, goInt]
    simp [execOp, ho, resolve, invoke, builtin, ev, hl]
   have hs : StepOk none P o S1 a1 (fun v ds' H' => v = .lit (.int .i64 (es.size : Nat)) ∧ ds' = ds1 ∧ H' = H1) (fun _ _ => False) :=
    stepOk_value (fun c e => by rw [ho] at e; cases e) hrun (Le.refl S1) hH1 (.lit _) hD1 ⟨rfl, rfl, rfl⟩
   refine hs _ _ ?_ (fun _ _ _ _ _ _ _ hf => hf.elim)
   rintro S' cv v ds' df H' hle' hH' hv hD' ⟨rfl, rfl, rfl⟩
   have h3 := vcOps_sound (r := none) (P := P) (m := m) (n := n) (ops := ops) (Q := Q) (.inl rfl) l2 ((List.range l2.length).map (l1.length + 1 + ·)) _ _ _ (fun o ho => by rw [he]; simp [ho]) (by
    apply List.ext_getElem
    ·simp
    ·intro i h1 h2
     simp at h1
     simp only [List.getElem_map, List.getElem_range, hget, he]
     rw [List.getElem?_append_right (by omega), show l1.length + 1 + i - l1.length = i + 1 by omega, List.getElem?_cons_succ, List.getElem?_eq_getElem h1]) h2 S' ({ a1 with defers := df }.put o.dst cv) (by rw [put_size]; exact hsz1) hH' (by
     have := (hF1.mono hle').put (d := some d) (n := n) (by exact hdn) hsz1 hv df
     rw [hd]; exact this) (by rw [put_defers]; exact hD')
   exact wpOpsIn_mono' (fun e a w q => Lift.trans (hle.trans hle') q) _ _ _ h3
 | _ => cases x1 <;> simp [XRel] at hx <;> exact ⟨S1, _, s1, ds1, H1, rfl, hle, hH1, hF1, hD1, hsz1, by simp [XRel, hx], hq⟩
theorem wps_region_mlenI (i : Nat) {o : Oper} (he : ops.toList[i]? = some o) {T : TypeId} {x : Operand} {d : Nat} (ho : o.op = .call ⟨.builtin .len, #[x], #[T]⟩) (hg : o.guard = none) (hd : o.dst = some d) (hdn : d < n) (hT : mpT P T = true)
  (h : VS none P m n [.ops ops.toList (ops.toList.take i)] s ds H fun e s' ds' H' => match e with
   | .normal => ∃ mid es ck, opA s' x = .map mid ∧ H' mid = some (.raw (.map es ck)) ∧ VS none P m n [.ops ops.toList (ops.toList.drop (i + 1))] (put s' (some d) (.lit (.int .i64 (es.size : Nat)))) ds' H' Q
   | e => Q e s' ds' H') : WPS none P n (.region id ops false) s ds H Q := by
 refine wps_region_mlen _ _ o ?_ ho hg hd hdn hT h
 obtain ⟨hi, rfl⟩ := List.getElem?_eq_some_iff.1 he
 rw [← List.drop_eq_getElem_cons hi, List.take_append_drop]
end
end Go.V
end
section
set_option linter.unusedVariables false
namespace Go.V
set_option linter.unusedSectionVars false
variable [Inhabited GivT]
open Classical in
/-- What a set of values knows. -/
noncomputable def stF (L : List Value) : Value → Option Value := fun k => if k ∈ L then some (.bool true) else none
theorem stF_nil : stF [] = fun _ => none := by funext k; simp [stF]
theorem stF_some {L : List Value} {k v : Value} : stF L k = some v ↔ k ∈ L ∧ v = .bool true := by
 unfold stF
 by_cases h : k ∈ L
 ·rw [if_pos h]; simp [h, eq_comm]
 ·rw [if_neg h]; simp [h]
theorem stF_upd (L : List Value) (s : Value) : updV (stF L) s (.bool true) = stF (L ++ [s]) := by
 funext k
 by_cases h : k = s
 ·subst h; rw [updV_same]; exact ((stF_some (L := L ++ [k])).2 ⟨by simp, rfl⟩).symm
 ·rw [updV_ne _ _ h]
  unfold stF
  have : k ∈ L ↔ k ∈ L ++ [s] := by simp [h]
  by_cases h2 : k ∈ L
  ·rw [if_pos h2, if_pos (this.1 h2)]
  ·rw [if_neg h2, if_neg (fun q => h2 (this.2 q))]
/-- The numbers at which entries were put in. -/
structure BornOk (es : Array MapEntry) (ck : Nat) : Prop where
 lt : ∀ x ∈ es.toList, x.born < ck
 nd : (es.toList.map (·.born)).Nodup
theorem BornOk.empty : BornOk #[] 0 := ⟨fun x h => by simp at h, by simp⟩
theorem BornOk.upd {es : Array MapEntry} {ck : Nat} (h : BornOk es ck) (key val : Value) (o : Option (Nat × Value)) : BornOk (updM es key val ck o) (updC ck o) := by
 cases o with
 | none =>
   simp only [updM, updC]
   refine ⟨fun x hx => ?_, ?_⟩
   ·simp only [Array.toList_push, List.mem_append, List.mem_singleton] at hx
    rcases hx with hx | rfl
    ·have := h.lt x hx; omega
    ·exact Nat.lt_succ_self _
   ·simp only [Array.toList_push, List.map_append, List.map_cons, List.map_nil]
    rw [List.nodup_append]
    refine ⟨h.nd, by simp, fun a ha b hb => ?_⟩
    simp only [List.mem_singleton] at hb
    subst hb
    obtain ⟨x, hx, rfl⟩ := List.mem_map.1 ha
    have := h.lt x hx
    omega
 | some p =>
   obtain ⟨i, v⟩ := p
   simp only [updM, updC]
   have e : (es.modify i fun e => { e with key := key, val := val }).toList.map (·.born) = es.toList.map (·.born) := by
    apply List.ext_getElem?
    intro q
    simp only [List.getElem?_map, Array.getElem?_toList, Array.getElem?_modify]
    by_cases hq : i = q
    ·subst hq
     cases es[i]? <;> simp
    ·simp [hq]
   refine ⟨fun x hx => ?_, by rw [e]; exact h.nd⟩
   have hb : x.born ∈ (es.modify i fun e => { e with key := key, val := val }).toList.map (·.born) := List.mem_map_of_mem hx
   rw [e] at hb
   obtain ⟨y, hy, hy2⟩ := List.mem_map.1 hb
   have := h.lt y hy
   omega
/-- Entries that a range has told of. -/
structure Tak (es : Array MapEntry) (T : List MapEntry) : Prop where
 sub : ∀ e ∈ T, e ∈ es.toList
 nd : (T.map (·.born)).Nodup
theorem Tak.nil (es : Array MapEntry) : Tak es [] := ⟨fun e h => by simp at h, by simp⟩
theorem mem_left {es : Array MapEntry} {T : List MapEntry} {e : MapEntry} : e ∈ (leftOf es (T.map (·.born)).toArray).toList ↔ e ∈ es.toList ∧ e.born ∉ T.map (·.born) := by
 unfold leftOf
 simp
theorem Tak.add {es : Array MapEntry} {T : List MapEntry} (h : Tak es T) {e : MapEntry} (he : e ∈ (leftOf es (T.map (·.born)).toArray).toList) : Tak es (T ++ [e]) := by
 obtain ⟨h1, h2⟩ := mem_left.1 he
 refine ⟨fun x hx => ?_, ?_⟩
 ·simp only [List.mem_append, List.mem_singleton] at hx
  rcases hx with hx | rfl
  ·exact h.sub x hx
  ·exact h1
 ·simp only [List.map_append, List.map_cons, List.map_nil]
  rw [List.nodup_append]
  refine ⟨h.nd, by simp, fun a ha b hb => ?_⟩
  simp only [List.mem_singleton] at hb
  subst hb
  intro e2
  subst e2
  exact h2 ha
theorem tak_push (T : List MapEntry) (e : MapEntry) : (T.map (·.born)).toArray.push e.born = ((T ++ [e]).map (·.born)).toArray := by simp
theorem nodup_of_map {α β : Type} {f : α → β} {l : List α} (h : (l.map f).Nodup) : l.Nodup := List.Pairwise.of_map f (fun a b h e => h (by rw [e])) h
theorem Tak.len {es : Array MapEntry} {T : List MapEntry} (h : Tak es T) : T.length ≤ es.size := by
 have := (nodup_of_map h.nd).length_le_of_subset (fun e he => h.sub e he : T ⊆ es.toList)
 simpa using this
theorem Tak.all {es : Array MapEntry} {ck : Nat} {T : List MapEntry} (h : Tak es T) (hb : BornOk es ck) (h0 : (leftOf es (T.map (·.born)).toArray).size = 0) : ∀ e, e ∈ T ↔ e ∈ es.toList := fun e => by
 refine ⟨h.sub e, fun he => ?_⟩
 by_cases hm : e.born ∈ T.map (·.born)
 ·obtain ⟨x, hx, hx2⟩ := List.mem_map.1 hm
  have hxe := h.sub x hx
  have hxx : x = e := by
   obtain ⟨i, hi, rfl⟩ := List.getElem_of_mem hxe
   obtain ⟨j, hj, rfl⟩ := List.getElem_of_mem he
   have hn := hb.nd
   have : i = j := by
    have h1 : (es.toList.map (·.born))[i]'(by simpa using hi) = (es.toList.map (·.born))[j]'(by simpa using hj) := by simpa using hx2
    apply Classical.byContradiction
    intro hne
    rcases Nat.lt_or_ge i j with q | q
    ·exact (List.pairwise_iff_getElem.1 hn) i j (by simpa using hi) (by simpa using hj) q h1
    ·exact (List.pairwise_iff_getElem.1 hn) j i (by simpa using hj) (by simpa using hi) (by omega) h1.symm
   subst this; rfl
  rw [← hxx]; exact hx
 ·exfalso
  have := mem_left.2 ⟨he, hm⟩
  have hs : (leftOf es (T.map (·.born)).toArray).toList.length = 0 := by simpa using h0
  rw [List.eq_nil_of_length_eq_zero hs] at this
  cases this
/-- Numbers, each once: sorted they are the one list of the same numbers in order. -/
theorem sort_eq {l m : List Int} (hl : l.Nodup) (hm : m.Pairwise (· < ·)) (h : ∀ x, x ∈ l ↔ x ∈ m) : (l.mergeSort fun x y => decide (x ≤ y)) = m := by
 have hmn : m.Nodup := List.Pairwise.imp (fun h e => by omega) hm
 have hp : l.Perm m := (List.perm_ext_iff_of_nodup hl hmn).2 h
 refine List.Perm.eq_of_pairwise (le := fun a b => a ≤ b) (fun a b _ _ h1 h2 => by omega) ?_ (hm.imp fun h => by omega) ((List.mergeSort_perm l _).trans hp)
 have := List.pairwise_mergeSort (le := fun x y : Int => decide (x ≤ y)) (fun a b c h1 h2 => by simp only [decide_eq_true_eq] at *; omega) (fun a b => by simp only [Bool.or_eq_true, decide_eq_true_eq]; omega) l
 exact this.imp fun h => by simpa using h
end Go.V
end
section
set_option linter.unusedVariables false
set_option linter.unusedSimpArgs false
namespace Go.V
set_option linter.unusedSectionVars false
variable [Inhabited GivT]
theorem wf_u64 {a : Int} (h : InR .u64 a) : (Lit.int .u64 a).wf = true := by
 simp only [InR, IntKind.min, IntKind.max, IntKind.signed, IntKind.bits] at h
 simp [Lit.wf, IntKind.min, IntKind.max, IntKind.signed, IntKind.bits] at h ⊢
 omega
end Go.V
end
section
set_option linter.unusedVariables false
set_option linter.unusedSimpArgs false
set_option maxHeartbeats 4000000
set_option maxRecDepth 100000
namespace Go.Proofs
open Go.Shelf Go.Sort Go.RowKit
def Try.lays189_ren : Go.Shelf.Ren := ⟨fun | 189 => 111 | 125 => 128 | 257 => 127 | 128 => 141 | 129 => 142 | 294 => 132 | 295 => 133 | 296 => 134 | 297 => 135 | 298 => 136 | 299 => 137 | 216 => 138 | 300 => 139 | 301 => 140 | 328 => 143 | 329 => 144 | 330 => 145 | 331 => 146 | 332 => 147 | 215 => 148 | 343 => 149 | n => n, fun | 28 => 29 | 3 => 3 | 46 => 90 | 0 => 0 | 51 => 249 | 53 => 251 | 4 => 4 | 183 => 243 | 182 => 242 | 131 => 115 | 5 => 5 | 9 => 9 | 218 => 252 | 222 => 256 | 228 => 258 | 229 => 135 | n => n, fun | n => n⟩
theorem Try.lays189 : Go.Proofs.Lays.n189 Try.prog Try.lays189_ren := {
 mixed := by kernel_rfl,
 f125 := Try.func128.trans (congrArg some (by kernel_rfl)),
 f128 := Try.func141.trans (congrArg some (by kernel_rfl)),
 f129 := Try.func142.trans (congrArg some (by kernel_rfl)),
 f189 := Try.func111.trans (congrArg some (by kernel_rfl)),
 f215 := Try.func148.trans (congrArg some (by kernel_rfl)),
 f216 := Try.func138.trans (congrArg some (by kernel_rfl)),
 f257 := Try.func127.trans (congrArg some (by kernel_rfl)),
 f294 := Try.func132.trans (congrArg some (by kernel_rfl)),
 f295 := Try.func133.trans (congrArg some (by kernel_rfl)),
 f296 := Try.func134.trans (congrArg some (by kernel_rfl)),
 f297 := Try.func135.trans (congrArg some (by kernel_rfl)),
 f298 := Try.func136.trans (congrArg some (by kernel_rfl)),
 f299 := Try.func137.trans (congrArg some (by kernel_rfl)),
 f300 := Try.func139.trans (congrArg some (by kernel_rfl)),
 f301 := Try.func140.trans (congrArg some (by kernel_rfl)),
 f328 := Try.func143.trans (congrArg some (by kernel_rfl)),
 f329 := Try.func144.trans (congrArg some (by kernel_rfl)),
 f330 := Try.func145.trans (congrArg some (by kernel_rfl)),
 f331 := Try.func146.trans (congrArg some (by kernel_rfl)),
 f332 := Try.func147.trans (congrArg some (by kernel_rfl)),
 f343 := Try.func149.trans (congrArg some (by kernel_rfl)),
 t0 := Try.underlying0,
 a0 := Try.isAgg0,
 z0 := Try.sizeOf0,
 v0 := Try.zeroValue0,
 t3 := Try.underlying3,
 a3 := Try.isAgg3,
 z3 := Try.sizeOf3,
 v3 := Try.zeroValue3,
 t4 := Try.underlying4,
 a4 := Try.isAgg4,
 z4 := Try.sizeOf4,
 v4 := Try.zeroValue4,
 t5 := Try.underlying5,
 a5 := Try.isAgg5,
 z5 := Try.sizeOf5,
 v5 := Try.zeroValue5,
 t9 := Try.underlying9,
 a9 := Try.isAgg9,
 z9 := Try.sizeOf9,
 v9 := Try.zeroValue9,
 t28 := Try.underlying29,
 a28 := Try.isAgg29,
 z28 := Try.sizeOf29,
 v28 := Try.zeroValue29,
 t46 := Try.underlying90,
 a46 := Try.isAgg90,
 z46 := Try.sizeOf90,
 v46 := Try.zeroValue90,
 t51 := Try.underlying249,
 a51 := Try.isAgg249,
 z51 := Try.sizeOf249,
 v51 := Try.zeroValue249,
 t53 := Try.underlying251,
 a53 := Try.isAgg251,
 z53 := Try.sizeOf251,
 v53 := Try.zeroValue251,
 t131 := Try.underlying115,
 a131 := Try.isAgg115,
 z131 := Try.sizeOf115,
 v131 := Try.zeroValue115,
 t182 := Try.underlying242,
 a182 := Try.isAgg242,
 z182 := Try.sizeOf242,
 v182 := Try.zeroValue242,
 t183 := Try.underlying243,
 a183 := Try.isAgg243,
 z183 := Try.sizeOf243,
 v183 := Try.zeroValue243,
 t218 := Try.underlying252,
 a218 := Try.isAgg252,
 z218 := Try.sizeOf252,
 v218 := Try.zeroValue252,
 t222 := Try.underlying256,
 a222 := Try.isAgg256,
 z222 := Try.sizeOf256,
 v222 := Try.zeroValue256,
 t228 := Try.underlying258,
 a228 := Try.isAgg258,
 z228 := Try.sizeOf258,
 v228 := Try.zeroValue258,
 t229 := Try.underlying135,
 a229 := Try.isAgg135,
 z229 := Try.sizeOf135,
 v229 := Try.zeroValue135 }
end Go.Proofs
namespace Go.Proofs.Ytclkjifgipcamaa
open Go.V
theorem und212 : Program.underlying Try.prog 212 = some (.map 91 4) := by kernel_rfl
theorem key91 : Maps.Keyed Try.prog 91 := Maps.int_keyed (q := .u64) (by kernel_rfl)
theorem und91 : Program.underlying Try.prog 91 = some (.int .u64) := by kernel_rfl
theorem keyU (n : Nat) (hn : n < 2 ^ 60) : ∃ l, keyOf Try.prog 91 (.int .u64 (n : Int)) = some l := by
 refine ⟨.int .u64 n, ?_⟩
 simp only [keyOf, mapKey, und91]
 rw [if_pos ⟨trivial, wf_u64 (by simp only [InR_u64]; omega)⟩]
def lkK (L : List (List Int)) (i : Nat) : List Value := (List.range i).map fun q => .int .u64 ((lksN (L.getD q []) 6 : Nat) : Int)
theorem lkK_succ (L : List (List Int)) (i : Nat) : lkK L (i + 1) = lkK L i ++ [.int .u64 ((lksN (L.getD i []) 6 : Nat) : Int)] := by simp [lkK, List.range_succ]
theorem lkK_mem {L : List (List Int)} {i : Nat} {k : Value} (h : k ∈ lkK L i) : ∃ n : Nat, n < 2 ^ 6 ∧ k = .int .u64 (n : Int) := by
 obtain ⟨q, _, rfl⟩ := List.mem_map.1 h
 exact ⟨_, lksN_lt _ 6, rfl⟩
def kN : Value → Nat
 | .int _ n => n.toNat
 | _ => 0
theorem key_of {L : List (List Int)} {i : Nat} {es : Array MapEntry} (h : MapIs (stF (lkK L i)) es) {e : MapEntry} (he : e ∈ es.toList) : kN e.key < 2 ^ 6 ∧ e.key = .int .u64 (kN e.key : Int) := by
 obtain ⟨n, hn, hk⟩ := lkK_mem (stF_some.1 (h.here e he)).1
 rw [hk]
 exact ⟨by simpa [kN] using hn, by simp [kN]⟩
theorem keys_nd {L : List (List Int)} {i : Nat} {es : Array MapEntry} (h : MapIs (stF (lkK L i)) es) {T : List MapEntry} (hT : T.Nodup) (hs : ∀ e ∈ T, e ∈ es.toList) : (T.map fun e => kN e.key).Nodup := by
 refine List.pairwise_map.2 (List.Pairwise.imp_of_mem (fun {a b} ha hb hne => ?_) hT)
 intro e
 apply hne
 have k1 := (key_of h (hs a ha)).2
 have k2 := (key_of h (hs b hb)).2
 have k3 : a.key = b.key := by rw [k1, k2, e]
 have ap := h.apart
 obtain ⟨p, hp, rfl⟩ := List.getElem_of_mem (hs a ha)
 obtain ⟨q, hq, rfl⟩ := List.getElem_of_mem (hs b hb)
 have : p = q := by
  apply Classical.byContradiction
  intro hpq
  rcases Nat.lt_or_ge p q with z | z
  ·exact (List.pairwise_iff_getElem.1 ap) p q hp hq z k3
  ·exact (List.pairwise_iff_getElem.1 ap) q p hq hp (by omega) k3.symm
 subst this; rfl
theorem keys_le {L : List (List Int)} {i : Nat} {es : Array MapEntry} (h : MapIs (stF (lkK L i)) es) {T : List MapEntry} (hT : T.Nodup) (hs : ∀ e ∈ T, e ∈ es.toList) : T.length ≤ 64 := by
 have h1 : (T.map fun e => kN e.key) ⊆ List.range 64 := fun x hx => by
  obtain ⟨e, he, rfl⟩ := List.mem_map.1 hx
  exact List.mem_range.2 (key_of h (hs e he)).1
 have := (keys_nd h hT hs).length_le_of_subset h1
 simpa using this
/-- The sets of which each leaks in some truth. -/
def setL (L : List (List Int)) : List Nat := L.map fun l => lksN l 6
theorem mem_setL {L : List (List Int)} {n : Nat} : n ∈ setL L ↔ Value.int .u64 (n : Int) ∈ lkK L L.length := by
 unfold setL lkK
 simp only [List.mem_map, List.mem_range]
 constructor
 ·rintro ⟨l, hl, rfl⟩
  obtain ⟨i, hi, rfl⟩ := List.getElem_of_mem hl
  exact ⟨i, hi, by rw [List.getD_eq_getElem?_getD, List.getElem?_eq_getElem hi]; rfl⟩
 ·rintro ⟨i, hi, e⟩
  refine ⟨L.getD i [], getD_mem hi, ?_⟩
  simp only [Value.int.injEq, true_and] at e
  omega
def lkSets (h : Hl) : List Nat := setsD (setL (allT h)) 6
abbrev setAV (h : Hl) : AV := intsAV ((lkSets h).map fun s : Nat => (s : Int))
theorem sorted_sets {h : Hl} {es : Array MapEntry} {T : List MapEntry} (hes : MapIs (stF (lkK (allT h) (allT h).length)) es) (hn : T.Nodup) (hall : ∀ e, e ∈ T ↔ e ∈ es.toList) :
  ((T.map fun e => (kN e.key : Int)).mergeSort fun x y => decide (x ≤ y)) = (lkSets h).map fun s : Nat => (s : Int) := by
 have hk := keys_nd hes hn (fun e he => (hall e).1 he)
 refine sort_eq ?_ ?_ fun x => ?_
 ·have : (T.map fun e => (kN e.key : Int)) = (T.map fun e => kN e.key).map fun s : Nat => (s : Int) := by rw [List.map_map]; rfl
  rw [this]
  exact List.pairwise_map.2 (List.Pairwise.imp (fun h e => h (by omega)) hk)
 ·exact List.pairwise_map.2 (List.Pairwise.imp (fun h => by omega) (setsD_sorted (setL (allT h)) 6))
 ·simp only [List.mem_map]
  constructor
  ·rintro ⟨e, he, rfl⟩
   have hm := (hall e).1 he
   obtain ⟨k1, k2⟩ := key_of hes hm
   refine ⟨kN e.key, mem_setsD.2 ⟨k1, ?_⟩, rfl⟩
   rw [mem_setL, ← k2]
   exact (stF_some.1 (hes.here e hm)).1
  ·rintro ⟨n, hn, rfl⟩
   obtain ⟨h1, h2⟩ := mem_setsD.1 hn
   rw [mem_setL] at h2
   obtain ⟨e, he, h3, _⟩ := hes.all _ _ (stF_some.2 ⟨h2, rfl⟩)
   exact ⟨e, (hall e).2 he, by rw [h3]; simp [kN]⟩
theorem lsets_tri {h : Hl} (k : OkH h) (im : Nat) (H : Hp) (ho : H im = some (.memo (wetM h))) (hT : 0 < (allT h).length) : PTri Try.prog (fnA 70) [hP h im] H (setAV h) := by
 have hle := allT_len k
 refine Tri.thawX (R1 := fun r H' => ∃ id, H id = none ∧ r = .ret (.sl id 1 (lkSets h).length) ∧ H' = H.set id (.row 1 (lkSets h).length (intF ((lkSets h).map fun s : Nat => (s : Int))))) ?_ ?_
 ·refine Tri.drop ?_
  refine tri_wm Try.func70 (by kernel_rfl) rfl (by simp only [List.length_append, List.length_cons, List.length_nil, Try.ntmps70]; decide) ?_
  refine wps_cutG3 (m := mset [5]) (σ := Nat × Array MapEntry × Nat) (fun y => H y.1 = none ∧ MapIs (stF (lkK (allT h) (allT h).length)) y.2.1 ∧ BornOk y.2.1 y.2.2) (fun y => [(3, .map y.1)])
   (fun y => H.set y.1 (.raw (.map y.2.1 y.2.2))) (fun _ => []) ?_ fun y hy => ?_
  ·simp only [vsAll, okAll, stAll, opsA, opA, nM, dstOk, nilSliceOp, argFr, Nat.reduceLT, Nat.reduceBEq, ↓reduceIte, reduceCtorEq, eq_self, Try.ntmps70]
   intro i3 hh_i3; (try simp only [Hp.set_none, ite_none] at hh_i3)
   refine callK_pure (ltru_tri k im (H.set i3 (.raw (.map #[] 0))) (by rw [Hp.set_ne _ _ (fun e => by rw [e, hh_i3] at ho; cases ho)]; exact ho) hT) ?_
   simp only [vsAll, lenA, opA, dstOk, Nat.reduceLT, ↓reduceIte, eq_self, wtAll]
   refine vs_loop (σ := Nat × Array MapEntry × Nat) (fun y => y.1 ≤ (allT h).length ∧ MapIs (stF (lkK (allT h) y.1)) y.2.1 ∧ BornOk y.2.1 y.2.2) (fun y => [(3, .map i3), (11, trA h), (12, i64 (allT h).length), (13, i64 y.1)]) (fun y => H.set i3 (.raw (.map y.2.1 y.2.2))) (fun y => (allT h).length - y.1) (0, #[], 0) ⟨Nat.zero_le _, by rw [show lkK (allT h) 0 = [] from rfl, stF_nil]; exact MapIs.empty, .empty⟩ ?_ HSub_rfl fun y hy => ?_
   ·simp only [vsAll, Nat.reduceEqDiff, ↓reduceIte, eq_self, Int.natCast_zero]
   ·obtain ⟨i, es, ck⟩ := y
    obtain ⟨hi, hes, hbo⟩ := hy
    simp only [] at hi hes hbo
    simp only [vsAll, binA, binLitA, intA, opA, dstOk, Nat.reduceLT, Nat.reduceEqDiff, ↓reduceIte, eq_self]
    refine condD (fun hd => ?_) (fun hd => ?_)
    ·have hil : i < (allT h).length := by ((try clear hh_i3); omega)
     have hlk := lksN_lt ((allT h).getD i []) 6
     obtain ⟨o, f1, f2, f3, f4, f5⟩ := hes.find und212 key91 (keyU (lksN ((allT h).getD i []) 6) (by ((try clear hh_i3); omega))) (fun q v hq => by
      obtain ⟨n, hn, rfl⟩ := lkK_mem (stF_some.1 hq).1
      exact keyU n (by ((try clear hh_i3); omega)))
     have hi' := f5 (.bool true) ck
     rw [stF_upd, ← lkK_succ] at hi'
     simp only [vsAll, loadA, loadRow, indexAddrA, okAll, stAll, opsA, opA, allocA, storeObj, dstOk, Nat.reduceMul, Nat.reduceLT, Nat.reduceEqDiff, ↓reduceIte, eq_self, wtAll]
     refine ⟨⟨by ((try clear hh_i3); omega), by ((try clear hh_i3); omega)⟩, hil, ?_⟩
     intro i5 hh_i5; (try simp only [ite_none] at hh_i5)
     refine ⟨fun q hq => ?_, callK_pure (ptri_q (lleaks_tri _ _)) ?_⟩
     ·match q, hq with
      | 0, _ => exact ⟨rfl, trivial⟩
      | 1, _ => exact ⟨rfl, trivial⟩
      | 2, _ => exact ⟨rfl, trivial⟩
      | 3, _ => exact ⟨rfl, trivial⟩
      | 4, _ => exact ⟨rfl, trivial⟩
      | 5, _ => exact ⟨rfl, trivial⟩
     simp only [vsAll, binA, binLitA, intA, opA, mapUpA, dstOk, Nat.reduceLT, Nat.reduceEqDiff, ↓reduceIte, eq_self, hh_i5]
     refine ⟨o, f2, by simp only [InR_i64]; ((try clear hh_i3 hh_i5); omega), loop_next (i + 1, updM es (.int .u64 ((lksN ((allT h).getD i []) 6 : Nat) : Int)) (.bool true) ck o, updC ck o) ⟨hil, hi', hbo.upd _ _ o⟩ (by show _ - _ < _ - _; ((try clear hh_i3 hh_i5); omega)) ?_ ?_⟩
     ·simp only [vsAll, Nat.reduceEqDiff, ↓reduceIte, eq_self, Int.natCast_add, Int.natCast_one]
     ·(repeat (first | exact HSub_rfl | refine HSub_put_eq (by simp only [vsAll, ↓reduceIte, eq_self]) ?_ | refine HSub_drop2 (by simp only [eq_self, hh_i3, hh_i5]) ?_ | refine HSub_keep_eq (by simp only [vsAll, ↓reduceIte, eq_self, reduceCtorEq, Nat.reduceEqDiff, hh_i3, hh_i5]) ?_))
    ·have ei : i = (allT h).length := by ((try clear hh_i3); omega)
     subst ei
     simp only [vsAll, ↓reduceIte, eq_self]
     exact cutG_of (i3, es, ck) ⟨hh_i3, hes, hbo⟩ (by simp only [vsAll, Nat.reduceEqDiff, ↓reduceIte, eq_self]) rfl HSub_rfl
  ·obtain ⟨i3, es, ck⟩ := y
   obtain ⟨h3, hes, hbo⟩ := hy
   simp only [] at h3 hes hbo
   refine wps_seq ?_
   refine wps_region_mlenI (m := mset [23, 37]) 1 rfl rfl rfl rfl (by decide) (by kernel_rfl) ?_
   have hnd : es.toList.Nodup := nodup_of_map hbo.nd
   have hes64 := keys_le hes hnd (fun _ h => h)
   have hes64' : es.size ≤ 64 := by simpa using hes64
   skip
   simp only [vsAll, makeSliceA, opA, dstOk, nilSliceOp, Nat.reduceAdd, Nat.reduceLT, Nat.reduceBEq, Int.reduceLE, Int.reduceToNat, ↓reduceIte, eq_self, wtAll, Try.ntmps70]
   refine ⟨i3, es, ck, rfl, if_pos rfl, ?_⟩
   refine ⟨by ((try clear h3); omega), by ((try clear h3); omega), by ((try clear h3); omega), ?_⟩
   intro i6 hh_i6; (try simp only [ite_none] at hh_i6)
   simp only [thn_normal]
   refine wps_vs (m := mset [23, 37]) ?_
   simp only [vsAll, opA, rangeA, dstOk, Nat.reduceLT, Nat.reduceEqDiff, ↓reduceIte, eq_self, hh_i6]
   refine ⟨⟨_, _, und212⟩, fun iid hiid => ?_⟩
   simp only [ite_none] at hiid
   obtain ⟨⟨r1, r1'⟩, ⟨r2, r2'⟩, r3⟩ := hiid
   skip
   refine vs_loop (σ := List MapEntry) (fun T => Tak es T) (fun T => [(6, .sl i6 1 T.length), (25, .ref iid 0 1 0 0)])
    (fun T => ((H.set i3 (.raw (.map es ck))).set i6 (.row 1 T.length (intF (T.map fun e => (kN e.key : Int))))).set iid (.iter i3 ck (T.map (·.born)).toArray ck)) (fun T => es.size - T.length) [] (Tak.nil es) ?_ ?_ fun T hT => ?_
   ·simp only [vsAll, Nat.reduceEqDiff, ↓reduceIte, eq_self]
   ·exact Go.V.HSub.set (Go.V.HSub.set (.refl _) (row_ext fun q hq => absurd hq (Nat.not_lt_zero q))) (.refl _)
   ·have hTn := nodup_of_map hT.nd
    have hT64 := keys_le hes hTn hT.sub
    have hTl := hT.len
    simp only [vsAll, extractA, lenA, cellA, cellsA, okParts, buildSliceA, makeSliceA, partIdx, elemsA, lensA, convA, okAll, stAll, opsA, partsA, partsOk, opA, appendA, nextA, entryA, copyA, dstOk, nilSliceOp, Nat.reduceAdd, Nat.reduceMul, Nat.reduceLT, Nat.reduceLeDiff, Nat.reduceEqDiff, Nat.reduceBEq, ↓reduceIte, eq_self, wtAll, hh_i6, r1', r2']
    refine ⟨hbo.lt, fun h0 => ?_, fun e he => ?_⟩
    ·have hall := hT.all hbo h0
     have hpos : 0 < T.length := by
      obtain ⟨e, he, _⟩ := hes.all (.int .u64 ((lksN ((allT h).getD 0 []) 6 : Nat) : Int)) (.bool true) (stF_some.2 ⟨List.mem_map.2 ⟨0, List.mem_range.2 (by assumption), rfl⟩, rfl⟩)
      exact List.length_pos_of_mem ((hall e).2 he)
     refine ⟨by ((try clear h3 hh_i6 r1 r1' r2 r2' r3); omega), by ((try clear h3 hh_i6 r1 r1' r2 r2' r3); omega), by ((try clear h3 hh_i6 r1 r1' r2 r2' r3); omega), ?_⟩
     intro i8 hh_i8; (try simp only [ite_none] at hh_i8)
     simp only [vsAll, ↓reduceIte, eq_self, hh_i8]
     refine ⟨fun q hq => ⟨rfl, trivial⟩, ?_⟩
     rw [Hp.set_set]
     have hzl : (T.map fun e => (kN e.key : Int)).length = T.length := by simp
     have hst := tri_sort (P := Try.prog) (f := 111) (id := i8) (zs := T.map fun e => (kN e.key : Int)) (H := ((((H.set i3 (.raw (.map es ck))).set i6 (.row 1 T.length (intF (T.map fun e => (kN e.key : Int))))).set iid (.iter i3 ck (T.map (·.born)).toArray ck)).set i8 (.row 1 T.length (intF (T.map fun e => (kN e.key : Int)))))) Try.func111 (by kernel_rfl) rfl
      (fun blk off cap zs w h1 h2 h3 => Any.slices_Sort_int Try.lays189 blk off cap zs w h1 h2 h3) (by ((try clear h3 hh_i6 r1 r1' r2 r2' r3 hh_i8); omega)) (by ((try clear h3 hh_i6 r1 r1' r2 r2' r3 hh_i8); omega)) (by rw [hzl]; exact Hp.set_same _ _ _)
     rw [hzl, sorted_sets hes hTn hall] at hst
     have hst2 := hst.less (H := ((((H.set i3 (.raw (.map es ck))).set i6 (.row 1 T.length (intF (T.map fun e => (kN e.key : Int))))).set iid (.iter i3 ck (T.map (·.born)).toArray ck)).set i8 (.row 1 T.length (cpF 0 (min T.length T.length) (fun _ => [.lit (.int .i64 0)]) 0 (intF (T.map fun e => (kN e.key : Int))))))) (HSub_set (row_ext fun q hq => by
      simp only [cpF]
      rw [if_pos (by ((try clear h3 hh_i6 r1 r1' r2 r2' r3 hh_i8); omega))]
      simp))
     refine callK hst2 ?_
     rintro r H' ⟨rfl, rfl⟩
     have hll : (lkSets h).length = T.length := by
      have := congrArg List.length (sorted_sets hes hTn hall)
      simpa using this.symm
     simp only [vsAll, opA, dstOk, nilSliceOp, resA, retA.eq_1, Nat.reduceLT, Nat.reduceEqDiff, Nat.reduceBEq, ↓reduceIte, eq_self, Try.results70]
     exact ⟨H.set i8 (.row 1 T.length (intF ((lkSets h).map fun s : Nat => (s : Int)))), by (repeat (first | exact HSub_rfl | refine HSub_put_eq (by simp only [vsAll, ↓reduceIte, eq_self]) ?_ | refine HSub_drop2 (by simp only [eq_self, h3, hh_i6, r3, hh_i8]) ?_ | refine HSub_keep_eq (by simp only [vsAll, ↓reduceIte, eq_self, reduceCtorEq, Nat.reduceEqDiff, h3, hh_i6, r1, r1', r2, r2', r3, hh_i8]) ?_)), i8, hh_i8.2.2.2, by rw [hll], by rw [hll]⟩
    ·obtain ⟨hm, hnb⟩ := Go.V.mem_left.1 he
     obtain ⟨k1, k2⟩ := key_of hes hm
     have hkk : valA e.key = u64 (kN e.key : Nat) := by rw [k2]; rfl
     refine ⟨e, _, ⟨rfl, hm, hbo.nd⟩, ?_⟩
     have hadd := hT.add he
     have hal := hadd.len
     simp only [List.length_append, List.length_cons, List.length_nil] at hal
     simp only [vsAll, hkk]
     refine ⟨by simp only [InR_i64]; ((try clear h3 hh_i6 r1 r1' r2 r2' r3); omega), fun q hq => ?_, by ((try clear h3 hh_i6 r1 r1' r2 r2' r3); omega), by ((try clear h3 hh_i6 r1 r1' r2 r2' r3); omega), loop_next (T ++ [e]) hadd (by simp only [List.length_append, List.length_cons, List.length_nil]; ((try clear h3 hh_i6 r1 r1' r2 r2' r3); omega)) ?_ ?_⟩
     ·have : q = 0 := by ((try clear h3 hh_i6 r1 r1' r2 r2' r3); omega)
      subst this; exact ⟨rfl, trivial⟩
     ·simp only [vsAll, Nat.reduceEqDiff, ↓reduceIte, eq_self, List.length_append]
     ·have ea := app_ints (T.map fun e => (kN e.key : Int)) (kN e.key) (fun i => [[i64 (kN e.key)]].getD i []) rfl
      rw [List.length_map] at ea
      rw [ea, tak_push]
      simp only [List.map_append, List.map_cons, List.map_nil, List.length_append, List.length_cons, List.length_nil]
      (repeat (first | exact HSub_rfl | refine HSub_put_eq (by simp only [vsAll, ↓reduceIte, eq_self, hh_i6, r1, r2']) ?_ | refine HSub_drop2 (by simp only [eq_self, h3, hh_i6, r3]) ?_ | refine HSub_keep_eq (by simp only [vsAll, ↓reduceIte, eq_self, reduceCtorEq, Nat.reduceEqDiff, h3, hh_i6, r1, r1', r2, r2', r3]) ?_))
 ·rintro r H' ⟨id, hid, rfl, rfl⟩
  exact .inr ⟨_, setAV h, id, 1, _, intF ((lkSets h).map fun s : Nat => (s : Int)), rfl, .inr ⟨Hp.set_same _ _ _, .leaf ⟨rfl, intF ((lkSets h).map fun s : Nat => (s : Int)), fun _ _ => rfl, by simp⟩⟩, rfl, set_del hid⟩
end Go.Proofs.Ytclkjifgipcamaa
end
section
set_option linter.unusedVariables false
set_option linter.unusedSimpArgs false
set_option maxHeartbeats 4000000
set_option maxRecDepth 100000
namespace Go.Proofs.Ytclkjifgipcamaa
open Go.V
theorem wlsets_tri (h : Hl) (H : Hp) (k : OkH h) (hT : 0 < (allT h).length) : PTri Try.prog (fnA 21) [h.av] H (.tuple [setAV h, i64 0]) := by
 refine Tri.drop ?_
 refine tri_a (m := mset [3]) ans69 Try.func21 (by kernel_rfl) rfl (by simp only [List.length_append, List.length_cons, List.length_nil, Try.ntmps21]; decide) ?_
 simp only [vsAll, loadA, loadRow, partA, partOk, boxA, boxZ, okAll, stAll, opsA, opA, allocA, dstOk, nilSliceOp, deferV, argFr, Nat.reduceAdd, Nat.reduceLT, Nat.reduceEqDiff, Nat.reduceBEq, ↓reduceIte, eq_self, wtAll, Try.ntmps21]
 intro i3 hh_i3; (try simp only [Hp.set_none, ite_none] at hh_i3)
 refine openL_call k (fun _ im him => ?_) (fun hb => by cases hb)
 simp only [Hp.set_none] at him
 obtain ⟨⟨a1, a2⟩, a3⟩ := him
 skip
 simp only [vsAll, okAll, stAll, opsA, opA, dstOk, Nat.reduceLT, ↓reduceIte, eq_self]
 refine callK_pure (lsets_tri k im _ (Hp.set_same _ _ _) hT) ?_
 simp only [vsAll, cellA, cellsA, opA, newCells, okCells, storeObj, dstOk, nilSliceOp, Nat.reduceLT, Nat.reduceEqDiff, Nat.reduceBEq, ↓reduceIte, eq_self, wtAll, a2]
 refine Ent.ret ⟨i3, _, rfl, by simp only [vsAll, ↓reduceIte, eq_self]; try rfl, ?_⟩
 simp only [vsAll, loadA, loadRow, partA, partOk, resA, retA.eq_2, Nat.reduceLT, Nat.reduceEqDiff, ↓reduceIte, eq_self, wtAll, Try.results21]
 refine dropR_pure ?_ (by (repeat (first | exact HSub_rfl | refine HSub_put_eq (by simp only [vsAll, ↓reduceIte, eq_self, reduceCtorEq, Nat.reduceEqDiff, hh_i3, a1, a2, a3]) ?_ | refine HSub_drop2 (by simp only [eq_self, hh_i3, a3]) ?_ | refine HSub_keep_eq (by simp only [vsAll, ↓reduceIte, eq_self, reduceCtorEq, Nat.reduceEqDiff, hh_i3, a1, a2, a3]) ?_)))
 rfl
theorem wlrate_tri (h : Hl) (H : Hp) (k : OkH h) : PTri Try.prog (fnA 118) [h.av, i64 (-1)] H (.tuple [.agg [i64 0, i64 0], i64 2]) := by
 have nS := k.nS
 have c1 : (decide (0 ≤ (-1 : Int)) && decide ((-1 : Int) ≤ (h.sm.length : Int) - 1)) = false := by rw [decide_eq_false (by decide)]; rfl
 refine Tri.drop ?_
 refine tri_a (m := mset [4, 5]) ans130 Try.func118 (by kernel_rfl) rfl (by simp only [List.length_append, List.length_cons, List.length_nil, Try.ntmps118]; decide) ?_
 simp only [vsAll, boxA, boxZ, okAll, stAll, opsA, opA, allocA, dstOk, deferV, argFr, Nat.reduceAdd, Nat.reduceLT, Nat.reduceBEq, Int.reduceNeg, ↓reduceIte, eq_self, wtAll, Try.ntmps118]
 intro i4 hh_i4; (try simp only [Hp.set_none, ite_none] at hh_i4); intro i5 hh_i5; (try simp only [ite_none] at hh_i5)
 refine vs_draw2 [0, 0, 0, 0, 0, 0, 0, 1, 2] [([0, 1, 2, 3, 4, 5, 6], [], 7)] [8] (by decide +kernel) ?_
 simp only [vsAll, binA, binLitA, intA, loadA, loadRow, partA, partOk, fieldAddrA, lenA, opA, dstOk, argFr, Nat.reduceLT, Nat.reduceEqDiff, Int.reduceNeg, ↓reduceIte, eq_self, wtAll]
 refine ⟨by simp only [InR_i64]; ((try clear hh_i4 hh_i5); omega), qcall _ ⟨trivial, by simp only [vsAll, okAll, opsA, opA, Nat.reduceEqDiff, Int.reduceNeg, ↓reduceIte, eq_self], lwithin_tri _ _ _ _⟩ ?_⟩
 rw [c1]
 simp only [vsAll, okAll, stAll, opsA, opA, dstOk, Nat.reduceLT, Nat.reduceEqDiff, Int.reduceNeg, ↓reduceIte, eq_self]
 refine openL_call k (fun hb => by cases hb) (fun _ => ?_)
 simp only [vsAll, Int.reduceNeg]
 refine ⟨2, i5, _, rfl, rfl, by simp only [vsAll, ↓reduceIte, eq_self]; try rfl, ?_⟩
 simp only [vsAll, loadA, loadRow, partA, partOk, resA, retA.eq_2, Nat.reduceLT, Nat.reduceEqDiff, Int.reduceNeg, ↓reduceIte, eq_self, wtAll, Try.results118, hh_i5]
 refine dropR_pure ?_ (by (repeat (first | exact HSub_rfl | refine HSub_put_eq (by simp only [vsAll, ↓reduceIte, eq_self, reduceCtorEq, Nat.reduceEqDiff, hh_i4, hh_i5]) ?_ | refine HSub_drop2 (by simp only [eq_self, hh_i4, hh_i5]) ?_ | refine HSub_keep_eq (by simp only [vsAll, ↓reduceIte, eq_self, reduceCtorEq, Nat.reduceEqDiff, hh_i4, hh_i5]) ?_)))
 rfl
end Go.Proofs.Ytclkjifgipcamaa
end
section
set_option linter.unusedVariables false
namespace Go.V
set_option linter.unusedSectionVars false
variable [Inhabited GivT]
/-- A value of numbers and truths alone. -/
inductive Plain : AV → Prop
 | lit (v : Value) : Plain (.lit v)
 | agg {cs : List AV} (h : ∀ k, k < cs.length → Plain (cs.getD k .any)) : Plain (.agg cs)
 | tuple {cs : List AV} (h : ∀ k, k < cs.length → Plain (cs.getD k .any)) : Plain (.tuple cs)
theorem Plain.rel {S S' : St} {v : AV} (h : Plain v) : ∀ cv, VRel S v cv → VRel S' v cv := by
 induction h with
 | lit v => intro cv hv; cases hv with | lit => exact .lit _
 | agg h ih =>
   intro cv hv
   cases hv with
   | agg hn hv => exact .agg hn fun k hk => ih k (by omega) _ (hv k (by omega))
 | tuple h ih =>
   intro cv hv
   cases hv with
   | tuple hn hv => exact .tuple hn fun k hk => ih k (by omega) _ (hv k (by omega))
/-- All that is known of memory is held fast. -/
def St.hold (S : St) (H : Hp) : St := { S with imm := fun x => S.imm x ∨ ∃ i o, H i = some o ∧ S.loc i o.gen = .blk x }
theorem St.hold_le (S : St) (H : Hp) : Le S (S.hold H) :=
 ⟨rfl, rfl, rfl, Nat.le_refl _, fun _ h => .inl h, fun _ _ => rfl, fun _ _ _ => rfl, Nat.le_refl _, fun _ c _ _ h => ⟨c, h, rfl⟩⟩
theorem HRel.hold {S : St} {H : Hp} (hH : HRel S H) : HRel (S.hold H) fun _ => none :=
 ⟨fun i hi => ⟨rfl, (hH.fresh i hi).2⟩, fun b hb => by
  rcases hb with hb | ⟨i, o, ho, hl⟩
  ·exact hH.immlt b hb
  ·obtain ⟨x, hx⟩ := (hH.obj i o ho).blk_lt hl
   exact (Array.getElem?_eq_some_iff.1 hx).1, fun i o hi => (by cases hi), fun i j o o' b hi => (by cases hi), fun p hp => (hH.giv p hp).mono (S.hold_le H)⟩
inductive BorD (H : Hp) : AV → AV → Prop
 | same (x : AV) : BorD H x x
 | hit {id st n : Nat} {f g : Nat → List AV} (ho : H id = some (.row st n f)) (h : ∀ i, i < n → f i = g i) : BorD H (.sl id st n) (.rsl n st g)
 | agg {cs cs' : List AV} (hl : cs'.length = cs.length) (h : ∀ k, k < cs.length → BorD H (cs.getD k .any) (cs'.getD k .any)) : BorD H (.agg cs) (.agg cs')
theorem BorD.conv {S : St} {H : Hp} (hH : HRel S H) {x y : AV} (hxy : BorD H x y) : ∀ v, VRel S x v → VRel (S.hold H) y v := by
 induction hxy with
 | same x => intro v hv; exact hv.mono (S.hold_le H)
 | @hit id st n f g ho h =>
   intro v hv
   refine AV.Le.rsl h _ _ ?_
   obtain ⟨hg, hcase⟩ := hH.obj id _ ho
   rcases hcase with ⟨rfl, hnil⟩ | ⟨b, c, e, hl, hb, hni, hc⟩
   ·cases hv with
    | sl hl => rw [hnil] at hl; cases hl
    | slnil _ => exact .rsl0
   ·cases hv with
    | sl hl' hb' _ hlen' =>
      rw [hl] at hl'; cases hl'
      exact .rsl (off := 0) (.inr ⟨id, _, ho, hl⟩) hb (by rw [Nat.zero_add]; exact hc.1) hc.2.1 (fun i j hi hj => by rw [Nat.zero_add]; exact (hc.2.2 i j hi hj).mono (S.hold_le H)) hlen'
    | slnil hl' => rw [hl] at hl'; cases hl'
 | agg hl h ih =>
   intro v hv
   cases hv with
   | agg hn hv => exact .agg (hn.trans hl.symm) fun k hk => ih k (by omega) _ (hv k (by omega))
/-- A call that is told of no memory, and gives back numbers alone. -/
theorem tri_borrow {P : Program} {fv : AV} {args args' : List AV} {H : Hp} {v : AV} (hl : args'.length = args.length) (hs : ∀ k, k < args.length → BorD H (args.getD k .any) (args'.getD k .any)) (hp : Plain v)
  (h : PTri P fv args' (fun _ => none) v) : PTri P fv args H v := by
 intro S vf vs hH hvf ha
 obtain ⟨nx, h1, h3⟩ := h (S.hold H) vf vs hH.hold (hvf.mono (S.hold_le H)) ⟨by rw [hl]; exact ha.1, fun k hk => (hs k (by omega)).conv hH _ (ha.2 k (by omega))⟩
 have hout : ∀ e w, Out (S.hold H) (fun r H' => r = .ret v ∧ H' = fun _ => none) e w → Out S (fun r H' => r = .ret v ∧ H' = H) e w := by
  rintro e w ⟨S2, r, H2, hw, hle, hH2, hres, rfl, rfl⟩
  cases e with
  | returned cv =>
    have hle3 : Le S { S with w := S2.w } :=
     ⟨hle.os, hle.tape, hle.output, hle.size, fun _ h => h, fun b h => hle.keep b (.inl h), fun _ _ _ => rfl, Nat.le_refl _, hle.csize⟩
    refine ⟨{ S with w := S2.w }, .ret v, H, hw, hle3, ?_, hp.rel _ hres, rfl, rfl⟩
    refine ⟨hH.fresh, fun b hb => Nat.lt_of_lt_of_le (hH.immlt b hb) hle.size, fun i o hi => ?_, hH.inj, fun p hp => (hH.giv p hp).mono hle3⟩
    exact (hH.obj i o hi).keep hle3 (fun _ => rfl) (fun b hb => hle.keep b (.inr ⟨i, o, hi, hb⟩)) (fun b _ _ h => h)
  | _ => exact hres.elim
 refine ⟨nx, h1, ?_⟩
 cases nx <;> simp only [NextOk] at h3 ⊢
 ·exact Calls.mono h3 hout
 ·exact h3.mono hout
end Go.V
end
section
set_option linter.unusedVariables false
set_option linter.unusedSimpArgs false
set_option maxHeartbeats 4000000
set_option maxRecDepth 100000
namespace Go.Proofs.Ytclkjifgipcamaa
open Go.V
abbrev refR (e : Int) : AV := .iface 190 (.agg [i64 e])
abbrev rTr : RefT := ⟨190, true⟩
theorem rsaid_no (v : AV) (H : Hp) : PTri Try.prog (fnA 60) [.lit .nilIface, v] H (.tuple []) := by
 refine tri_v0 (fun _ => false) Try.func60 (by kernel_rfl) rfl (by simp only [List.length_append, List.length_cons, List.length_nil, Try.ntmps60]; decide) ?_
 simp only [vsAll, binA, binLitA, nilA2, isConst, opA, dstOk, resA, argFr, retA.eq_2, Nat.reduceLT, ↓reduceIte, eq_self, wtAll, Try.ntmps60, Try.results60]
theorem intT190 : intT Try.prog 190 = none := by kernel_rfl
theorem rsaid_err {c : Int} {id : Nat} {f : Nat → List AV} {H : Hp} (ho : H id = some (.box 1 1 f)) (hl : (f 0).length = 1) :
  Tri Try.prog (fnA 60) [refR c, .ref id 0 1 0 0] H fun r H' => H' = H.set id (.box 1 1 fun _ => [i64 c]) ∧ r = .ret (.tuple []) := by
 refine Tri.drop ?_
 refine tri_v0 (mset [4]) Try.func60 (by kernel_rfl) rfl (by simp only [List.length_append, List.length_cons, List.length_nil, Try.ntmps60]; decide) ?_
 simp only [vsAll, binA, nilA2, unA, loadA, loadRow, partA, partOk, fieldAddrA, extractA, nilCheckA, cellA, cellsA, opA, allocA, newCells, okCells, storeObj, taA, dstOk, nilSliceOp, resA, argFr, retA.eq_2, Nat.reduceAdd, Nat.reduceLT, Nat.reduceEqDiff, Nat.reduceBEq, ↓reduceIte, reduceCtorEq, eq_self, wtAll, Try.ntmps60, Try.results60, intT190]
 intro k hh_k; (try simp only [Hp.set_none, ite_none] at hh_k)
 have hk : ¬ id = k := fun e => by rw [e, hh_k] at ho; cases ho
 simp only [vsAll, Nat.reduceLT, ↓reduceIte, eq_self, ho, hk]
 rw [List.drop_eq_nil_of_le (show (f 0).length ≤ 1 by ((try clear hh_k); omega)), Hp.set_set]
 exact ⟨_, HSub.set (HSub.drop (HSub.refl _) hh_k) (.refl _), rfl, rfl⟩
/-- What a deferred function does. -/
theorem rans_of {g : FuncId} {fn : Func} {id : Nat} {p1 p2 : String} {a1 a2 : Array Edge} {ty : Array TypeId} (hf : Try.prog.funcs[g]? = some fn)
  (hb : fn.body = some (.region id #[⟨some 1, .call ⟨.builtin .recover, #[], #[]⟩, 20, p1, a1, none⟩, ⟨some 2, .call ⟨.value (.func 60), #[.tmp 1, .tmp 0], ty⟩, 0, p2, a2, none⟩] false))
  (hr : fn.results = #[]) (hn : fn.ntmps = 3) (he : ∀ (vs : Array Value) (w : World), (callFunc g vs).run Try.prog w = .ok (.enter g vs) w) : AnsOk Try.prog g rTr := by
 refine ⟨fun H id f S vs ho hH ha => ?_, fun H id f c S vs ho hH ha => ?_, he⟩
 ·refine (ansR (m := fun _ => false) (args := [.ref id 0 1 0 0]) (Q := fun H' => H' = H) (u' := .returning) (rv := .lit .nilIface) (cv := .nilIface) hf hb hr (by rw [hn]; exact Nat.le_of_ble_eq_true rfl) (fun c₀ cs hu => .inr ⟨by simp [recoverD, hu], rfl, rfl⟩) hH ha (.lit _) (by rw [hn]; decide) ?_).mono ?_
  ·simp only [vcOps, vsAll, okAll, stAll, opsA, opA, dstOk, argFr, Nat.reduceLT, ↓reduceIte, reduceCtorEq, eq_self, hn]
   refine callK_pure (rsaid_no _ _) ?_
   simp only [vsAll, eq_self]
  ·rintro e u w ⟨h1, h2, S', H', h3, h4, h5, rfl⟩
   exact ⟨h1, h2, S', h3, h4, h5⟩
 ·have hl : (f 0).length = 1 := by
   obtain ⟨bb, cc, e, q1, q2, q3, q4⟩ := hH.obj id _ ho
   exact q4.2.1 0 (by omega)
  refine (ansR (m := fun _ => false) (args := [.ref id 0 1 0 0]) (Q := fun H' => H' = H.set id (.box 1 1 fun _ => [i64 c])) (u' := .panicking [{ v := Go.V.refusal rTr c, recovered := true }]) (rv := refR c) (cv := Go.V.refusal rTr c) hf hb hr (by rw [hn]; exact Nat.le_of_ble_eq_true rfl) (fun c₀ cs hu => .inl (by simp [recoverD, hu])) hH ha (.iface (.agg rfl fun k hk => by
   have : k = 0 := by simp at hk; exact hk
   subst this
   exact .lit _)) (by rw [hn]; decide) ?_).mono ?_
  ·simp only [vcOps, vsAll, okAll, stAll, opsA, opA, dstOk, argFr, Nat.reduceLT, ↓reduceIte, reduceCtorEq, eq_self, hn]
   refine ⟨_, rsaid_err ho hl, ?_⟩
   rintro r H' ⟨rfl, rfl⟩
   simp only [vsAll, eq_self]
  ·rintro e u w ⟨h1, h2, S', H', h3, h4, h5, rfl⟩
   exact ⟨h1, h2, S', h3, h4, h5⟩
theorem ans59 : AnsOk Try.prog 59 rTr := rans_of Try.func59 rfl rfl rfl fun vs w => by kernel_rfl
theorem ans64 : AnsOk Try.prog 64 rTr := rans_of Try.func64 rfl rfl rfl fun vs w => by kernel_rfl
theorem ans106 : AnsOk Try.prog 106 rTr := rans_of Try.func106 rfl rfl rfl fun vs w => by kernel_rfl
theorem rwithin_tri (n lo hi : Int) (H : Hp) : PTri Try.prog (fnA 120) [i64 n, i64 lo, i64 hi] H (boo (decide (lo ≤ n) && decide (n ≤ hi))) := by
 refine tri_v0 (fun _ => false) Try.func120 (by kernel_rfl) rfl (by simp only [List.length_append, List.length_cons, List.length_nil, Try.ntmps120]; decide) ?_
 simp only [vsAll, binA, binLitA, intA, pickA, opA, guardV, dstOk, nilSliceOp, resA, argFr, retA.eq_1, Nat.reduceLT, Nat.reduceEqDiff, ↓reduceIte, reduceCtorEq, implies_true, eq_self, Try.ntmps120, Try.results120]
theorem rwant_tri (b : Bool) (e : Int) (H : Hp) : Tri Try.prog (fnA 99) [boo b, i64 e] H fun r H' => H' = H ∧ r = if b then .ret (.tuple []) else .pan (refR e) := by
 refine tri_v0 (fun _ => false) Try.func99 (by kernel_rfl) rfl (by simp only [List.length_append, List.length_cons, List.length_nil, Try.ntmps99]; decide) ?_
 simp only [vsAll, unA, opA, dstOk, argFr, Nat.reduceLT, ↓reduceIte, eq_self, Try.ntmps99]
 refine condV (fun hc => ?_) (fun hc => ?_)
 ·simp only [Bool.not_eq_true'] at hc
  subst hc
  simp only [vsAll, cellA, cellsA, fillA, okParts, ifaceA, partsA, partsOk, opA, dstOk, panA, argFr, Nat.reduceLT, Nat.reduceEqDiff, ↓reduceIte, eq_self, wtAll]
 ·simp only [Bool.not_eq_false'] at hc
  subst hc
  simp only [vsAll, resA, retA.eq_2, ↓reduceIte, eq_self, Try.results99]
theorem rwant_call {b : Bool} {e : Int} {H : Hp} {K : AV → Hp → Prop} {Kp : AV → Hp → Prop} (h1 : b = true → K (.tuple []) H) (h2 : b = false → Kp (refR e) H) :
  CallK Try.prog (fnA 99) [boo b, i64 e] H K Kp := by
 refine ⟨_, rwant_tri b e H, ?_⟩
 rintro r H' ⟨rfl, rfl⟩
 cases b
 ·exact h2 rfl
 ·exact h1 rfl
/-- What is known: which were raked, and which of these leak. -/
abbrev knAV (r q : Nat) : AV := .agg [i64 (r : Nat), i64 (q : Nat)]
theorem rwith_tri (r q x : Nat) (T : Bool) (H : Hp) (hr : r < 2 ^ 6) (hq : q < 2 ^ 6) (hx : x < 6) : PTri Try.prog (fnA 100) [knAV r q, i64 (x : Nat), boo T] H (knAV (r ||| 2 ^ x) (if T = true then q ||| 2 ^ x else q)) := by
 have p1 : 2 ^ x < 2 ^ 6 := Nat.pow_lt_pow_right (by decide) hx
 have b1 : r ||| 2 ^ x < 2 ^ 6 := Nat.or_lt_two_pow hr p1
 have b2 : q ||| 2 ^ x < 2 ^ 6 := Nat.or_lt_two_pow hq p1
 have ep := shl1 x
 refine Tri.drop ?_
 refine tri_v0 (mset [3, 6]) Try.func100 (by kernel_rfl) rfl (by simp only [List.length_append, List.length_cons, List.length_nil, Try.ntmps100]; decide) ?_
 simp only [vsAll, opA, allocA, boxMutA, dstOk, argFr, Nat.reduceAdd, Nat.reduceLT, Nat.reduceBEq, eq_self, wtAll, Try.ntmps100]
 intro i3 hh_i3; (try simp only [Hp.set_none, ite_none] at hh_i3); intro i6 hh_i6; (try simp only [ite_none] at hh_i6)
 refine vs_draw2 [0, 0, 0, 0, 0, 0, 1] [([0, 1, 2, 3, 4, 5], [], 6)] [] (by decide +kernel) ?_
 simp only [vsAll, binA, binLitA, intA, loadA, loadRow, partA, partOk, fieldAddrA, cellA, cellsA, opA, newCells, okCells, storeObj, dstOk, argFr, Nat.reduceLT, Nat.reduceLeDiff, Nat.reduceEqDiff, ↓reduceIte, eq_self, wtAll, hh_i6, ep]
 generalize hQ : 2 ^ x = Q at *
 refine ⟨⟨by ((try clear hh_i3 hh_i6); omega), by ((try clear hh_i3 hh_i6); omega), by simp only [InR_i64]; ((try clear hh_i3 hh_i6); omega)⟩, ⟨by ((try clear hh_i3 hh_i6); omega), by ((try clear hh_i3 hh_i6); omega), by simp only [InR_i64]; ((try clear hh_i3 hh_i6); omega), by simp only [InR_i64]; ((try clear hh_i3 hh_i6); omega)⟩, ?_⟩
 refine condV (fun hc => ?_) (fun hc => ?_)
 ·subst hc
  simp only [↓reduceIte, eq_self]
  refine vs_draw2 [0, 0, 0, 0, 0, 0, 1] [([0, 1, 2, 3, 4, 5], [], 6)] [] (by decide +kernel) ?_
  simp only [vsAll, binA, binLitA, intA, loadA, loadRow, partA, partOk, fieldAddrA, cellA, cellsA, opA, newCells, okCells, storeObj, dstOk, resA, argFr, retA.eq_1, Nat.reduceAdd, Nat.reduceLT, Nat.reduceEqDiff, ↓reduceIte, eq_self, wtAll, Try.results100, hh_i6, ep]
  refine ⟨⟨by ((try clear hh_i3 hh_i6); omega), by ((try clear hh_i3 hh_i6); omega), by simp only [InR_i64]; ((try clear hh_i3 hh_i6); omega)⟩, ⟨by ((try clear hh_i3 hh_i6); omega), by ((try clear hh_i3 hh_i6); omega), by simp only [InR_i64]; ((try clear hh_i3 hh_i6); omega), by simp only [InR_i64]; ((try clear hh_i3 hh_i6); omega)⟩, ?_⟩
  exact dropR_pure rfl (by (repeat (first | exact HSub_rfl | refine HSub_put_eq (by simp only [vsAll, ↓reduceIte, eq_self, reduceCtorEq, Nat.reduceEqDiff, hh_i3, hh_i6]) ?_ | refine HSub_drop2 (by simp only [eq_self, hh_i3, hh_i6]) ?_ | refine HSub_keep_eq (by simp only [vsAll, ↓reduceIte, eq_self, reduceCtorEq, Nat.reduceEqDiff, hh_i3, hh_i6]) ?_)))
 ·subst hc
  simp only [vsAll, loadA, loadRow, partA, partOk, cellA, opA, newCells, okCells, storeObj, dstOk, resA, retA.eq_1, Nat.reduceAdd, Nat.reduceLT, Nat.reduceEqDiff, ↓reduceIte, eq_self, wtAll, Try.results100, hh_i6]
  exact dropR_pure rfl (by (repeat (first | exact HSub_rfl | refine HSub_put_eq (by simp only [vsAll, ↓reduceIte, eq_self, reduceCtorEq, Nat.reduceEqDiff, hh_i3, hh_i6]) ?_ | refine HSub_drop2 (by simp only [eq_self, hh_i3, hh_i6]) ?_ | refine HSub_keep_eq (by simp only [vsAll, ↓reduceIte, eq_self, reduceCtorEq, Nat.reduceEqDiff, hh_i3, hh_i6]) ?_)))
theorem ragrees_tri (r q s : Nat) (H : Hp) (hr : r < 2 ^ 6) (hs : s < 2 ^ 6) : PTri Try.prog (fnA 107) [knAV r q, i64 (s : Nat)] H (boo (decide (s &&& r = q))) := by
 refine tri_v0 (fun _ => false) Try.func107 (by kernel_rfl) rfl (by simp only [List.length_append, List.length_cons, List.length_nil, Try.ntmps107]; decide) ?_
 simp only [vsAll, binA, binLitA, intA, loadA, loadRow, partA, partOk, fieldAddrA, boxA, boxZ, opA, dstOk, nilSliceOp, resA, argFr, retA.eq_1, Nat.reduceAdd, Nat.reduceLT, Nat.reduceEqDiff, ↓reduceIte, eq_self, wtAll, Try.ntmps107, Try.results107]
 refine ⟨⟨by omega, by omega, by simp only [InR_i64]; omega, by simp only [InR_i64]; omega⟩, ?_⟩
 rw [decide_eq_decide.2 Int.ofNat_inj]
theorem rof_tri (f : Nat → List AV) (v : Int) (x : Nat) (H : Hp) (hx : x < 6) (hv : f x = [i64 v]) : PTri Try.prog (fnA 102) [.arr 6 1 f, i64 (x : Nat)] H (i64 v) := by
 refine tri_v0 (fun _ => false) Try.func102 (by kernel_rfl) rfl (by simp only [List.length_append, List.length_cons, List.length_nil, Try.ntmps102]; decide) ?_
 simp only [vsAll, loadA, loadRow, partA, partOk, indexAddrA, boxA, boxZ, opA, dstOk, nilSliceOp, resA, argFr, retA.eq_1, Nat.reduceLT, Nat.reduceEqDiff, ↓reduceIte, eq_self, wtAll, Try.ntmps102, Try.results102, hv]
 exact ⟨⟨by omega, by omega⟩, hx⟩
theorem rdone_tri (r q : Nat) (l : List Int) (H : Hp) : PTri Try.prog (fnA 168) [.agg [], knAV r q, intsAV l] H (boo (decide (l.length ≤ 1))) := by
 refine tri_v0 (fun _ => false) Try.func168 (by kernel_rfl) rfl (by simp only [List.length_append, List.length_cons, List.length_nil, Try.ntmps168]; decide) ?_
 simp only [vsAll, binA, binLitA, intA, lenA, boxA, boxZ, opA, dstOk, nilSliceOp, resA, argFr, retA.eq_1, Nat.reduceAdd, Nat.reduceLT, Nat.reduceEqDiff, ↓reduceIte, eq_self, wtAll, Try.ntmps168, Try.results168]
 rw [decide_eq_decide.2 (show ((l.length : Int) ≤ 1) ↔ l.length ≤ 1 by omega)]
theorem meth_all : methT Try.prog 138 "caulkworks/rake.done" 168 := fun cv vs w => by kernel_rfl
/-- The sets that agree with what is known. -/
abbrev rhC (fs : List Int) (n : Nat) (L : List Nat) : List AV := [i64 (fs.getD 0 0), i64 (fs.getD 1 0), i64 (fs.getD 2 0), i64 (fs.getD 3 0), i64 (fs.getD 4 0), i64 (fs.getD 5 0), i64 (n : Nat), intsAV (L.map fun s : Nat => (s : Int))]
abbrev rhP (fs : List Int) (n : Nat) (L : List Nat) : AV := .rptr 1 8 (fun _ => rhC fs n L) 0 0
abbrev agrZ (L : List Nat) (r q : Nat) : List Int := (agr L r q).map fun s : Nat => (s : Int)
theorem agr_take {L : List Nat} {r q i : Nat} (hi : i < L.length) : agr (L.take (i + 1)) r q = agr (L.take i) r q ++ (if L.getD i 0 &&& r = q then [L.getD i 0] else []) := by
 unfold agr
 rw [List.take_add_one, List.getElem?_eq_getElem hi, List.filter_append, List.getD_eq_getElem?_getD, List.getElem?_eq_getElem hi]
 congr 1
 simp only [Option.toList_some, Option.getD_some]
 by_cases h : L[i] &&& r = q
 ·simp [h]
 ·simp [h]
theorem ragr_tri (fs : List Int) (n : Nat) (L : List Nat) (r q : Nat) (H : Hp) (hL : ∀ s ∈ L, s < 2 ^ 6) (hl : L.length ≤ 64) (hr : r < 2 ^ 6) : PTri Try.prog (fnA 65) [rhP fs n L, knAV r q] H (intsAV (agrZ L r q)) := by
 refine Tri.thawX (R1 := fun r' H' => ∃ id, H id = none ∧ r' = .ret (.sl id 1 (agrZ L r q).length) ∧ H' = H.set id (.row 1 (agrZ L r q).length (intF (agrZ L r q)))) ?_ ?_
 ·refine Tri.drop ?_
  refine tri_v0 (mset [4]) Try.func65 (by kernel_rfl) rfl (by simp only [List.length_append, List.length_cons, List.length_nil, Try.ntmps65]; decide) ?_
  simp only [vsAll, loadA, loadRow, partA, partOk, fieldAddrA, lenA, nilCheckA, boxA, boxZ, opA, dstOk, nilA, argFr, Nat.reduceAdd, Nat.reduceLT, Nat.reduceBEq, ↓reduceIte, reduceCtorEq, eq_self, wtAll, Try.ntmps65]
  intro i4 hh_i4; (try simp only [Hp.set_none, ite_none] at hh_i4)
  have eLl : (L.map fun s : Nat => (s : Int)).length = L.length := List.length_map _
  refine vs_loop (σ := Nat) (fun i => i ≤ L.length) (fun i => [(3, .rptr 1 2 (fun _ => [i64 (r : Nat), i64 (q : Nat)]) 0 0), (4, .sl i4 1 (agrZ (L.take i) r q).length), (10, intsAV (L.map fun s : Nat => (s : Int))), (11, i64 (L.length : Nat)), (12, i64 i)]) (fun i => H.set i4 (.row 1 (agrZ (L.take i) r q).length (intF (agrZ (L.take i) r q)))) (fun i => L.length - i) 0 (Nat.zero_le _) ?_ ?_ fun i hi => ?_
  ·simp only [vsAll, Nat.reduceEqDiff, ↓reduceIte, eq_self, Int.natCast_zero, eLl]
   exact .refl _
  ·exact HSub_set (row_ext fun q' hq => absurd hq (Nat.not_lt_zero q'))
  ·simp only [vsAll, binA, binLitA, intA, opA, dstOk, Nat.reduceLT, Nat.reduceEqDiff, ↓reduceIte, eq_self]
   refine condD (fun hd => ?_) (fun hd => ?_)
   ·have hil : i < L.length := by ((try clear hh_i4); omega)
    have hs := hL (L.getD i 0) (by rw [List.getD_eq_getElem?_getD, List.getElem?_eq_getElem hil]; exact List.getElem_mem hil)
    have eS : (L.map fun s : Nat => (s : Int)).getD i 0 = ((L.getD i 0 : Nat) : Int) := by simp [List.getD_eq_getElem?_getD, hil]
    have hag := agr_take (r := r) (q := q) hil
    have hle : (agrZ (L.take i) r q).length ≤ 64 := by
     have h1 : (agrZ (L.take i) r q).length ≤ (L.take i).length := by
      rw [agrZ, List.length_map]
      exact List.length_filter_le _ _
     rw [List.length_take] at h1
     ((try clear hh_i4); omega)
    simp only [vsAll, loadA, loadRow, partA, partOk, indexAddrA, okAll, stAll, opsA, opA, dstOk, nilSliceOp, Nat.reduceLT, Nat.reduceEqDiff, Nat.reduceBEq, ↓reduceIte, eq_self, wtAll, intF_at, eS]
    refine ⟨⟨by ((try clear hh_i4); omega), by rw [List.length_map]; ((try clear hh_i4); omega)⟩, by rw [List.length_map]; exact hil, callK_pure (ragrees_tri r q _ _ hr hs) ?_⟩
    simp only [vsAll, opA, ↓reduceIte, eq_self]
    refine condV (fun hc => ?_) (fun hc => ?_)
    ·have hc : L.getD i 0 &&& r = q := of_decide_eq_true hc
     rw [if_pos hc] at hag
     simp only [vsAll, binA, binLitA, intA, cellA, cellsA, okParts, buildSliceA, partIdx, elemsA, lensA, partsA, partsOk, opA, appendA, dstOk, nilSliceOp, Nat.reduceMul, Nat.reduceLT, Nat.reduceLeDiff, Nat.reduceEqDiff, Nat.reduceBEq, ↓reduceIte, eq_self, wtAll]
     have ea := app_ints (agrZ (L.take i) r q) (L.getD i 0 : Nat) (fun i_1 => [[i64 (L.getD i 0 : Nat)]].getD i_1 []) rfl
     have el : agrZ (L.take (i + 1)) r q = agrZ (L.take i) r q ++ [((L.getD i 0 : Nat) : Int)] := by rw [agrZ, hag, List.map_append]; rfl
     refine ⟨fun q' hq => by (have : q' = 0 := by ((try clear hh_i4); omega)); subst this; exact ⟨rfl, trivial⟩, by ((try clear hh_i4); omega), by ((try clear hh_i4); omega), by simp only [InR_i64]; ((try clear hh_i4); omega), loop_next (i + 1) hil (by ((try clear hh_i4); omega)) ?_ ?_⟩
     ·simp only [vsAll, Nat.reduceEqDiff, ↓reduceIte, eq_self, el, List.length_append, Int.natCast_add, Int.natCast_one]
     ·rw [ea, el, Hp.set_set, List.length_append]
      exact HSub_rfl
    ·have hc : ¬ (L.getD i 0 &&& r = q) := of_decide_eq_false hc
     rw [if_neg hc, List.append_nil] at hag
     simp only [vsAll, binA, binLitA, intA, opA, dstOk, Nat.reduceLT, Nat.reduceEqDiff, ↓reduceIte, eq_self]
     have el : agrZ (L.take (i + 1)) r q = agrZ (L.take i) r q := by rw [agrZ, hag]
     refine ⟨by simp only [InR_i64]; ((try clear hh_i4); omega), loop_next (i + 1) hil (by ((try clear hh_i4); omega)) ?_ ?_⟩
     ·simp only [vsAll, Nat.reduceEqDiff, ↓reduceIte, eq_self, el, Int.natCast_add, Int.natCast_one]
     ·rw [el]; exact HSub_rfl
   ·have ei : i = L.length := by ((try clear hh_i4); omega)
    subst ei
    rw [List.take_length]
    simp only [vsAll, opA, dstOk, nilSliceOp, resA, retA.eq_1, Nat.reduceLT, Nat.reduceEqDiff, Nat.reduceBEq, ↓reduceIte, eq_self, Try.results65]
    exact ⟨_, HSub_rfl, i4, hh_i4, rfl, rfl⟩
 ·rintro r' H' ⟨id, hid, rfl, rfl⟩
  exact .inr ⟨_, intsAV (agrZ L r q), id, 1, _, intF (agrZ L r q), rfl, .inr ⟨Hp.set_same _ _ _, .leaf ⟨rfl, intF (agrZ L r q), fun _ _ => rfl, rfl⟩⟩, rfl, set_del hid⟩
/-- The greatest of three. -/
theorem rmax_tri (a b c : Int) (H : Hp) (ha : InR .i64 a) (hb : InR .i64 b) (hc : InR .i64 c) : PTri Try.prog (fnA 122) [intsAV [a, b, c]] H (i64 (max (max a b) c)) := by
 refine tri_v0 (fun _ => false) Try.func122 (by kernel_rfl) rfl (by simp only [List.length_append, List.length_cons, List.length_nil, Try.ntmps122]; decide) ?_
 simp only [vsAll, binA, binLitA, intA, lenA, opA, dstOk, nilSliceOp, argFr, Nat.reduceAdd, Nat.reduceLT, ↓reduceIte, reduceCtorEq, eq_self, wtAll, Try.ntmps122]
 refine condD (fun hd => absurd hd (by decide)) (fun _ => ?_)
 simp only [vsAll, loadA, loadRow, partA, partOk, indexAddrA, opA, dstOk, nilSliceOp, argFr, Nat.reduceAdd, Nat.reduceLT, Int.reduceLE, Int.reduceToNat, ↓reduceIte, reduceCtorEq, eq_self, wtAll, intF_at]
 refine ⟨by omega, ?_⟩
 refine vs_loop (σ := Nat) (fun i => 1 ≤ i ∧ i ≤ 3) (fun i => [(0, intsAV [a, b, c]), (3, i64 (if i = 1 then a else if i = 2 then max a b else max (max a b) c)), (4, i64 i)]) (fun _ => H) (fun i => 3 - i) 1 ⟨Nat.le_refl _, by omega⟩ ?_ HSub_rfl fun i hi => ?_
 ·simp only [vsAll, argFr, Nat.reduceEqDiff, ↓reduceIte, reduceCtorEq, eq_self]
  exact .refl _
 ·simp only [vsAll, binA, binLitA, intA, lenA, opA, dstOk, Nat.reduceAdd, Nat.reduceLT, Nat.reduceEqDiff, ↓reduceIte, reduceCtorEq, eq_self, wtAll]
  refine condD (fun hd => ?_) (fun hd => ?_)
  ·rcases (by omega : i = 1 ∨ i = 2) with rfl | rfl
   ·simp only [vsAll, binA, binLitA, intA, loadA, loadRow, partA, partOk, indexAddrA, mmA, okAll, stAll, opsA, opA, dstOk, nilSliceOp, Nat.reduceAdd, Nat.reduceLT, Nat.reduceEqDiff, ↓reduceIte, reduceCtorEq, eq_self, wtAll, intF_at]
    refine ⟨⟨by omega, by omega⟩, by simp only [InR_i64]; omega, loop_next 2 (by omega) (by omega) ?_ HSub_rfl⟩
    simp only [vsAll, Nat.reduceEqDiff, ↓reduceIte, reduceCtorEq, eq_self]
    exact .refl _
   ·simp only [vsAll, binA, binLitA, intA, loadA, loadRow, partA, partOk, indexAddrA, mmA, okAll, stAll, opsA, opA, dstOk, nilSliceOp, Nat.reduceAdd, Nat.reduceLT, Nat.reduceEqDiff, ↓reduceIte, reduceCtorEq, eq_self, wtAll, intF_at]
    refine ⟨⟨by omega, by omega⟩, by simp only [InR_i64]; omega, loop_next 3 (by omega) (by omega) ?_ HSub_rfl⟩
    simp only [vsAll, Nat.reduceEqDiff, ↓reduceIte, reduceCtorEq, eq_self]
    exact .refl _
  ·have ei : i = 3 := by omega
   subst ei
   simp only [vsAll, opA, dstOk, nilSliceOp, resA, retA.eq_1, Nat.reduceLT, Nat.reduceEqDiff, ↓reduceIte, reduceCtorEq, eq_self, Try.results122]
theorem rgreat_tri (a b : Int) (H : Hp) (id : Nat) (ha : InR .i64 a) (hb : InR .i64 b) (ho : H id = some (.row 1 2 (intF [a, b]))) : Tri Try.prog (fnA 104) [.sl id 1 2] H fun r H' => r = .ret (i64 (max (max a b) 0)) ∧ H' = H.set id (.row 1 3 (intF [a, b, 0])) := by
 refine Tri.drop ?_
 refine tri_v0 (fun _ => false) Try.func104 (by kernel_rfl) rfl (by simp only [List.length_append, List.length_cons, List.length_nil, Try.ntmps104]; decide) ?_
 skip
 simp only [vsAll, cellA, cellsA, okParts, buildSliceA, partIdx, elemsA, lensA, okAll, stAll, opsA, partsA, partsOk, opA, appendA, dstOk, nilSliceOp, argFr, Nat.reduceAdd, Nat.reduceMul, Nat.reduceLT, Nat.reduceLeDiff, Nat.reduceEqDiff, ↓reduceIte, reduceCtorEq, eq_self, wtAll, Try.ntmps104, ho]
 refine ⟨fun q hq => by (have : q = 0 := by ((try clear ho); omega)); subst this; exact ⟨rfl, trivial⟩, ?_⟩
 have ea := app_ints [a, b] 0 (fun i => [[.lit (.int .i64 0)]].getD i []) rfl
 have ea : appF 2 1 (intF [a, b]) (fun i => [[.lit (.int .i64 0)]].getD i []) = intF [a, b, 0] := ea
 rw [ea]
 refine callK_pure (tri_borrow (args' := [intsAV [a, b, 0]]) rfl (fun q hq => ?_) (.lit _) (rmax_tri a b 0 _ ha hb (by simp only [InR_i64]; ((try clear ho); omega)))) ?_
 ·match q, hq with
  | 0, _ => exact .hit (Hp.set_same _ _ _) (fun _ _ => rfl)
 simp only [vsAll, opA, dstOk, nilSliceOp, resA, retA.eq_1, Nat.reduceLT, ↓reduceIte, eq_self, Try.results104]
 exact ⟨_, HSub_rfl, rfl, rfl⟩
end Go.Proofs.Ytclkjifgipcamaa
end
section
set_option linter.unusedVariables false
set_option linter.unusedSimpArgs false
set_option maxHeartbeats 4000000
set_option maxRecDepth 100000
namespace Go.Proofs.Ytclkjifgipcamaa
open Go.V
def frN (r : Nat) : Nat → Nat
 | 0 => 0
 | i + 1 => frN r i + if r.testBit i = true then 0 else 1
theorem frN_le (r : Nat) : ∀ i, frN r i ≤ i
 | 0 => Nat.le_refl _
 | i + 1 => by
   have := frN_le r i
   simp only [frN]
   split <;> omega
theorem frN_or {r x : Nat} (h : r.testBit x = false) : ∀ i, frN (r ||| 2 ^ x) i + (if x < i then 1 else 0) = frN r i
 | 0 => rfl
 | i + 1 => by
   have ih := frN_or h i
   simp only [frN]
   rw [Nat.testBit_or, Nat.testBit_two_pow]
   by_cases e : x = i
   ·subst e
    rw [h, if_neg (Nat.lt_irrefl _)] at *
    simp at ih ⊢
    omega
   ·rw [decide_eq_false e, Bool.or_false]
    by_cases e2 : x < i
    ·rw [if_pos (show x < i + 1 by omega)]
     rw [if_pos e2] at ih
     omega
    ·rw [if_neg (show ¬ x < i + 1 by omega)]
     rw [if_neg e2] at ih
     omega
theorem ws_le {N : Nat} {F : Nat → Int} {L : List Nat} (hF : ∀ x, x < N → 0 ≤ F x ∧ F x ≤ 20) : ∀ m r q, (wsV N F L m r q).2 ≤ 20 * (m : Int) ∧ (wsV N F L m r q).1 ≤ N
 | 0, _, _ => ⟨by simp [wsV], Nat.zero_le _⟩
 | m + 1, r, q => by
   rw [wsV_succ]
   split
   ·exact ⟨by simp; omega, Nat.zero_le _⟩
   ·cases hb : bsS r (wsX N F L m r q) N with
    | none => exact ⟨by simp; omega, Nat.zero_le _⟩
    | some p =>
      obtain ⟨x, n⟩ := p
      obtain ⟨h1, h2, h3⟩ := bsS_val N hb
      refine ⟨?_, Nat.le_of_lt h1⟩
      show n ≤ _
      rw [h3]
      have := (hF x h1).2
      have a := (ws_le (L := L) hF m (r ||| 2 ^ x) (q ||| 2 ^ x)).1
      have b := (ws_le (L := L) hF m (r ||| 2 ^ x) q).1
      unfold wsX
      omega
/-- What rake is asked about. -/
structure OkR (fs : List Int) (N : Nat) (L : List Nat) : Prop where
 nN : N ≤ 6
 f : ∀ x, x < N → 1 ≤ fs.getD x 0 ∧ fs.getD x 0 ≤ 20
 l : ∀ s ∈ L, s < 2 ^ N
 ln : L.length ≤ 64
abbrev fsF (fs : List Int) : Nat → Int := fun x => fs.getD x 0
def wsR (fs : List Int) (N : Nat) (L : List Nat) (r q : Nat) : Nat × Int := wsV N (fsF fs) L (frN r N + 1) r q
abbrev wsY (fs : List Int) (N : Nat) (L : List Nat) (r q : Nat) : Nat → Int := wsX N (fsF fs) L (frN r N) r q
theorem wsR_eq (fs : List Int) (N : Nat) (L : List Nat) (r q : Nat) : wsR fs N L r q = if (agr L r q).length ≤ 1 then (0, 0) else (bsS r (wsY fs N L r q) N).getD (0, 0) := rfl
theorem wsR_or {fs : List Int} {N : Nat} {L : List Nat} {r x : Nat} (q : Nat) (hx : x < N) (hr : r.testBit x = false) : wsV N (fsF fs) L (frN r N) (r ||| 2 ^ x) q = wsR fs N L (r ||| 2 ^ x) q := by
 have := frN_or hr N
 rw [if_pos hx] at this
 unfold wsR
 rw [this]
theorem wsY_eq {fs : List Int} {N : Nat} {L : List Nat} {r q x : Nat} (hx : x < N) (hr : r.testBit x = false) :
  wsY fs N L r q x = fs.getD x 0 + max (max (wsR fs N L (r ||| 2 ^ x) (q ||| 2 ^ x)).2 (wsR fs N L (r ||| 2 ^ x) q).2) 0 := by
 show wsX N (fsF fs) L (frN r N) r q x = _
 unfold wsX
 rw [wsR_or _ hx hr, wsR_or _ hx hr]
theorem OkR.F {fs : List Int} {N : Nat} {L : List Nat} (k : OkR fs N L) : ∀ x, x < N → 0 ≤ fsF fs x ∧ fsF fs x ≤ 20 := fun x hx => by
 have := k.f x hx
 show 0 ≤ fs.getD x 0 ∧ fs.getD x 0 ≤ 20
 omega
theorem wsR_bd {fs : List Int} {N : Nat} {L : List Nat} (k : OkR fs N L) (r q : Nat) : 0 ≤ (wsR fs N L r q).2 ∧ (wsR fs N L r q).2 ≤ 140 ∧ (wsR fs N L r q).1 ≤ 6 := by
 have a := ws_le (L := L) k.F (frN r N + 1) r q
 have b := ws_nonneg (L := L) (fun x hx => (k.F x hx).1) (frN r N + 1) r q
 have c := frN_le r N
 have d := k.nN
 unfold wsR
 omega
theorem und199 : Program.underlying Try.prog 199 = some (.map 132 202) := by kernel_rfl
theorem mapZ199 : mapZ Try.prog 199 = some (.agg #[.int .i64 0, .int .i64 0]) := by kernel_rfl
theorem key132 : Maps.Keyed Try.prog 132 := Maps.Keyed.of_law (deep_law_laid (by kernel_rfl) (m := 10) (by decide) (by decide +kernel) (by kernel_rfl) (by kernel_rfl))
abbrev prV (a b : Int) : Value := .agg #[.int .i64 a, .int .i64 b]
def wsM (fs : List Int) (N : Nat) (L : List Nat) : Value → Value → Prop := fun k v => ∃ r q : Nat, k = prV r q ∧ r < 2 ^ 6 ∧ q < 2 ^ 6 ∧ v = prV ((wsR fs N L r q).1 : Nat) (wsR fs N L r q).2
theorem knK (d l : Nat) (hd : d < 2 ^ 6) (hl : l < 2 ^ 6) : ∃ s, keyOf Try.prog 132 (prV d l) = some s := by
 have := keyOf_ints (P := Try.prog) (k := 132) (d := 5) (n := 2) (by kernel_rfl) (by decide +kernel) (by kernel_rfl) (by kernel_rfl) (l := [(d : Int), (l : Int)]) rfl (by kernel_rfl) (by
  intro x hx
  simp only [List.mem_cons, List.not_mem_nil, or_false] at hx
  rcases hx with rfl | rfl
  ·exact wf_i64 (by simp only [InR_i64]; omega)
  ·exact wf_i64 (by simp only [InR_i64]; omega))
 exact this
theorem azT23 : azT Try.prog 23 = some (1, 1, [.nilFunc]) := by kernel_rfl
/-- One seam looked at. -/
theorem rsee_tri {fv : AV} {b : Bool} {z n v : Int} {x id : Nat} {H : Hp} (ho : H id = some (.box 4 1 fun _ => [boo b, i64 z, i64 n, fv])) (hok : fv.ok) (hst : fv.st = fv) (hf : PTri Try.prog fv [i64 (x : Nat)] H (i64 v)) :
  Tri Try.prog (fnA 105) [.ref id 0 4 0 0, i64 (x : Nat)] H fun r H' => r = .ret (.tuple []) ∧ H' = if b = false ∨ v < n then H.set id (.box 4 1 fun _ => [boo true, i64 (x : Nat), i64 v, fv]) else H := by
 refine Tri.drop ?_
 refine tri_v0 (fun _ => false) Try.func105 (by kernel_rfl) rfl (by simp only [List.length_append, List.length_cons, List.length_nil, Try.ntmps105]; decide) ?_
 skip
 simp only [vsAll, loadA, loadRow, partA, partOk, fieldAddrA, nilCheckA, okAll, stAll, opsA, opA, dstOk, argFr, Nat.reduceLT, Nat.reduceEqDiff, ↓reduceIte, eq_self, wtAll, Try.ntmps105, ho, hok, hst]
 refine callK_pure hf ?_
 simp only [vsAll, binA, binLitA, intA, unA, loadA, loadRow, partA, partOk, fieldAddrA, nilCheckA, pickA, opA, guardV, dstOk, nilSliceOp, argFr, Nat.reduceLT, Nat.reduceEqDiff, ↓reduceIte, reduceCtorEq, implies_true, eq_self, wtAll, ho]
 refine condV (fun hc => ?_) (fun hc => ?_)
 ·have h1 : b = false ∨ v < n := by
   cases b
   ·exact .inl rfl
   ·exact .inr (by simpa using hc)
  rw [if_pos h1]
  simp only [vsAll, fieldAddrA, nilCheckA, cellA, cellsA, opA, newCells, okCells, storeObj, dstOk, resA, argFr, retA.eq_2, Nat.reduceAdd, Nat.reduceLT, Nat.reduceLeDiff, Nat.reduceEqDiff, ↓reduceIte, reduceCtorEq, eq_self, wtAll, Try.results105, ho]
  refine ⟨H.set id (.box 4 1 fun _ => [boo true, i64 (x : Nat), i64 v, fv]), ?_, rfl, rfl⟩
  rw [Hp.set_set, Hp.set_set]
  exact HSub_rfl
 ·have h1 : ¬ (b = false ∨ v < n) := by
   cases b
   ·simp at hc
   ·simpa using hc
  rw [if_neg h1]
  simp only [vsAll, resA, retA.eq_2, eq_self, Try.results105]
  exact ⟨_, HSub_rfl, rfl, rfl⟩
abbrev plF (fs : List Int) (N : Nat) (L : List Nat) (i5 i6 : Nat) : AV := .func (.func 101) [] [.rptr 1 1 (fun _ => [rhP fs N L]) 0 0, .rptr 1 1 (fun _ => [.iface 138 (.agg [])]) 0 0, .ref i5 0 1 0 0, .ref i6 0 1 0 0]
abbrev ofAr (fs : List Int) (N : Nat) (L : List Nat) : AV := .arr 6 1 fun r => List.take 1 (List.drop (r * 1) (rhC fs N L))
abbrev ofF (fs : List Int) (N : Nat) (L : List Nat) : AV := .func (.func 102) [ofAr fs N L] []
abbrev enF (r q i6 i11 : Nat) : AV := .func (.func 103) [] [.ref i6 0 1 0 0, .rptr 1 2 (fun _ => [i64 (r : Nat), i64 (q : Nat)]) 0 0, .ref i11 0 1 0 0]
abbrev wsAV (p : Nat × Int) : AV := .tuple [i64 (p.1 : Nat), i64 p.2]
theorem of_at (fs : List Int) (N : Nat) (L : List Nat) {x : Nat} (hx : x < 6) : List.take 1 (List.drop (x * 1) (rhC fs N L)) = [i64 (fs.getD x 0)] := by
 have : x = 0 ∨ x = 1 ∨ x = 2 ∨ x = 3 ∨ x = 4 ∨ x = 5 := by omega
 rcases this with rfl | rfl | rfl | rfl | rfl | rfl <;> rfl
theorem ren_tri {fs : List Int} {N : Nat} {L : List Nat} (k : OkR fs N L) {r q x i5 i6 i11 : Nat} {H : Hp} (hr : r < 2 ^ 6) (hq : q < 2 ^ 6) (hx : x < N) (hb : r.testBit x = false)
  (h6 : H i6 = some (.box 1 1 fun _ => [plF fs N L i5 i6])) (h11 : H i11 = some (.box 1 1 fun _ => [ofF fs N L]))
  (hT : PTri Try.prog (plF fs N L i5 i6) [knAV (r ||| 2 ^ x) (q ||| 2 ^ x)] H (wsAV (wsR fs N L (r ||| 2 ^ x) (q ||| 2 ^ x))))
  (hF : PTri Try.prog (plF fs N L i5 i6) [knAV (r ||| 2 ^ x) q] H (wsAV (wsR fs N L (r ||| 2 ^ x) q))) :
  PTri Try.prog (enF r q i6 i11) [i64 (x : Nat)] H (i64 (wsY fs N L r q x)) := by
 have hN := k.nN
 have hx6 : x < 6 := by omega
 have b1 := wsR_bd k (r ||| 2 ^ x) (q ||| 2 ^ x)
 have b2 := wsR_bd k (r ||| 2 ^ x) q
 have bf := k.f x hx
 have ey := wsY_eq (fs := fs) (L := L) (q := q) hx hb
 refine Tri.drop ?_
 refine tri_v0 (mset [31]) Try.func103 (by kernel_rfl) rfl (by simp only [List.length_append, List.length_cons, List.length_nil, Try.ntmps103]; decide) ?_
 skip
 simp only [vsAll, opA, dstOk, nilSliceOp, Nat.reduceLT, Nat.reduceBEq, eq_self, Try.ntmps103]
 refine vs_draw2 [0, 0, 0, 0, 0, 0, 0, 0, 0, 0] [] [0, 1, 2, 3, 4, 5, 6, 7, 8, 9] (by decide +kernel) ?_
 simp only [vsAll, loadA, loadRow, partA, partOk, opA, dstOk, argFr, Nat.reduceLT, Nat.reduceEqDiff, ↓reduceIte, reduceCtorEq, eq_self, wtAll, h6]
 refine qcall _ ⟨trivial, by simp only [vsAll, okAll, opsA, opA, Nat.reduceEqDiff, ↓reduceIte, eq_self], rwith_tri r q x true _ hr hq hx6⟩ ?_
 simp only [vsAll, dstOk, Nat.reduceLT, ↓reduceIte, eq_self]
 refine qcall _ ⟨trivial, by simp only [vsAll, okAll, opsA, opA, ↓reduceIte, eq_self], hT⟩ ?_
 simp only [vsAll, extractA, opA, dstOk, Nat.reduceAdd, Nat.reduceLT, Nat.reduceEqDiff, ↓reduceIte, eq_self]
 refine vs_draw2 [0, 0, 0, 0, 0, 0, 0, 0, 0, 0] [] [0, 1, 2, 3, 4, 5, 6, 7, 8, 9] (by decide +kernel) ?_
 simp only [vsAll, loadA, loadRow, partA, partOk, opA, dstOk, argFr, Nat.reduceLT, Nat.reduceEqDiff, ↓reduceIte, reduceCtorEq, eq_self, wtAll, h6]
 refine qcall _ ⟨trivial, by simp only [vsAll, okAll, opsA, opA, Nat.reduceEqDiff, ↓reduceIte, eq_self], rwith_tri r q x false _ hr hq hx6⟩ ?_
 simp only [vsAll, dstOk, Nat.reduceLT, ↓reduceIte, eq_self]
 refine qcall _ ⟨trivial, by simp only [vsAll, okAll, opsA, opA, ↓reduceIte, eq_self], hF⟩ ?_
 simp only [vsAll, loadA, loadRow, partA, partOk, extractA, okAll, stAll, opsA, opA, dstOk, argFr, Nat.reduceAdd, Nat.reduceLT, Nat.reduceEqDiff, ↓reduceIte, reduceCtorEq, eq_self, wtAll, h11]
 refine callK_pure (tri_bound (rof_tri _ (fs.getD x 0) x _ hx6 (of_at fs N L hx6))) ?_
 simp only [vsAll, cellA, cellsA, okParts, buildMutA, partIdx, elemsA, lensA, okAll, stAll, opsA, partsA, partsOk, opA, dstOk, Nat.reduceAdd, Nat.reduceMul, Nat.reduceLT, Nat.reduceLeDiff, Nat.reduceEqDiff, Nat.reduceBEq, ↓reduceIte, eq_self, wtAll]
 generalize (wsR fs N L (r ||| 2 ^ x) (q ||| 2 ^ x)).2 = n1 at *
 generalize (wsR fs N L (r ||| 2 ^ x) q).2 = n2 at *
 intro i31 hh_i31; (try simp only [Hp.set_none, ite_none] at hh_i31)
 refine callK ((rgreat_tri n1 n2 (H.set i31 (.row 1 2 (intF [n1, n2]))) i31 (by simp only [InR_i64]; ((try clear h6 h11 hh_i31); omega)) (by simp only [InR_i64]; ((try clear h6 h11 hh_i31); omega)) (Hp.set_same _ _ _)).less (HSub_set (row_ext fun q hq => ?_))) ?_
 ·match q, hq with
  | 0, _ => rfl
  | 1, _ => rfl
 rintro r' H' ⟨rfl, rfl⟩
 rw [ey]
 simp only [vsAll, binA, binLitA, intA, opA, dstOk, nilSliceOp, resA, retA.eq_1, Nat.reduceLT, Nat.reduceEqDiff, Nat.reduceBEq, ↓reduceIte, eq_self, Try.results103]
 exact ⟨by simp only [InR_i64]; ((try clear h6 h11 hh_i31); omega), dropR_pure rfl (by (repeat (first | exact HSub_rfl | refine HSub_put_eq (by simp only [vsAll, ↓reduceIte, eq_self, reduceCtorEq, Nat.reduceEqDiff, h6, h11, hh_i31]) ?_ | refine HSub_drop2 (by simp only [eq_self, hh_i31]) ?_ | refine HSub_keep_eq (by simp only [vsAll, ↓reduceIte, eq_self, reduceCtorEq, Nat.reduceEqDiff, h6, h11, hh_i31]) ?_)))⟩
def bsC (o : Option (Nat × Int)) (fv : AV) : List AV := match o with
 | none => [boo false, i64 0, i64 0, fv]
 | some (x, n) => [boo true, i64 (x : Nat), i64 n, fv]
abbrev bsB (o : Option (Nat × Int)) : Bool := o.isSome
abbrev bsX (o : Option (Nat × Int)) : Nat := (o.getD (0, 0)).1
abbrev bsN (o : Option (Nat × Int)) : Int := (o.getD (0, 0)).2
theorem bsC_eq (o : Option (Nat × Int)) (fv : AV) : bsC o fv = [boo (bsB o), i64 (bsX o : Nat), i64 (bsN o), fv] := by
 cases o with
 | none => rfl
 | some p => rfl
theorem bsS_free {r i : Nat} {val : Nat → Int} (hr : r.testBit i = false) : bsS r val (i + 1) = if bsB (bsS r val i) = false ∨ val i < bsN (bsS r val i) then some (i, val i) else bsS r val i := by
 simp only [bsS]
 rw [if_neg (by rw [hr]; decide)]
 cases bsS r val i with
 | none => simp
 | some p =>
   obtain ⟨x, n⟩ := p
   show (if val i < n then some (i, val i) else some (x, n)) = if true = false ∨ val i < n then some (i, val i) else some (x, n)
   simp
theorem bsS_skip {r i : Nat} {val : Nat → Int} (hr : r.testBit i = true) : bsS r val (i + 1) = bsS r val i := by
 simp only [bsS]
 rw [if_pos hr]
/-- The plan for what is known. -/
theorem rplan_tri {fs : List Int} {N : Nat} {L : List Nat} (k : OkR fs N L) {i5 i6 im : Nat} :
  ∀ (m r q : Nat) (H : Hp), frN r N = m → r < 2 ^ 6 → q < 2 ^ 6 → H i5 = some (.box 1 1 fun _ => [.map im]) → H i6 = some (.box 1 1 fun _ => [plF fs N L i5 i6]) → H im = some (.memo (wsM fs N L)) →
    PTri Try.prog (plF fs N L i5 i6) [knAV r q] H (wsAV (wsR fs N L r q)) := by
 have hN := k.nN
 have p6 : 2 ^ N ≤ 2 ^ 6 := Nat.pow_le_pow_right (by decide) hN
 have hL6 : ∀ s ∈ L, s < 2 ^ 6 := fun s hs => by have := k.l s hs; omega
 intro m
 induction m using Nat.strongRecOn with
 | _ m ih =>
   intro r q H hm hr hq h5 h6 him
   have hlz : (agrZ L r q).length = (agr L r q).length := List.length_map _
   refine Tri.unpack him fun es ck hes hpw => ?_
   obtain ⟨o, hfo, hst, hcase⟩ := found_of und199 key132 (knK r q hr hq) (fun e he => by
    obtain ⟨d', l', h1, h2, h3, _⟩ := hes e he
    rw [h1]; exact knK d' l' h2 h3) hpw
   have hback : Go.V.HSub (H.set im (.raw (.map es ck))) H := HSub_set' him (memo_le hes hpw)
   have n5 : ¬ i5 = im := fun e => by rw [e, him] at h5; cases h5
   have n6 : ¬ i6 = im := fun e => by rw [e, him] at h6; cases h6
   refine Tri.drop ?_
   refine tri_v0 (mset [9, 11, 12]) Try.func101 (by kernel_rfl) rfl (by simp only [List.length_append, List.length_cons, List.length_nil, Try.ntmps101]; decide) ?_
   skip
   simp only [vsAll, loadA, loadRow, partA, partOk, boxA, boxZ, okAll, stAll, opsA, opA, dstOk, nilSliceOp, argFr, Nat.reduceAdd, Nat.reduceLT, Nat.reduceEqDiff, Nat.reduceBEq, ↓reduceIte, eq_self, wtAll, Try.ntmps101]
   refine callK_pure (ragr_tri fs N L r q _ hL6 k.ln hr) ?_
   simp only [vsAll, loadA, loadRow, partA, partOk, okAll, stAll, opsA, opA, dstOk, nilSliceOp, argFr, Nat.reduceLT, Nat.reduceEqDiff, Nat.reduceBEq, ↓reduceIte, eq_self, wtAll]
   refine callK_pure (tri_inv meth_all (rdone_tri r q (agrZ L r q) _)) ?_
   rw [hlz]
   simp only [vsAll, binA, binLitA, intA, lenA, pickA, opA, guardV, dstOk, Nat.reduceLT, Nat.reduceEqDiff, ↓reduceIte, implies_true, eq_self, wtAll]
   refine condV (fun hc => ?_) (fun hc => ?_)
   ·have h1 : (agr L r q).length ≤ 1 := by
     rw [Bool.or_eq_true, decide_eq_true_eq, decide_eq_true_eq] at hc
     ((try clear n5 n6 h5 h6); omega)
    have ew : wsR fs N L r q = (0, 0) := by rw [wsR_eq, if_pos h1]
    rw [ew]
    simp only [vsAll, opA, dstOk, nilSliceOp, resA, retA.eq_2, Nat.reduceLT, Nat.reduceEqDiff, Nat.reduceBEq, ↓reduceIte, eq_self, Try.results101]
    exact dropR_pure rfl hback
   ·have h1 : ¬ (agr L r q).length ≤ 1 := by
     intro h
     rw [decide_eq_true h] at hc
     cases hc
    have ew : wsR fs N L r q = (bsS r (wsY fs N L r q) N).getD (0, 0) := by rw [wsR_eq, if_neg h1]
    simp only [vsAll, loadA, loadRow, partA, partOk, extractA, cellsA, opA, allocA, newCells, storeObj, lookA, dstOk, nilSliceOp, argFr, Nat.reduceAdd, Nat.reduceMul, Nat.reduceLT, Nat.reduceEqDiff, Nat.reduceBEq, ↓reduceIte, eq_self, wtAll, n5, h5, mapZ199]
    refine ⟨o, hfo _, ?_⟩
    rcases hcase with ⟨rfl, hno⟩ | ⟨j, e, rfl, hj, hk⟩
    ·simp only [vsAll, loadA, loadRow, partA, partOk, fieldAddrA, nilCheckA, cellA, cellsA, fillA, okParts, okAll, stAll, opsA, partsA, partsOk, opA, allocA, newCells, okCells, storeObj, dstOk, argFr, Nat.reduceAdd, Nat.reduceMul, Nat.reduceLT, Nat.reduceLeDiff, Nat.reduceEqDiff, ↓reduceIte, eq_self, wtAll, azT23]
     intro i9 hh_i9; (try simp only [ite_none] at hh_i9); intro i11 hh_i11; (try simp only [ite_none] at hh_i11); intro i12 hh_i12; (try simp only [ite_none] at hh_i12)
     have g1 : ¬ i11 = im ∧ ¬ i12 = im ∧ ¬ i9 = im ∧ ¬ i12 = i11 ∧ ¬ i9 = i11 ∧ ¬ i9 = i12 ∧ H i9 = none ∧ H i11 = none ∧ H i12 = none := by simp_all
     obtain ⟨c1, c2, c3, c4, c5, c6, z9, z11, z12⟩ := g1
     have c1' : ¬ im = i11 := fun e => c1 e.symm
     have c2' : ¬ im = i12 := fun e => c2 e.symm
     have c4' : ¬ i11 = i12 := fun e => c4 e.symm
     have c7 : ¬ i5 = i11 := fun e => by rw [e, z11] at h5; cases h5
     have c8 : ¬ i5 = i12 := fun e => by rw [e, z12] at h5; cases h5
     have c9 : ¬ i6 = i11 := fun e => by rw [e, z11] at h6; cases h6
     have c10 : ¬ i6 = i12 := fun e => by rw [e, z12] at h6; cases h6
     skip
     refine vs_loop (σ := Nat) (fun i => i ≤ N) (fun i => [(1, .rptr 1 1 (fun _ => [rhP fs N L]) 0 0), (3, .ref i5 0 1 0 0), (5, .rptr 1 2 (fun _ => [i64 (r : Nat), i64 (q : Nat)]) 0 0), (12, .ref i12 0 4 0 0), (47, i64 (N : Nat)), (48, i64 i)])
      (fun i => (H.set i11 (.box 1 1 fun _ => [ofF fs N L])).set i12 (.box 4 1 fun _ => bsC (bsS r (wsY fs N L r q) i) (enF r q i6 i11))) (fun i => N - i) 0 (Nat.zero_le _) ?_ ?_ fun i hi => ?_
     ·simp only [vsAll, argFr, Nat.reduceEqDiff, ↓reduceIte, eq_self, Int.natCast_zero]
     ·rw [show bsS r (wsY fs N L r q) 0 = none from rfl]
      show Go.V.HSub _ ((H.set i11 (.box 1 1 fun _ => [ofF fs N L])).set i12 (.box 4 1 fun _ => [boo false, i64 0, i64 0, enF r q i6 i11]))
      refine Go.V.HSub.trans (B := ((H.set im (.raw (.map es ck))).set i11 (.box 1 1 fun _ => [ofF fs N L])).set i12 (.box 4 1 fun _ => [boo false, i64 0, i64 0, enF r q i6 i11])) ?_ (Go.V.HSub.set (Go.V.HSub.set hback (.refl _)) (.refl _))
      rw [Hp.set_set, Hp.set_set, Hp.set_set]
      exact Go.V.HSub.set (Go.V.HSub.set (HSub_drop2 (by rw [Hp.set_ne _ _ c3]; exact z9) HSub_rfl) (box_ext fun _ _ => rfl)) (box_ext fun _ _ => rfl)
     ·simp only [vsAll, binA, binLitA, intA, opA, dstOk, Nat.reduceLT, Nat.reduceEqDiff, ↓reduceIte, eq_self]
      refine condD (fun hd => ?_) (fun hd => ?_)
      ·have hix : i < N := by ((try clear n5 n6 h5 h6 hh_i9 hh_i11 hh_i12 c1 c2 c3 c4 c5 c6 z9 z11 z12 c1' c2' c4' c7 c8 c9 c10 him); omega)
       have hdv : (r : Int) / 2 ^ i = ((r / 2 ^ i : Nat) : Int) := by simp
       have hdl : r / 2 ^ i ≤ r := Nat.div_le_self _ _
       simp only [vsAll, binA, binLitA, intA, loadA, loadRow, partA, partOk, fieldAddrA, opA, dstOk, nilSliceOp, Nat.reduceLT, Nat.reduceEqDiff, Nat.reduceBEq, Int.reduceLE, Int.reduceToNat, ↓reduceIte, eq_self, wtAll]
       refine ⟨⟨by ((try clear n5 n6 h5 h6 hh_i9 hh_i11 hh_i12 c1 c2 c3 c4 c5 c6 z9 z11 z12 c1' c2' c4' c7 c8 c9 c10 him); omega), by ((try clear n5 n6 h5 h6 hh_i9 hh_i11 hh_i12 c1 c2 c3 c4 c5 c6 z9 z11 z12 c1' c2' c4' c7 c8 c9 c10 him); omega), ?_⟩, ⟨?_, ?_, ?_⟩, ?_⟩
       ·trivial
       ·rw [hdv]; exact Int.natCast_nonneg _
       ·rw [hdv]
        generalize r / 2 ^ i = z at *
        simp only [InR_i64]; ((try clear n5 n6 h5 h6 hh_i9 hh_i11 hh_i12 c1 c2 c3 c4 c5 c6 z9 z11 z12 c1' c2' c4' c7 c8 c9 c10 him); omega)
       ·simp only [InR_i64]; ((try clear n5 n6 h5 h6 hh_i9 hh_i11 hh_i12 c1 c2 c3 c4 c5 c6 z9 z11 z12 c1' c2' c4' c7 c8 c9 c10 him); omega)
       have hbt : decide (((((r : Nat) : Int) / 2 ^ i).toNat &&& 1 : Nat) = (1 : Int)) = r.testBit i := bit_eq r i
       rw [hbt]
       refine condV (fun hc => ?_) (fun hc => ?_)
       ·simp only [vsAll, binA, binLitA, intA, opA, dstOk, Nat.reduceLT, Nat.reduceEqDiff, ↓reduceIte, eq_self]
        refine ⟨by simp only [InR_i64]; ((try clear n5 n6 h5 h6 hh_i9 hh_i11 hh_i12 c1 c2 c3 c4 c5 c6 z9 z11 z12 c1' c2' c4' c7 c8 c9 c10 him); omega), loop_next (i + 1) hix (by ((try clear n5 n6 h5 h6 hh_i9 hh_i11 hh_i12 c1 c2 c3 c4 c5 c6 z9 z11 z12 c1' c2' c4' c7 c8 c9 c10 him); omega)) ?_ ?_⟩
        ·simp only [vsAll, Nat.reduceEqDiff, ↓reduceIte, eq_self, Int.natCast_add, Int.natCast_one]
        ·rw [bsS_skip hc]; exact HSub_rfl
       ·have p2 : 2 ^ i < 2 ^ 6 := Nat.pow_lt_pow_right (by decide) (by ((try clear n5 n6 h5 h6 hh_i9 hh_i11 hh_i12 c1 c2 c3 c4 c5 c6 z9 z11 z12 c1' c2' c4' c7 c8 c9 c10 him); omega))
        have b1 : r ||| 2 ^ i < 2 ^ 6 := Nat.or_lt_two_pow hr p2
        have b2 : q ||| 2 ^ i < 2 ^ 6 := Nat.or_lt_two_pow hq p2
        have hfr := frN_or hc N
        rw [if_pos hix] at hfr
        have hbc := bsC_eq (bsS r (wsY fs N L r q) i) (enF r q i6 i11)
        rw [hbc]
        simp only [vsAll, okAll, stAll, opsA, opA, dstOk, Nat.reduceLT, Nat.reduceEqDiff, ↓reduceIte, eq_self]
        have u5 : ((H.set i11 (.box 1 1 fun _ => [ofF fs N L])).set i12 (.box 4 1 fun _ => [boo (bsB (bsS r (wsY fs N L r q) i)), i64 (bsX (bsS r (wsY fs N L r q) i) : Nat), i64 (bsN (bsS r (wsY fs N L r q) i)), enF r q i6 i11])) i5 = some (.box 1 1 fun _ => [.map im]) := by
         rw [Hp.set_ne _ _ c8, Hp.set_ne _ _ c7]; exact h5
        have u6 : ((H.set i11 (.box 1 1 fun _ => [ofF fs N L])).set i12 (.box 4 1 fun _ => [boo (bsB (bsS r (wsY fs N L r q) i)), i64 (bsX (bsS r (wsY fs N L r q) i) : Nat), i64 (bsN (bsS r (wsY fs N L r q) i)), enF r q i6 i11])) i6 = some (.box 1 1 fun _ => [plF fs N L i5 i6]) := by
         rw [Hp.set_ne _ _ c10, Hp.set_ne _ _ c9]; exact h6
        have u11 : ((H.set i11 (.box 1 1 fun _ => [ofF fs N L])).set i12 (.box 4 1 fun _ => [boo (bsB (bsS r (wsY fs N L r q) i)), i64 (bsX (bsS r (wsY fs N L r q) i) : Nat), i64 (bsN (bsS r (wsY fs N L r q) i)), enF r q i6 i11])) i11 = some (.box 1 1 fun _ => [ofF fs N L]) := by
         rw [Hp.set_ne _ _ c4', Hp.set_same]
        have um : ((H.set i11 (.box 1 1 fun _ => [ofF fs N L])).set i12 (.box 4 1 fun _ => [boo (bsB (bsS r (wsY fs N L r q) i)), i64 (bsX (bsS r (wsY fs N L r q) i) : Nat), i64 (bsN (bsS r (wsY fs N L r q) i)), enF r q i6 i11])) im = some (.memo (wsM fs N L)) := by
         rw [Hp.set_ne _ _ c2', Hp.set_ne _ _ c1']; exact him
        have u12 := Hp.set_same (H.set i11 (.box 1 1 fun _ => [ofF fs N L])) i12 (.box 4 1 fun _ => [boo (bsB (bsS r (wsY fs N L r q) i)), i64 (bsX (bsS r (wsY fs N L r q) i) : Nat), i64 (bsN (bsS r (wsY fs N L r q) i)), enF r q i6 i11])
        have hcall := rsee_tri u12 (by trivial) rfl (ren_tri k hr hq hix hc u6 u11 (ih (frN (r ||| 2 ^ i) N) (by ((try clear n5 n6 h5 h6 hh_i9 hh_i11 hh_i12 c1 c2 c3 c4 c5 c6 z9 z11 z12 c1' c2' c4' c7 c8 c9 c10 him); omega)) _ _ _ rfl b1 b2 u5 u6 um) (ih (frN (r ||| 2 ^ i) N) (by ((try clear n5 n6 h5 h6 hh_i9 hh_i11 hh_i12 c1 c2 c3 c4 c5 c6 z9 z11 z12 c1' c2' c4' c7 c8 c9 c10 him); omega)) _ _ _ rfl b1 hq u5 u6 um))
        refine callK hcall ?_
        rintro r' H' ⟨rfl, rfl⟩
        simp only [vsAll, binA, binLitA, intA, opA, dstOk, Nat.reduceLT, Nat.reduceEqDiff, ↓reduceIte, eq_self]
        refine ⟨by simp only [InR_i64]; ((try clear n5 n6 h5 h6 hh_i9 hh_i11 hh_i12 c1 c2 c3 c4 c5 c6 z9 z11 z12 c1' c2' c4' c7 c8 c9 c10 him); omega), loop_next (i + 1) hix (by ((try clear n5 n6 h5 h6 hh_i9 hh_i11 hh_i12 c1 c2 c3 c4 c5 c6 z9 z11 z12 c1' c2' c4' c7 c8 c9 c10 him); omega)) ?_ ?_⟩
        ·simp only [vsAll, Nat.reduceEqDiff, ↓reduceIte, eq_self, Int.natCast_add, Int.natCast_one]
        ·rw [bsS_free hc]
         split
         ·rw [Hp.set_set]; exact HSub_rfl
         ·rw [hbc]; exact HSub_rfl
      ·have ei : i = N := by ((try clear n5 n6 h5 h6 hh_i9 hh_i11 hh_i12 c1 c2 c3 c4 c5 c6 z9 z11 z12 c1' c2' c4' c7 c8 c9 c10 him); omega)
       subst ei
       have hbc := bsC_eq (bsS r (wsY fs i L r q) i) (enF r q i6 i11)
       rw [hbc]
       simp only [vsAll, loadA, loadRow, partA, partOk, fieldAddrA, cellA, cellsA, fillA, okParts, partsA, partsOk, opA, mapUpA, dstOk, Nat.reduceAdd, Nat.reduceLT, Nat.reduceLeDiff, Nat.reduceEqDiff, ↓reduceIte, eq_self, wtAll, h5, hh_i11, hh_i12, c7, c8, him]
       refine ⟨_, _, und199, key132, knK r q hr hq, fun k' v' hkv => ?_, ⟨r, q, rfl, hr, hq, by rw [ew]⟩, ?_⟩
       ·obtain ⟨a, b, e1, e2, e3, _⟩ := hkv
        rw [e1]; exact knK a b e2 e3
       refine vs_draw2 [0, 0, 0, 0, 1, 3] [([0, 1, 2, 3], [3], 4), ([], [], 5)] [] (by decide +kernel) ?_
       simp only [vsAll, loadA, loadRow, partA, partOk, fieldAddrA, opA, dstOk, nilSliceOp, resA, retA.eq_2, Nat.reduceLT, Nat.reduceEqDiff, Nat.reduceBEq, ↓reduceIte, eq_self, wtAll, Try.results101]
       refine dropR_pure ?_ (by (repeat (first | exact HSub_rfl | refine HSub_put_eq (by simp only [vsAll, ↓reduceIte, eq_self, reduceCtorEq, Nat.reduceEqDiff, n5, n6, h5, h6, hh_i9, hh_i11, hh_i12, c1, c2, c3, c4, c5, c6, z9, z11, z12, c1', c2', c4', c7, c8, c9, c10, him]) ?_ | refine HSub_drop2 (by simp only [eq_self, hh_i11, hh_i12]) ?_ | refine HSub_keep_eq (by simp only [vsAll, ↓reduceIte, eq_self, reduceCtorEq, Nat.reduceEqDiff, n5, n6, h5, h6, hh_i9, hh_i11, hh_i12, c1, c2, c3, c4, c5, c6, z9, z11, z12, c1', c2', c4', c7, c8, c9, c10, him]) ?_)))
       rw [ew]
    ·obtain ⟨d', l', e1, e2, e3, e4⟩ := hes e (by
      have := Array.getElem?_eq_some_iff.1 hj
      obtain ⟨hl, rfl⟩ := this
      simp)
     have ev : e.val = prV ((wsR fs N L r q).1 : Nat) (wsR fs N L r q).2 := by
      rw [hk] at e1
      simp only [prV, Value.agg.injEq, Array.mk.injEq, List.cons.injEq, Value.int.injEq, true_and, and_true, Int.ofNat_inj] at e1
      rw [e4, ← e1.1, ← e1.2]
     simp only [vsAll, cellA, okCells, Nat.reduceAdd, eq_self, ev]
     intro i9 hh_i9; (try simp only [ite_none] at hh_i9)
     refine vs_draw2 [0, 0, 0, 0, 1, 3] [([0, 1, 2, 3], [3], 4), ([], [], 5)] [] (by decide +kernel) ?_
     simp only [vsAll, loadA, loadRow, partA, partOk, fieldAddrA, opA, dstOk, nilSliceOp, resA, retA.eq_2, Nat.reduceLT, Nat.reduceEqDiff, Nat.reduceBEq, ↓reduceIte, eq_self, wtAll, Try.results101]
     refine dropR_pure rfl ?_
     refine Go.V.HSub.trans (B := H.set im (.raw (.map es ck))) ?_ hback
     have z9 : (H.set im (.raw (.map es ck))) i9 = none := by
      simp only [Hp.set]
      first | exact hh_i9 | simp_all
     rw [Hp.set_set]
     exact HSub_drop2 z9 HSub_rfl
end Go.Proofs.Ytclkjifgipcamaa
end
section
set_option linter.unusedVariables false
namespace Go.V
set_option linter.unusedSectionVars false
variable [Inhabited GivT]
theorem HRel.boxRe {S : St} {H : Hp} {j st n st' n' : Nat} {g g' : Nat → List AV} (hH : HRel S H) (hj : H j = some (.box st n g)) (hc : ∀ c, CellsAre S c st n g → CellsAre S c st' n' g') : HRel S (H.set j (.box st' n' g')) := by
 obtain ⟨b, c, e, q1, q2, q3, q4⟩ := hH.obj j _ hj
 refine ⟨fun i hi => ⟨?_, (hH.fresh i hi).2⟩, hH.immlt, ?_, ?_, hH.giv⟩
 ·have hi' := (hH.fresh i hi).1
  by_cases ei : i = j
  ·subst ei; rw [hj] at hi'; cases hi'
  ·rw [Hp.set_ne _ _ ei]; exact hi'
 ·intro i o hi
  by_cases ei : i = j
  ·subst ei
   rw [Hp.set_same] at hi
   cases hi
   exact ⟨b, c, e, q1, q2, q3, hc c q4⟩
  ·rw [Hp.set_ne _ _ ei] at hi
   exact hH.obj i o hi
 ·intro i i' o o' x hi hi' hx hx'
  have back : ∀ k o, (H.set j (.box st' n' g')) k = some o → ∃ p, H k = some p ∧ p.gen = o.gen := fun k o hk => by
   by_cases ek : k = j
   ·subst ek
    rw [Hp.set_same] at hk
    cases hk
    exact ⟨_, hj, Eq.refl _⟩
   ·rw [Hp.set_ne _ _ ek] at hk
    exact ⟨o, hk, Eq.refl _⟩
  obtain ⟨p, p1, p2⟩ := back i o hi
  obtain ⟨p', p1', p2'⟩ := back i' o' hi'
  exact hH.inj i i' p p' x p1 p1' (by rw [p2]; exact hx) (by rw [p2']; exact hx')
/-- What slots hold that point into the box. -/
inductive Rfb (id st st' : Nat) : List (Nat × AV) → List (Nat × AV) → Prop
 | nil : Rfb id st st' [] []
 | same {t : Nat} {v : AV} {l l' : List (Nat × AV)} : Rfb id st st' l l' → Rfb id st st' ((t, v) :: l) ((t, v) :: l')
 | hit {t : Nat} {l l' : List (Nat × AV)} : Rfb id st st' l l' → Rfb id st st' ((t, .ref id 0 st 0 0) :: l) ((t, .ref id 0 st' 0 0) :: l')
theorem Rfb.frz {id st st' : Nat} {l l' : List (Nat × AV)} (h : Rfb id st st' l l') : ∀ t, Fr.of l' t = Fr.of l t ∨ (Fr.of l t = .ref id 0 st 0 0 ∧ Fr.of l' t = .ref id 0 st' 0 0) := by
 intro t
 induction h with
 | nil => exact .inl rfl
 | same _ ih =>
   simp only [Fr.of]
   split
   ·exact .inl rfl
   ·exact ih
 | hit _ ih =>
   simp only [Fr.of]
   split
   ·exact .inr ⟨rfl, rfl⟩
   ·exact ih
theorem Rfb.refl {id st st' : Nat} : ∀ l : List (Nat × AV), Rfb id st st' l l
 | [] => .nil
 | (t, v) :: l => .same (Rfb.refl l)
theorem Ent.rebox {s s' : Fr} {ds : List AD} {H : Hp} {K : Fr → List AD → Hp → Prop} {id st n st' n' : Nat} {f f' : Nat → List AV} (ho : H id = some (.box st n f)) (hc : ∀ S c, CellsAre S c st n f → CellsAre S c st' n' f')
  (hs : ∀ t, s' t = s t ∨ (s t = .ref id 0 st 0 0 ∧ s' t = .ref id 0 st' 0 0)) (h : K s' ds (H.set id (.box st' n' f'))) : Ent s ds H K := by
 intro S a hH hF hD
 refine ⟨S, s', ds, _, rfl, Le.refl S, hH.boxRe ho (hc S), fun t => ?_, hD, h⟩
 rcases hs t with e | ⟨e1, e2⟩
 ·rw [e]; exact hF t
 ·rw [e2]
  have := hF t
  rw [e1] at this
  generalize a.tmps.getD t undef = v at this
  generalize hx : AV.ref id 0 st 0 0 = x at this
  cases this with
  | ref hl =>
    cases hx
    have r := VRel.ref (S := S) (id := id) (g := 0) (st := st') (i := 0) (j := 0) hl
    simpa using r
  | _ => cases hx
theorem cells_flat {S : St} {c : Array Value} {st : Nat} {f : Nat → List AV} (h : CellsAre S c st 1 f) : CellsAre S c 1 st fun k => [(f 0).getD k .any] := by
 refine ⟨by have := h.1; omega, fun i hi => rfl, fun i j hi hj => ?_⟩
 have : j = 0 := by omega
 subst this
 have := h.2.2 0 i (by omega) hi
 rw [Nat.zero_mul, Nat.zero_add] at this
 rw [Nat.mul_one, Nat.add_zero]
 exact this
theorem cells_fold {S : St} {c : Array Value} {n : Nat} {f : Nat → List AV} {l : List AV} (hl : l.length = n) (hf : ∀ k, k < n → l.getD k .any = (f k).getD 0 .any) (h : CellsAre S c 1 n f) : CellsAre S c n 1 fun _ => l := by
 refine ⟨by have := h.1; omega, fun i hi => hl, fun i j hi hj => ?_⟩
 have : i = 0 := by omega
 subst this
 have := h.2.2 j 0 hj (by omega)
 rw [Nat.mul_one, Nat.add_zero] at this
 rw [Nat.zero_mul, Nat.zero_add, hf j hj]
 exact this
theorem HSub_eqn {A B : Hp} (h : ∀ q, B q = none ∨ A q = B q) : Go.V.HSub A B := fun q o hq => by
 rcases h q with e | e
 ·rw [e] at hq; cases hq
 ·exact ⟨o, by rw [e]; exact hq, .refl _⟩
theorem HSub_put_le {X Y : Hp} {i : Nat} {o o' : Obj} (h : X i = some o') (hl : Obj.Le o' o) (hr : Go.V.HSub X Y) : Go.V.HSub X (Y.set i o) := fun j x hj => by
 by_cases e : j = i
 ·subst e; rw [Hp.set_same] at hj; cases hj; exact ⟨o', h, hl⟩
 ·rw [Hp.set_ne _ _ e] at hj; exact hr j x hj
end Go.V
end
section
set_option linter.unusedVariables false
set_option linter.unusedSimpArgs false
set_option maxHeartbeats 4000000
set_option maxRecDepth 100000
namespace Go.Proofs.Ytclkjifgipcamaa
open Go.V
theorem r119_tri (v : Int) (H : Hp) (hv : 1 ≤ v ∧ v ≤ 20) : PTri Try.prog (fnA 119) [i64 v] H (boo false) := by
 have c1 : (decide ((1 : Int) ≤ v) && decide (v ≤ 20)) = true := by rw [decide_eq_true hv.1, decide_eq_true hv.2]; rfl
 refine tri_v0 (fun _ => false) Try.func119 (by kernel_rfl) rfl (by simp only [List.length_append, List.length_cons, List.length_nil, Try.ntmps119]; decide) ?_
 simp only [vsAll, okAll, stAll, opsA, opA, dstOk, nilSliceOp, argFr, Nat.reduceLT, ↓reduceIte, reduceCtorEq, eq_self, Try.ntmps119]
 refine callK_pure (rwithin_tri _ _ _ _) ?_
 rw [c1]
 simp only [vsAll, unA, opA, dstOk, nilSliceOp, resA, retA.eq_1, Nat.reduceLT, ↓reduceIte, eq_self, Try.results119]
theorem rindex_tri (l : List Int) (H : Hp) (hl : l.length ≤ 1000) (h : ∀ i, i < l.length → 1 ≤ l.getD i 0 ∧ l.getD i 0 ≤ 20) : PTri Try.prog (fnA 131) [intsAV l, fnA 119] H (i64 (-1)) := by
 refine tri_v0 (fun _ => false) Try.func131 (by kernel_rfl) rfl (by simp only [List.length_append, List.length_cons, List.length_nil, Try.ntmps131]; decide) ?_
 simp only [vsAll, lenA, opA, dstOk, nilSliceOp, argFr, Nat.reduceLT, Int.reduceNeg, ↓reduceIte, reduceCtorEq, eq_self, wtAll, Try.ntmps131]
 refine vs_loop (σ := Nat) (fun i => i ≤ l.length) (fun i => [(0, intsAV l), (1, fnA 119), (7, i64 l.length), (8, i64 i)]) (fun _ => H) (fun i => l.length - i) 0 (Nat.zero_le _) ?_ HSub_rfl fun i hi => ?_
 ·simp only [vsAll, argFr, Nat.reduceEqDiff, ↓reduceIte, reduceCtorEq, eq_self, Int.natCast_zero]
 ·simp only [vsAll, binA, binLitA, intA, opA, dstOk, Nat.reduceLT, Nat.reduceEqDiff, Int.reduceNeg, ↓reduceIte, reduceCtorEq, eq_self]
  refine condD (fun hd => ?_) (fun hd => ?_)
  ·have hil : i < l.length := by omega
   simp only [vsAll, loadA, loadRow, partA, partOk, indexAddrA, okAll, stAll, opsA, opA, dstOk, nilSliceOp, Nat.reduceLT, Nat.reduceEqDiff, Int.reduceNeg, ↓reduceIte, reduceCtorEq, eq_self, wtAll, intF_at]
   refine ⟨⟨by omega, by omega⟩, hil, callK_pure (r119_tri _ _ (h i hil)) ?_⟩
   simp only [vsAll, binA, binLitA, intA, opA, dstOk, Nat.reduceLT, Nat.reduceEqDiff, Int.reduceNeg, ↓reduceIte, reduceCtorEq, eq_self]
   refine ⟨by simp only [InR_i64]; omega, loop_next (i + 1) hil (by omega) ?_ HSub_rfl⟩
   simp only [vsAll, Nat.reduceEqDiff, ↓reduceIte, reduceCtorEq, eq_self, Int.natCast_add, Int.natCast_one]
  ·simp only [vsAll, opA, dstOk, nilSliceOp, resA, retA.eq_1, Nat.reduceLT, Int.reduceNeg, ↓reduceIte, eq_self, Try.results131]
theorem rcont_tri (l : List Int) (H : Hp) (hl : l.length ≤ 1000) (h : ∀ i, i < l.length → 1 ≤ l.getD i 0 ∧ l.getD i 0 ≤ 20) : PTri Try.prog (fnA 121) [intsAV l, fnA 119] H (boo false) := by
 refine tri_v0 (fun _ => false) Try.func121 (by kernel_rfl) rfl (by simp only [List.length_append, List.length_cons, List.length_nil, Try.ntmps121]; decide) ?_
 simp only [vsAll, okAll, stAll, opsA, opA, dstOk, nilSliceOp, argFr, Nat.reduceLT, Nat.reduceEqDiff, ↓reduceIte, reduceCtorEq, eq_self, Try.ntmps121]
 refine callK_pure (rindex_tri l _ hl h) ?_
 simp only [vsAll, binA, binLitA, intA, opA, dstOk, nilSliceOp, resA, retA.eq_1, Nat.reduceLT, Int.reduceNeg, Int.reduceLE, ↓reduceIte, eq_self, Try.results121]
/-- What was found. -/
abbrev Fd := Nat × Bool
def fd0 : Fd := (0, false)
def fdF (l : List Fd) : Nat → List AV := fun i => [i64 ((l.getD i fd0).1 : Nat), boo (l.getD i fd0).2]
theorem fdF_at (l : List Fd) (i : Nat) : fdF l i = [i64 ((l.getD i fd0).1 : Nat), boo (l.getD i fd0).2] := rfl
abbrev fdAV (l : List Fd) : AV := .rsl l.length 2 (fdF l)
def knW (s : Nat × Nat) (p : Fd) : Nat × Nat := (s.1 ||| 2 ^ p.1, if p.2 = true then s.2 ||| 2 ^ p.1 else s.2)
def knL (l : List Fd) : Nat × Nat := l.foldl knW (0, 0)
theorem knL_take {l : List Fd} {i : Nat} (hi : i < l.length) : knL (l.take (i + 1)) = knW (knL (l.take i)) (l.getD i fd0) := by
 unfold knL
 rw [List.take_add_one, List.getElem?_eq_getElem hi, List.getD_eq_getElem?_getD, List.getElem?_eq_getElem hi, Option.toList_some, List.foldl_append]
 rfl
structure OkF (N : Nat) (l : List Fd) : Prop where
 lt : ∀ i, i < l.length → (l.getD i fd0).1 < N
 nw : ∀ i, i < l.length → (knL (l.take i)).1.testBit (l.getD i fd0).1 = false
theorem OkF.kn {N : Nat} {l : List Fd} (k : OkF N l) (hN : N ≤ 6) : ∀ i, i ≤ l.length → (knL (l.take i)).1 < 2 ^ 6 ∧ (knL (l.take i)).2 < 2 ^ 6
 | 0, _ => ⟨Nat.two_pow_pos 6, Nat.two_pow_pos 6⟩
 | i + 1, hi => by
   obtain ⟨h1, h2⟩ := OkF.kn k hN i (by omega)
   rw [knL_take (by omega)]
   have := k.lt i (by omega)
   have p : 2 ^ (l.getD i fd0).1 < 2 ^ 6 := Nat.pow_lt_pow_right (by decide) (by omega)
   unfold knW
   refine ⟨Nat.or_lt_two_pow h1 p, ?_⟩
   dsimp only
   split
   ·exact Nat.or_lt_two_pow h2 p
   ·exact h2
theorem OkF.len {N : Nat} {l : List Fd} (k : OkF N l) : ∀ i, i ≤ l.length → frN (knL (l.take i)).1 N + i = N
 | 0, _ => by
   have : ∀ n, frN 0 n = n := fun n => by
    induction n with
    | zero => rfl
    | succ n ih => simp [frN, ih]
   exact this N
 | i + 1, hi => by
   have ih := OkF.len k i (by omega)
   have h := frN_or (k.nw i (by omega)) N
   rw [if_pos (k.lt i (by omega))] at h
   rw [knL_take (by omega)]
   show frN ((knL (l.take i)).1 ||| 2 ^ _) N + (i + 1) = N
   omega
theorem OkF.le {N : Nat} {l : List Fd} (k : OkF N l) : l.length ≤ N := by
 have := k.len l.length (Nat.le_refl _)
 omega
theorem bit_eqz (r x : Nat) : decide (((((r : Nat) : Int) / 2 ^ x).toNat &&& 1 : Nat) = (0 : Int)) = !(r.testBit x) := by
 have h1 : decide (((((r : Nat) : Int) / 2 ^ x).toNat &&& 1 : Nat) = (1 : Int)) = r.testBit x := bit_eq r x
 rw [← h1, ← decide_not]
 have h2 : (((r : Nat) : Int) / 2 ^ x).toNat &&& 1 ≤ 1 := Nat.and_le_right
 generalize (((r : Nat) : Int) / 2 ^ x).toNat &&& 1 = z at *
 exact decide_eq_decide.2 (by omega)
abbrev rkC (h : Hl) (fs : List Int) : List AV := [lkAV h.sm, lsAV h.so, intsAV fs]
theorem rcheck_tri (h : Hl) (fs : List Int) (l : List Fd) (H : Hp) (k : OkH h) (hfl : fs.length = h.N) (hf : ∀ x, x < h.N → 1 ≤ fs.getD x 0 ∧ fs.getD x 0 ≤ 20) (kf : OkF h.N l) :
  PTri Try.prog (fnA 98) [.agg (rkC h fs), fdAV l, boo true] H (.tuple []) := by
 have nS := k.nS
 have hNe : h.N = h.sm.length := rfl
 have hle := kf.le
 have c1 : decide ((fs.length : Int) = (h.sm.length : Int)) = true := decide_eq_true (by omega)
 refine Tri.drop ?_
 refine tri_v0 (mset [6, 10, 11, 13]) Try.func98 (by kernel_rfl) rfl (by simp only [List.length_append, List.length_cons, List.length_nil, Try.ntmps98]; decide) ?_
 simp only [vsAll, loadA, loadRow, partA, partOk, fieldAddrA, boxA, boxZ, okAll, stAll, opsA, opA, dstOk, argFr, Nat.reduceAdd, Nat.reduceLT, Nat.reduceLeDiff, Nat.reduceBEq, Int.reduceNeg, ↓reduceIte, eq_self, wtAll, Try.ntmps98]
 refine callK_pure (wlrate_tri h _ k) ?_
 simp only [vsAll, binA, binLitA, intA, loadA, loadRow, partA, partOk, fieldAddrA, extractA, lenA, cellA, pickA, opA, allocA, newCells, okCells, storeObj, guardV, dstOk, nilSliceOp, Nat.reduceAdd, Nat.reduceLT, Nat.reduceEqDiff, Nat.reduceBEq, Int.reduceNeg, ↓reduceIte, implies_true, eq_self, wtAll]
 intro i6 hh_i6; (try simp only [Hp.set_none, ite_none] at hh_i6)
 simp only [c1]
 refine gcall (boo false) (fun g => ⟨by simp only [vsAll, opA], by simp only [vsAll, okAll, opsA, opA, Nat.reduceEqDiff, ↓reduceIte, eq_self], rcont_tri fs _ (by ((try clear hh_i6); omega)) (fun i hi => hf i (by ((try clear hh_i6); omega)))⟩) ?_
 simp only [vsAll, unA, pickA, okAll, stAll, opsA, opA, guardV, dstOk, Nat.reduceLT, Nat.reduceEqDiff, ↓reduceIte, implies_true, eq_self]
 refine rwant_call (fun _ => ?_) (fun hb => by cases hb)
 simp only [vsAll, lenA, opA, dstOk, argFr, Nat.reduceLT, Nat.reduceEqDiff, ↓reduceIte, eq_self, wtAll]
 refine vs_loop (σ := Nat) (fun i => i ≤ l.length) (fun i => [(1, fdAV l), (2, boo true), (3, .rptr 1 3 (fun _ => rkC h fs) 0 0), (40, fdAV l), (41, i64 l.length), (42, i64 i)]) (fun _ => H) (fun i => l.length - i) 0 (Nat.zero_le _) ?_ ?_ fun i hi => ?_
 ·simp only [vsAll, argFr, Nat.reduceEqDiff, ↓reduceIte, eq_self, Int.natCast_zero]
 ·(repeat (first | exact HSub_rfl | refine HSub_put_eq (by simp only [vsAll, ↓reduceIte, eq_self, reduceCtorEq, Nat.reduceEqDiff, hh_i6]) ?_ | refine HSub_drop2 (by simp only [eq_self, hh_i6]) ?_ | refine HSub_keep_eq (by simp only [vsAll, ↓reduceIte, eq_self, reduceCtorEq, Nat.reduceEqDiff, hh_i6]) ?_))
 ·simp only [vsAll, binA, binLitA, intA, opA, dstOk, Nat.reduceLT, Nat.reduceEqDiff, ↓reduceIte, eq_self]
  refine condD (fun hd => ?_) (fun hd => ?_)
  ·have hil : i < l.length := by ((try clear hh_i6); omega)
   have hx := kf.lt i hil
   simp only [vsAll, binA, binLitA, intA, loadA, loadRow, partA, partOk, fieldAddrA, indexAddrA, lenA, cellA, okAll, stAll, opsA, opA, allocA, newCells, okCells, storeObj, dstOk, Nat.reduceAdd, Nat.reduceLT, Nat.reduceEqDiff, ↓reduceIte, eq_self, wtAll, fdF_at]
   generalize l.getD i fd0 = p at *
   refine ⟨⟨by ((try clear hh_i6); omega), by ((try clear hh_i6); omega)⟩, hil, ?_⟩
   intro i10 hh_i10; (try simp only [Hp.set_none, ite_none] at hh_i10)
   have c2 : (decide ((0 : Int) ≤ (p.1 : Int)) && decide ((p.1 : Int) ≤ (fs.length : Int) - 1)) = true := by rw [decide_eq_true (by ((try clear hh_i6 hh_i10); omega)), decide_eq_true (by ((try clear hh_i6 hh_i10); omega))]; rfl
   refine ⟨by simp only [InR_i64]; ((try clear hh_i6 hh_i10); omega), callK_pure (rwithin_tri _ _ _ _) ?_⟩
   rw [c2]
   simp only [vsAll, okAll, stAll, opsA, opA, dstOk, Nat.reduceLT, ↓reduceIte, eq_self]
   refine rwant_call (fun _ => ?_) (fun hb => by cases hb)
   simp only [vsAll, binA, binLitA, intA, opA, dstOk, Nat.reduceLT, Nat.reduceEqDiff, ↓reduceIte, eq_self]
   refine ⟨by simp only [InR_i64]; ((try clear hh_i6 hh_i10); omega), loop_next (i + 1) hil (by ((try clear hh_i6 hh_i10); omega)) ?_ ?_⟩
   ·simp only [vsAll, Nat.reduceEqDiff, ↓reduceIte, eq_self, Int.natCast_add, Int.natCast_one]
   ·(repeat (first | exact HSub_rfl | refine HSub_put_eq (by simp only [vsAll, ↓reduceIte, eq_self, reduceCtorEq, Nat.reduceEqDiff, hh_i6, hh_i10]) ?_ | refine HSub_drop2 (by simp only [eq_self, hh_i10]) ?_ | refine HSub_keep_eq (by simp only [vsAll, ↓reduceIte, eq_self, reduceCtorEq, Nat.reduceEqDiff, hh_i6, hh_i10]) ?_))
  ·have ei : i = l.length := by ((try clear hh_i6); omega)
   subst ei
   simp only [vsAll, okAll, stAll, opsA, opA, dstOk, Nat.reduceLT, Nat.reduceEqDiff, ↓reduceIte, eq_self]
   refine rwant_call (fun _ => ?_) (fun hb => by cases hb)
   simp only [vsAll, lenA, opA, allocA, dstOk, Nat.reduceAdd, Nat.reduceLT, Nat.reduceEqDiff, ↓reduceIte, eq_self, wtAll]
   intro i11 hh_i11; (try simp only [Hp.set_none, ite_none] at hh_i11)
   refine vs_loop (σ := Nat) (fun i => i ≤ l.length) (fun i => [(11, .ref i11 0 2 0 0), (57, fdAV l), (58, i64 l.length), (59, i64 i)]) (fun i => H.set i11 (.box 2 1 fun _ => [i64 (knL (l.take i)).1, i64 (knL (l.take i)).2])) (fun i => l.length - i) 0 (Nat.zero_le _) ?_ ?_ fun i hi => ?_
   ·simp only [vsAll, Nat.reduceEqDiff, ↓reduceIte, eq_self, Int.natCast_zero]
   ·exact HSub_rfl
   ·simp only [vsAll, binA, binLitA, intA, opA, dstOk, Nat.reduceLT, Nat.reduceEqDiff, ↓reduceIte, eq_self]
    refine condD (fun hd => ?_) (fun hd => ?_)
    ·have hil : i < l.length := by ((try clear hh_i6 hh_i11); omega)
     have hx := kf.lt i hil
     have hn := kf.nw i hil
     have hk := kf.kn nS i hi
     have hkt := knL_take hil
     simp only [vsAll, binA, binLitA, intA, aggA, aggV, boolA, nilA2, loadA, loadRow, partA, partOk, fieldAddrA, indexAddrA, cellA, okAll, stAll, opsA, opA, allocA, newCells, okCells, storeObj, dstOk, Nat.reduceAdd, Nat.reduceLT, Nat.reduceEqDiff, Int.reduceLE, Int.reduceToNat, ↓reduceIte, reduceCtorEq, implies_true, eq_self, wtAll, fdF_at]
     generalize l.getD i fd0 = p at *
     obtain ⟨x, T⟩ := p
     simp only [] at hx hn hkt
     refine ⟨⟨by ((try clear hh_i6 hh_i11); omega), by ((try clear hh_i6 hh_i11); omega)⟩, hil, ?_⟩
     intro i13 hh_i13; (try simp only [ite_none] at hh_i13)
     generalize hr : knL (l.take i) = s at *
     obtain ⟨r, q⟩ := s
     simp only [] at hn hk
     simp only [vsAll, Nat.reduceLT, ↓reduceIte, eq_self, hh_i13]
     have hdv : (r : Int) / 2 ^ x = ((r / 2 ^ x : Nat) : Int) := by simp
     have hdl : r / 2 ^ x ≤ r := Nat.div_le_self _ _
     have hz := bit_eqz r x
     rw [hn] at hz
     rw [hz]
     refine ⟨⟨by ((try clear hh_i6 hh_i11 hh_i13); omega), by ((try clear hh_i6 hh_i11 hh_i13); omega), ?_⟩, ⟨?_, ?_, ?_⟩, ?_⟩
     ·trivial
     ·rw [hdv]; exact Int.natCast_nonneg _
     ·rw [hdv]
      generalize r / 2 ^ x = z at *
      simp only [InR_i64]; ((try clear hh_i6 hh_i11 hh_i13); omega)
     ·simp only [InR_i64]; ((try clear hh_i6 hh_i11 hh_i13); omega)
     refine rwant_call (fun _ => ?_) (fun hb => by cases hb)
     simp only [vsAll, loadA, loadRow, partA, partOk, fieldAddrA, okAll, stAll, opsA, opA, dstOk, Nat.reduceLT, Nat.reduceEqDiff, ↓reduceIte, eq_self, wtAll, hh_i13]
     refine callK_pure (rwith_tri r q x T _ hk.1 hk.2 (by ((try clear hh_i6 hh_i11 hh_i13); omega))) ?_
     simp only [vsAll, binA, binLitA, intA, cellA, opA, newCells, okCells, storeObj, dstOk, Nat.reduceAdd, Nat.reduceLT, Nat.reduceEqDiff, ↓reduceIte, eq_self, wtAll, hh_i13]
     refine ⟨by simp only [InR_i64]; ((try clear hh_i6 hh_i11 hh_i13); omega), loop_next (i + 1) hil (by ((try clear hh_i6 hh_i11 hh_i13); omega)) ?_ ?_⟩
     ·simp only [vsAll, Nat.reduceEqDiff, ↓reduceIte, eq_self, Int.natCast_add, Int.natCast_one]
     ·have hkw : knW (r, q) (x, T) = (r ||| 2 ^ x, if T = true then q ||| 2 ^ x else q) := rfl
      rw [hkt, hkw]
      (repeat (first | exact HSub_rfl | refine HSub_put_eq (by simp only [vsAll, ↓reduceIte, eq_self]) ?_ | refine HSub_drop2 (by simp only [eq_self, hh_i11, hh_i13]) ?_ | refine HSub_keep_eq (by simp only [vsAll, ↓reduceIte, eq_self, reduceCtorEq, Nat.reduceEqDiff, hh_i6, hh_i11, hh_i13]) ?_))
    ·simp only [vsAll, resA, retA.eq_2, ↓reduceIte, eq_self, Try.results98]
     exact dropR_pure rfl (by (repeat (first | exact HSub_rfl | refine HSub_put_eq (by simp only [vsAll, ↓reduceIte, eq_self, reduceCtorEq, Nat.reduceEqDiff, hh_i6, hh_i11]) ?_ | refine HSub_drop2 (by simp only [eq_self, hh_i11]) ?_ | refine HSub_keep_eq (by simp only [vsAll, ↓reduceIte, eq_self, reduceCtorEq, Nat.reduceEqDiff, hh_i6, hh_i11]) ?_)))
end Go.Proofs.Ytclkjifgipcamaa
end
section
set_option linter.unusedVariables false
set_option linter.unusedSimpArgs false
set_option maxHeartbeats 4000000
set_option maxRecDepth 100000
namespace Go.Proofs.Ytclkjifgipcamaa
open Go.V
theorem azT199 : azT Try.prog 199 = some (1, 1, [.map none]) := by kernel_rfl
theorem azT136 : azT Try.prog 136 = some (1, 1, [.nilFunc]) := by kernel_rfl
abbrev alA : AV := .iface 138 (.agg [])
def plnH (fs : List Int) (N : Nat) (L : List Nat) (i5 i6 im : Nat) (H : Hp) : Hp := ((H.set im (.memo (wsM fs N L))).set i5 (.box 1 1 fun _ => [.map im])).set i6 (.box 1 1 fun _ => [plF fs N L i5 i6])
theorem rmake_tri (fs : List Int) (N : Nat) (L : List Nat) (H : Hp) : Tri Try.prog (fnA 62) [rhP fs N L, alA] H fun r H' => ∃ i5 i6 im, (H i5 = none ∧ H i6 = none ∧ H im = none) ∧ (¬ i5 = im ∧ ¬ i6 = im ∧ ¬ i6 = i5) ∧ r = .ret (plF fs N L i5 i6) ∧ H' = plnH fs N L i5 i6 im H := by
 refine Tri.drop ?_
 refine tri_v0 (mset [5, 6]) Try.func62 (by kernel_rfl) rfl (by simp only [List.length_append, List.length_cons, List.length_nil, Try.ntmps62]; decide) ?_
 simp only [vsAll, loadA, loadRow, partA, partOk, boxA, boxZ, cellA, cellsA, okAll, stAll, opsA, opA, allocA, newCells, okCells, storeObj, nM, dstOk, nilSliceOp, resA, argFr, retA.eq_1, Nat.reduceLT, Nat.reduceEqDiff, Nat.reduceBEq, ↓reduceIte, eq_self, wtAll, Try.ntmps62, Try.results62, azT199, azT136]
 intro im hh_im; (try simp only [Hp.set_none, ite_none] at hh_im); intro i5 hh_i5; (try simp only [ite_none] at hh_i5); intro i6 hh_i6; (try simp only [ite_none] at hh_i6)
 have g1 : ¬ i5 = im ∧ ¬ i6 = im ∧ ¬ i6 = i5 ∧ H i5 = none ∧ H i6 = none ∧ H im = none := by simp_all
 obtain ⟨c1, c2, c3, z5, z6, zm⟩ := g1
 refine ⟨plnH fs N L i5 i6 im H, ?_, i5, i6, im, ⟨z5, z6, zm⟩, ⟨c1, c2, c3⟩, rfl, rfl⟩
 rw [Hp.set_set, Hp.set_set]
 exact Go.V.HSub.set (Go.V.HSub.set (HSub_set (memo_le (by simp) (by simp))) (.refl _)) (.refl _)
theorem plnH_get {fs : List Int} {N : Nat} {L : List Nat} {i5 i6 im : Nat} {H : Hp} (hd : ¬ i5 = im ∧ ¬ i6 = im ∧ ¬ i6 = i5) :
  plnH fs N L i5 i6 im H i5 = some (.box 1 1 fun _ => [.map im]) ∧ plnH fs N L i5 i6 im H i6 = some (.box 1 1 fun _ => [plF fs N L i5 i6]) ∧ plnH fs N L i5 i6 im H im = some (.memo (wsM fs N L)) := by
 unfold plnH
 refine ⟨?_, Hp.set_same _ _ _, ?_⟩
 ·rw [Hp.set_ne _ _ (fun e => hd.2.2 e.symm), Hp.set_same]
 ·rw [Hp.set_ne _ _ (fun e => hd.2.1 e.symm), Hp.set_ne _ _ (fun e => hd.1 e.symm), Hp.set_same]
theorem lkSets_lt {h : Hl} {s : Nat} (hs : s ∈ lkSets h) : s < 2 ^ 6 := (mem_setsD.1 hs).1
theorem lkSets_ltN {h : Hl} (k : OkH h) {s : Nat} (hs : s ∈ lkSets h) : s < 2 ^ h.N := by
 obtain ⟨_, h2⟩ := mem_setsD.1 hs
 obtain ⟨l, hl, rfl⟩ := List.mem_map.1 h2
 have t := (mem_all k.n1).1 hl
 refine Nat.lt_pow_two_of_testBit _ fun j hj => ?_
 unfold lksN
 rw [bitN_bit]
 have : l.getD j 0 = 0 := by rw [List.getD_eq_getElem?_getD, List.getElem?_eq_none (by rw [t.len]; exact hj)]; rfl
 rw [this]
 simp
theorem lkSets_len (h : Hl) : (lkSets h).length ≤ 64 := by
 have := (setsD_nodup (setL (allT h)) 6).length_le_of_subset (fun s hs => List.mem_range.2 (lkSets_lt (h := h) hs) : lkSets h ⊆ List.range 64)
 rw [List.length_range] at this
 exact this
theorem okR_of {h : Hl} {fs : List Int} (k : OkH h) (hf : ∀ x, x < h.N → 1 ≤ fs.getD x 0 ∧ fs.getD x 0 ≤ 20) : OkR fs h.N (lkSets h) := ⟨k.nS, hf, fun s hs => lkSets_ltN k hs, lkSets_len h⟩
abbrev rkL (h : Hl) : List Nat := lkSets h
theorem ropen_tri (h : Hl) (fs : List Int) (l : List Fd) (H : Hp) (k : OkH h) (hT : 0 < (allT h).length) (hfl : fs.length = h.N) (hf : ∀ x, x < h.N → 1 ≤ fs.getD x 0 ∧ fs.getD x 0 ≤ 20) (kf : OkF h.N l)
  (ha : 0 < (agr (rkL h) (knL l).1 (knL l).2).length) :
  PTri Try.prog (fnA 61) [.agg (rkC h fs), fdAV l, boo true] H (.tuple [rhP fs h.N (rkL h), knAV (knL l).1 (knL l).2]) := by
 have nS := k.nS
 have hNe : h.N = h.sm.length := rfl
 have hle := kf.le
 refine Tri.drop ?_
 refine tri_wm Try.func61 (by kernel_rfl) rfl (by simp only [List.length_append, List.length_cons, List.length_nil, Try.ntmps61]; decide) ?_
 refine wps_cutG4 (m := mset [7, 22]) (σ := Nat × Nat) (fun y => H y.1 = none ∧ H y.2 = none ∧ ¬ y.1 = y.2) (fun y => [(1, fdAV l), (3, .rptr 1 3 (fun _ => rkC h fs) 0 0), (7, .ref y.1 0 2 0 0), (8, .ref y.2 0 8 0 0)])
  (fun y => (H.set y.1 (.box 2 1 fun _ => [i64 0, i64 0])).set y.2 (.box 8 1 fun _ => [i64 (fs.getD 0 0), i64 (fs.getD 1 0), i64 (fs.getD 2 0), i64 (fs.getD 3 0), i64 (fs.getD 4 0), i64 (fs.getD 5 0), i64 (h.N : Nat), .lit (.slice none 0 0)])) (fun _ => []) ?_ fun y hy => ?_
 ·simp only [vsAll, loadA, loadRow, partA, partOk, boxA, boxZ, okAll, stAll, opsA, opA, allocA, dstOk, nilSliceOp, argFr, Nat.reduceAdd, Nat.reduceLT, Nat.reduceEqDiff, Nat.reduceBEq, ↓reduceIte, eq_self, wtAll, Try.ntmps61]
  intro i7 hh_i7; (try simp only [Hp.set_none, ite_none] at hh_i7)
  refine callK_pure (rcheck_tri h fs l _ k hfl hf kf) ?_
  simp only [vsAll, loadA, loadRow, partA, partOk, fieldAddrA, lenA, cellA, cellsA, fillA, okParts, partsA, partsOk, opA, boxMutA, dstOk, nilSliceOp, Nat.reduceAdd, Nat.reduceLT, Nat.reduceLeDiff, Nat.reduceEqDiff, Nat.reduceBEq, ↓reduceIte, eq_self, wtAll]
  intro i22 hh_i22; (try simp only [ite_none] at hh_i22)
  have g1 : ¬ i22 = i7 ∧ H i7 = none ∧ H i22 = none := by simp_all
  obtain ⟨c1, z7, z22⟩ := g1
  have c1' : ¬ i7 = i22 := fun e => c1 e.symm
  skip
  refine vs_entR (Ent.of [(1, fdAV l), (3, .rptr 1 3 (fun _ => rkC h fs) 0 0), (7, .ref i7 0 2 0 0), (8, .ref i22 0 8 0 0)] (H' := (H.set i7 (.box 2 1 fun _ => [i64 0, i64 0])).set i22 (.box 8 1 fun _ => [i64 0, i64 0, i64 0, i64 0, i64 0, i64 0, i64 fs.length, .lit (.slice none 0 0)])) (by simp only [vsAll, argFr, Nat.reduceEqDiff, ↓reduceIte, eq_self]) (by (repeat (first | exact HSub_rfl | refine HSub_put_eq (by simp only [vsAll, ↓reduceIte, eq_self, reduceCtorEq, Nat.reduceEqDiff, hh_i7, hh_i22, c1, c1', z7, z22]) ?_ | refine HSub_drop2 (by simp only [vsAll, ↓reduceIte, eq_self, reduceCtorEq, Nat.reduceEqDiff, hh_i7, hh_i22, c1, c1', z7, z22]) ?_ | refine HSub_keep_eq (by simp only [vsAll, ↓reduceIte, eq_self, reduceCtorEq, Nat.reduceEqDiff, hh_i7, hh_i22, c1, c1', z7, z22]) ?_))) ?_)
  refine vs_entR (Ent.rebox (id := i22) (st := 8) (n := 1) (st' := 1) (n' := 8) (f' := fun k => [([i64 0, i64 0, i64 0, i64 0, i64 0, i64 0, i64 fs.length, .lit (.slice none 0 0)] : List AV).getD k .any]) (s' := Fr.of [(1, fdAV l), (3, .rptr 1 3 (fun _ => rkC h fs) 0 0), (7, .ref i7 0 2 0 0), (8, .ref i22 0 1 0 0)]) (Hp.set_same _ _ _) (fun S c h => cells_flat h) (Rfb.frz (.same (.same (.same (.hit .nil))))) ?_)
  rw [Hp.set_set]
  refine vs_draw2 [0, 0, 0, 0, 0, 0, 1] [([0, 1, 2, 3, 4, 5], [], 6)] [] (by decide +kernel) ?_
  simp only [vsAll, loadA, loadRow, partA, partOk, fieldAddrA, nilCheckA, opA, sliceA, boundsA, opO, okO, copyA, dstOk, Nat.reduceSub, Nat.reduceLT, Nat.reduceLeDiff, Nat.reduceEqDiff, ↓reduceIte, eq_self, wtAll]
  refine ⟨fun i hi => ⟨rfl, trivial⟩, ?_⟩
  rw [Hp.set_set]
  refine cutG_ent (Ent.of [(1, fdAV l), (3, .rptr 1 3 (fun _ => rkC h fs) 0 0), (7, .ref i7 0 2 0 0), (8, .ref i22 0 1 0 0)] (by simp only [vsAll, Nat.reduceEqDiff, ↓reduceIte, eq_self]) HSub_rfl ?_)
  refine cutG_ent (Ent.rebox (id := i22) (st := 1) (n := 8) (st' := 8) (n' := 1) (f' := fun _ => [i64 (fs.getD 0 0), i64 (fs.getD 1 0), i64 (fs.getD 2 0), i64 (fs.getD 3 0), i64 (fs.getD 4 0), i64 (fs.getD 5 0), i64 (h.N : Nat), .lit (.slice none 0 0)]) (s' := Fr.of [(1, fdAV l), (3, .rptr 1 3 (fun _ => rkC h fs) 0 0), (7, .ref i7 0 2 0 0), (8, .ref i22 0 8 0 0)]) (Hp.set_same _ _ _) (fun S c hc => cells_fold rfl (fun q hq => ?_) hc) (Rfb.frz (.same (.same (.same (.hit .nil))))) ?_)
  ·simp only [cpF]
   have hgz : ∀ q, fs.length ≤ q → fs.getD q 0 = 0 := fun q hq => by rw [List.getD_eq_getElem?_getD, List.getElem?_eq_none hq]; rfl
   by_cases hq2 : q < fs.length
   ·rw [if_pos (by ((try clear hh_i7 hh_i22 c1 c1' z7 z22); omega))]
    rcases (by ((try clear hh_i7 hh_i22 c1 c1' z7 z22); omega) : q = 0 ∨ q = 1 ∨ q = 2 ∨ q = 3 ∨ q = 4 ∨ q = 5) with rfl | rfl | rfl | rfl | rfl | rfl <;> rfl
   ·rw [if_neg (by ((try clear hh_i7 hh_i22 c1 c1' z7 z22); omega))]
    have hg0 := hgz q (by ((try clear hh_i7 hh_i22 c1 c1' z7 z22); omega))
    rcases (by ((try clear hh_i7 hh_i22 c1 c1' z7 z22); omega) : q = 0 ∨ q = 1 ∨ q = 2 ∨ q = 3 ∨ q = 4 ∨ q = 5 ∨ q = 6 ∨ q = 7) with rfl | rfl | rfl | rfl | rfl | rfl | rfl | rfl
    all_goals first | rfl | (show i64 (fs.getD _ 0) = _; rw [hg0]; rfl) | (show i64 (h.N : Nat) = i64 (fs.length : Nat); rw [hfl])
  rw [Hp.set_set]
  exact cutG_of (i7, i22) ⟨z7, z22, c1'⟩ (by simp only [vsAll, Nat.reduceEqDiff, ↓reduceIte, eq_self]) rfl HSub_rfl
 ·obtain ⟨i7, i22⟩ := y
  obtain ⟨z7, z22, d1⟩ := hy
  simp only [] at z7 z22 d1
  have d1' : ¬ i22 = i7 := fun e => d1 e.symm
  refine wps_cutG3 (m := mset [7, 22]) (σ := Nat) (fun i7 => H i7 = none) (fun i7 => [(1, fdAV l), (7, .ref i7 0 2 0 0), (8, rhP fs h.N (rkL h))]) (fun i7 => H.set i7 (.box 2 1 fun _ => [i64 0, i64 0])) (fun _ => []) ?_ fun i7 h7 => ?_
  ·skip
   simp only [vsAll, loadA, loadRow, partA, partOk, fieldAddrA, okAll, stAll, opsA, opA, dstOk, Nat.reduceLT, Nat.reduceLeDiff, Nat.reduceEqDiff, ↓reduceIte, eq_self, wtAll, Try.ntmps61]
   refine callK_pure (wlsets_tri h _ k hT) ?_
   simp only [vsAll, binA, binLitA, intA, extractA, okAll, stAll, opsA, opA, dstOk, nilSliceOp, Nat.reduceAdd, Nat.reduceLT, Nat.reduceEqDiff, Nat.reduceBEq, ↓reduceIte, eq_self]
   refine rwant_call (fun _ => ?_) (fun hb => by cases hb)
   simp only [vsAll, fieldAddrA, nilCheckA, cellA, cellsA, opA, newCells, okCells, storeObj, dstOk, Nat.reduceAdd, Nat.reduceLT, Nat.reduceEqDiff, ↓reduceIte, eq_self, wtAll]
   refine cutG_ent (Ent.of [(1, fdAV l), (7, .ref i7 0 2 0 0), (8, .ref i22 0 8 0 0)] (by simp only [vsAll, Nat.reduceEqDiff, ↓reduceIte, eq_self]) (H' := (H.set i7 (.box 2 1 fun _ => [i64 0, i64 0])).set i22 (.box 8 1 fun _ => rhC fs h.N (rkL h))) (by (repeat (first | exact HSub_rfl | refine HSub_put_eq (by simp only [vsAll, ↓reduceIte, eq_self, d1]) ?_ | refine HSub_drop2 (by simp only [eq_self, z7, z22]) ?_ | refine HSub_keep_eq (by simp only [vsAll, ↓reduceIte, eq_self, reduceCtorEq, Nat.reduceEqDiff, z7, z22, d1, d1']) ?_))) ?_)
   refine cutG_ent (Ent.freezeB (id := i22) (st := 8) (n := 1) (f := fun _ => rhC fs h.N (rkL h)) (s' := Fr.of [(1, fdAV l), (7, .ref i7 0 2 0 0), (8, rhP fs h.N (rkL h))]) (Hp.set_same _ _ _) (FzB.frz (.same (.same (.hit .nil)))) ?_)
   rw [Hp.del_set, Hp.del_none _ _ (by rw [Hp.set_ne _ _ d1']; exact z22)]
   exact cutG_of i7 z7 (by simp only [vsAll, Nat.reduceEqDiff, ↓reduceIte, eq_self]) rfl HSub_rfl
  ·refine wps_vs (m := mset [7, 11, 13]) ?_
   skip
   simp only [vsAll, lenA, opA, allocA, dstOk, Nat.reduceAdd, Nat.reduceLT, Nat.reduceEqDiff, ↓reduceIte, eq_self, wtAll, Try.ntmps61]
   intro i11 hh_i11; (try simp only [ite_none] at hh_i11)
   refine vs_loop (σ := Nat) (fun i => i ≤ l.length) (fun i => [(7, .ref i7 0 2 0 0), (8, rhP fs h.N (rkL h)), (11, .ref i11 0 2 0 0), (44, fdAV l), (45, i64 l.length), (46, i64 i)]) (fun i => (H.set i7 (.box 2 1 fun _ => [i64 0, i64 0])).set i11 (.box 2 1 fun _ => [i64 (knL (l.take i)).1, i64 (knL (l.take i)).2])) (fun i => l.length - i) 0 (Nat.zero_le _) ?_ ?_ fun i hi => ?_
   ·simp only [vsAll, Nat.reduceEqDiff, ↓reduceIte, eq_self, Int.natCast_zero]
   ·exact HSub_rfl
   ·simp only [vsAll, binA, binLitA, intA, opA, dstOk, Nat.reduceLT, Nat.reduceEqDiff, ↓reduceIte, eq_self]
    refine condD (fun hd => ?_) (fun hd => ?_)
    ·have hil : i < l.length := by ((try clear h7 hh_i11); omega)
     have hx := kf.lt i hil
     have hk := kf.kn nS i hi
     have hkt := knL_take hil
     simp only [vsAll, loadA, loadRow, partA, partOk, fieldAddrA, indexAddrA, cellA, okAll, stAll, opsA, opA, allocA, newCells, okCells, storeObj, dstOk, Nat.reduceAdd, Nat.reduceLT, Nat.reduceEqDiff, ↓reduceIte, eq_self, wtAll, fdF_at]
     generalize l.getD i fd0 = p at *
     obtain ⟨x, T⟩ := p
     simp only [] at hx hkt
     refine ⟨⟨by ((try clear h7 hh_i11); omega), by ((try clear h7 hh_i11); omega)⟩, hil, ?_⟩
     intro i13 hh_i13; (try simp only [ite_none] at hh_i13)
     generalize hr : knL (l.take i) = s at *
     obtain ⟨r, q⟩ := s
     simp only [] at hk
     simp only [vsAll, Nat.reduceLT, ↓reduceIte, eq_self, hh_i13]
     refine callK_pure (rwith_tri r q x T _ hk.1 hk.2 (by ((try clear h7 hh_i11 hh_i13); omega))) ?_
     simp only [vsAll, binA, binLitA, intA, cellA, opA, newCells, okCells, storeObj, dstOk, Nat.reduceAdd, Nat.reduceLT, Nat.reduceEqDiff, ↓reduceIte, eq_self, wtAll, hh_i13]
     refine ⟨by simp only [InR_i64]; ((try clear h7 hh_i11 hh_i13); omega), loop_next (i + 1) hil (by ((try clear h7 hh_i11 hh_i13); omega)) ?_ ?_⟩
     ·simp only [vsAll, Nat.reduceEqDiff, ↓reduceIte, eq_self, Int.natCast_add, Int.natCast_one]
     ·have hkw : knW (r, q) (x, T) = (r ||| 2 ^ x, if T = true then q ||| 2 ^ x else q) := rfl
      rw [hkt, hkw]
      (repeat (first | exact HSub_rfl | refine HSub_put_eq (by simp only [vsAll, ↓reduceIte, eq_self, hh_i11, hh_i13]) ?_ | refine HSub_drop2 (by simp only [eq_self, h7, hh_i11, hh_i13]) ?_ | refine HSub_keep_eq (by simp only [vsAll, ↓reduceIte, eq_self, reduceCtorEq, Nat.reduceEqDiff, h7, hh_i11, hh_i13]) ?_))
    ·have ei : i = l.length := by ((try clear h7 hh_i11); omega)
     subst ei
     rw [List.take_length]
     have hk := kf.kn nS l.length (Nat.le_refl _)
     rw [List.take_length] at hk
     have hag : decide (((agrZ (rkL h) (knL l).1 (knL l).2).length : Int) > 0) = true := by
      rw [agrZ, List.length_map]; exact decide_eq_true (by ((try clear h7 hh_i11); omega))
     simp only [vsAll, loadA, loadRow, partA, partOk, okAll, stAll, opsA, opA, dstOk, Nat.reduceLT, Nat.reduceEqDiff, ↓reduceIte, eq_self, wtAll]
     refine callK_pure (ragr_tri fs h.N (rkL h) (knL l).1 (knL l).2 _ (fun s hs => lkSets_lt hs) (lkSets_len h) hk.1) ?_
     simp only [vsAll, binA, binLitA, intA, lenA, okAll, stAll, opsA, opA, dstOk, Nat.reduceLT, ↓reduceIte, eq_self, wtAll]
     refine rwant_call (fun _ => ?_) (fun hb => ?_)
     ·simp only [vsAll]
      refine vs_draw2 [0, 0, 1, 3] [([0, 1], [1], 2), ([], [], 3)] [] (by decide +kernel) ?_
      simp only [vsAll, loadA, loadRow, partA, partOk, cellA, opA, newCells, okCells, storeObj, dstOk, nilSliceOp, resA, retA.eq_2, Nat.reduceAdd, Nat.reduceLT, Nat.reduceEqDiff, Nat.reduceBEq, ↓reduceIte, eq_self, wtAll, Try.results61, hh_i11]
      exact dropR_pure rfl (by (repeat (first | exact HSub_rfl | refine HSub_put_eq (by simp only [vsAll, ↓reduceIte, eq_self, reduceCtorEq, Nat.reduceEqDiff, h7, hh_i11]) ?_ | refine HSub_drop2 (by simp only [eq_self, h7, hh_i11]) ?_ | refine HSub_keep_eq (by simp only [vsAll, ↓reduceIte, eq_self, reduceCtorEq, Nat.reduceEqDiff, h7, hh_i11]) ?_)))
     ·exact absurd (hb.symm.trans hag) (by decide)
end Go.Proofs.Ytclkjifgipcamaa
end
section
set_option linter.unusedVariables false
set_option linter.unusedSimpArgs false
set_option maxHeartbeats 4000000
set_option maxRecDepth 100000
namespace Go.Proofs.Ytclkjifgipcamaa
open Go.V
theorem okF_nil (N : Nat) : OkF N [] := ⟨fun i hi => absurd hi (Nat.not_lt_zero i), fun i hi => absurd hi (Nat.not_lt_zero i)⟩
theorem wworst_tri (h : Hl) (fs : List Int) (H : Hp) (k : OkH h) (hT : 0 < (allT h).length) (hfl : fs.length = h.N) (hf : ∀ x, x < h.N → 1 ≤ fs.getD x 0 ∧ fs.getD x 0 ≤ 20) (ha : 0 < (agr (lkSets h) 0 0).length) :
  PTri Try.prog (fnA 17) [.agg (rkC h fs)] H (.tuple [i64 (wsR fs h.N (lkSets h) 0 0).2, i64 0]) := by
 have kR := okR_of k hf
 refine Tri.drop ?_
 refine tri_a (m := mset [3, 5]) ans59 Try.func17 (by kernel_rfl) rfl (by simp only [List.length_append, List.length_cons, List.length_nil, Try.ntmps17]; decide) ?_
 simp only [vsAll, loadA, loadRow, partA, partOk, boxA, boxZ, okAll, stAll, opsA, opA, allocA, dstOk, nilSliceOp, deferV, argFr, Nat.reduceAdd, Nat.reduceLT, Nat.reduceEqDiff, Nat.reduceBEq, ↓reduceIte, eq_self, wtAll, Try.ntmps17]
 intro i3 hh_i3; (try simp only [Hp.set_none, ite_none] at hh_i3)
 refine callK_pure (Tri.args (ropen_tri h fs [] _ k hT hfl hf (okF_nil _) ha) rfl fun q hq => ?_) ?_
 ·match q, hq with
  | 0, _ => exact .refl _
  | 1, _ => exact .nil _ _
  | 2, _ => exact .refl _
 simp only [vsAll, extractA, cellA, opA, allocA, newCells, okCells, storeObj, dstOk, nilSliceOp, Nat.reduceAdd, Nat.reduceLT, Nat.reduceEqDiff, Nat.reduceBEq, ↓reduceIte, eq_self, wtAll]
 intro i5 hh_i5; (try simp only [ite_none] at hh_i5)
 refine vs_draw2 [0, 0, 0, 1, 0, 2, 2, 2, 2, 2, 2] [([0, 1, 2, 4], [4], 3)] [5, 6, 7, 8, 9, 10] (by decide +kernel) ?_
 simp only [vsAll, loadA, loadRow, partA, partOk, fillA, okParts, ifaceA, okAll, stAll, opsA, partsA, partsOk, opA, dstOk, Nat.reduceLT, Nat.reduceEqDiff, ↓reduceIte, eq_self, wtAll]
 refine callK (rmake_tri fs h.N (rkL h) _) ?_
 rintro r H' ⟨j5, j6, jm, ⟨z5, z6, zm⟩, hd, rfl, rfl⟩
 have hpl := rplan_tri kR (i5 := j5) (i6 := j6) (im := jm) (frN 0 h.N) 0 0 (plnH fs h.N (rkL h) j5 j6 jm (((H.set i3 (.box 1 1 fun _ => [.lit (.int .i64 0)])).set i5 (.box 2 1 fun _ => [.lit (.int .i64 0), .lit (.int .i64 0)])).set i5 (.box 2 1 fun _ => [i64 (knL []).1, i64 (knL []).2]))) rfl (Nat.two_pow_pos 6) (Nat.two_pow_pos 6) (plnH_get hd).1 (plnH_get hd).2.1 (plnH_get hd).2.2
 unfold plnH at hpl ⊢
 simp only [Hp.set_none] at z5 z6 zm
 obtain ⟨⟨a1, a2⟩, _, ⟨a3, a4⟩, a5⟩ := z5
 obtain ⟨⟨b1, b2⟩, _, ⟨b3, b4⟩, b5⟩ := z6
 obtain ⟨⟨e1, e2⟩, _, ⟨e3, e4⟩, e5⟩ := zm
 have hb := wsR_bd kR 0 0
 obtain ⟨d1, d2, d3⟩ := hd
 skip
 simp only [vsAll, loadA, loadRow, partA, partOk, opA, dstOk, Nat.reduceLT, Nat.reduceEqDiff, ↓reduceIte, eq_self, wtAll, a2, b2, e2]
 refine qcall _ ⟨trivial, by simp only [vsAll, okAll, opsA, opA, Nat.reduceEqDiff, ↓reduceIte, eq_self], hpl⟩ ?_
 simp only [vsAll, extractA, cellA, cellsA, opA, newCells, okCells, storeObj, dstOk, nilSliceOp, Nat.reduceAdd, Nat.reduceLT, Nat.reduceEqDiff, Nat.reduceBEq, ↓reduceIte, eq_self, wtAll, hh_i5, a4, b4, e4]
 refine Ent.ret ⟨i3, _, rfl, by simp only [vsAll, ↓reduceIte, eq_self]; try rfl, ?_⟩
 simp only [vsAll, loadA, loadRow, partA, partOk, resA, retA.eq_2, Nat.reduceLT, Nat.reduceEqDiff, ↓reduceIte, eq_self, wtAll, Try.results17]
 exact dropR_pure rfl (by (repeat (first | exact HSub_rfl | refine HSub_put_eq (by simp only [vsAll, ↓reduceIte, eq_self, reduceCtorEq, Nat.reduceEqDiff, hh_i3, hh_i5, a1, a2, a3, a4, a5, b1, b2, b3, b4, b5, e1, e2, e3, e4, e5, d1, d2, d3]) ?_ | refine HSub_drop2 (by simp only [eq_self, hh_i3, hh_i5, a5, b5, e5]) ?_ | refine HSub_keep_eq (by simp only [vsAll, ↓reduceIte, eq_self, reduceCtorEq, Nat.reduceEqDiff, hh_i3, hh_i5, a1, a2, a3, a4, a5, b1, b2, b3, b4, b5, e1, e2, e3, e4, e5, d1, d2, d3]) ?_)))
theorem wnext_tri (h : Hl) (fs : List Int) (l : List Fd) (H : Hp) (k : OkH h) (hT : 0 < (allT h).length) (hfl : fs.length = h.N) (hf : ∀ x, x < h.N → 1 ≤ fs.getD x 0 ∧ fs.getD x 0 ≤ 20) (kf : OkF h.N l)
  (ha : 0 < (agr (lkSets h) (knL l).1 (knL l).2).length) :
  PTri Try.prog (fnA 63) [.agg (rkC h fs), fdAV l] H (if 1 < (agr (lkSets h) (knL l).1 (knL l).2).length then .tuple [i64 ((wsR fs h.N (lkSets h) (knL l).1 (knL l).2).1 : Nat), i64 (wsR fs h.N (lkSets h) (knL l).1 (knL l).2).2, i64 0] else .tuple [i64 0, i64 0, i64 4]) := by
 have kR := okR_of k hf
 have hk := kf.kn k.nS l.length (Nat.le_refl _)
 rw [List.take_length] at hk
 have eag : (agrZ (rkL h) (knL l).1 (knL l).2).length = (agr (lkSets h) (knL l).1 (knL l).2).length := List.length_map _
 have ho := ropen_tri h fs l H k hT hfl hf kf ha
 refine Tri.drop ?_
 refine tri_a (m := mset [6, 8]) ans106 Try.func63 (by kernel_rfl) rfl (by simp only [List.length_append, List.length_cons, List.length_nil, Try.ntmps63]; decide) ?_
 simp only [vsAll, loadA, loadRow, partA, partOk, boxA, boxZ, okAll, stAll, opsA, opA, allocA, dstOk, nilSliceOp, deferV, argFr, Nat.reduceAdd, Nat.reduceLT, Nat.reduceEqDiff, Nat.reduceBEq, ↓reduceIte, eq_self, wtAll, Try.ntmps63]
 intro i6 hh_i6; (try simp only [Hp.set_none, ite_none] at hh_i6)
 refine callK_pure (ropen_tri h fs l _ k hT hfl hf kf ha) ?_
 simp only [vsAll, loadA, loadRow, partA, partOk, extractA, cellA, okAll, stAll, opsA, opA, allocA, newCells, okCells, storeObj, dstOk, nilSliceOp, Nat.reduceAdd, Nat.reduceLT, Nat.reduceEqDiff, Nat.reduceBEq, ↓reduceIte, eq_self, wtAll]
 intro i8 hh_i8; (try simp only [ite_none] at hh_i8)
 refine callK_pure (ragr_tri fs h.N (rkL h) (knL l).1 (knL l).2 _ (fun s hs => lkSets_lt hs) (lkSets_len h) hk.1) ?_
 simp only [vsAll, binA, binLitA, intA, lenA, okAll, stAll, opsA, opA, dstOk, Nat.reduceLT, ↓reduceIte, eq_self, wtAll]
 rw [eag]
 refine rwant_call (fun hc => ?_) (fun hc => ?_)
 ·have h1 : 1 < (agr (lkSets h) (knL l).1 (knL l).2).length := by have := of_decide_eq_true hc; ((try clear hh_i6 hh_i8); omega)
  rw [if_pos h1]
  simp only [vsAll]
  refine vs_draw2 [0, 0, 0, 1, 0, 2, 2, 2, 2, 2, 2] [([0, 1, 2, 4], [4], 3)] [5, 6, 7, 8, 9, 10] (by decide +kernel) ?_
  simp only [vsAll, loadA, loadRow, partA, partOk, fillA, okParts, ifaceA, okAll, stAll, opsA, partsA, partsOk, opA, dstOk, Nat.reduceLT, Nat.reduceEqDiff, ↓reduceIte, eq_self, wtAll]
  refine callK (rmake_tri fs h.N (rkL h) _) ?_
  rintro r H' ⟨j5, j6, jm, ⟨z5, z6, zm⟩, hd, rfl, rfl⟩
  have hpl := rplan_tri kR (i5 := j5) (i6 := j6) (im := jm) (frN (knL l).1 h.N) (knL l).1 (knL l).2 (plnH fs h.N (rkL h) j5 j6 jm (((H.set i6 (.box 1 1 fun _ => [.lit (.int .i64 0)])).set i8 (.box 2 1 fun _ => [.lit (.int .i64 0), .lit (.int .i64 0)])).set i8 (.box 2 1 fun _ => [i64 (knL l).1, i64 (knL l).2]))) rfl hk.1 hk.2 (plnH_get hd).1 (plnH_get hd).2.1 (plnH_get hd).2.2
  unfold plnH at hpl ⊢
  simp only [Hp.set_none] at z5 z6 zm
  obtain ⟨⟨a1, a2⟩, _, ⟨a3, a4⟩, a5⟩ := z5
  obtain ⟨⟨b1, b2⟩, _, ⟨b3, b4⟩, b5⟩ := z6
  obtain ⟨⟨e1, e2⟩, _, ⟨e3, e4⟩, e5⟩ := zm
  have hb := wsR_bd kR (knL l).1 (knL l).2
  obtain ⟨d1, d2, d3⟩ := hd
  skip
  simp only [vsAll, loadA, loadRow, partA, partOk, opA, dstOk, Nat.reduceLT, Nat.reduceEqDiff, ↓reduceIte, eq_self, wtAll, a2, b2, e2]
  refine qcall _ ⟨trivial, by simp only [vsAll, okAll, opsA, opA, Nat.reduceEqDiff, ↓reduceIte, eq_self], hpl⟩ ?_
  simp only [vsAll, extractA, cellA, cellsA, opA, newCells, okCells, storeObj, dstOk, nilSliceOp, Nat.reduceAdd, Nat.reduceLT, Nat.reduceEqDiff, Nat.reduceBEq, ↓reduceIte, eq_self, wtAll, hh_i8, a4, b4, e4]
  refine Ent.ret ⟨i6, _, rfl, by simp only [vsAll, ↓reduceIte, eq_self]; try rfl, ?_⟩
  simp only [vsAll, loadA, loadRow, partA, partOk, resA, retA.eq_2, Nat.reduceLT, Nat.reduceEqDiff, ↓reduceIte, eq_self, wtAll, Try.results63]
  exact dropR_pure rfl (by (repeat (first | exact HSub_rfl | refine HSub_put_eq (by simp only [vsAll, ↓reduceIte, eq_self, reduceCtorEq, Nat.reduceEqDiff, hh_i6, hh_i8, a1, a2, a3, a4, a5, b1, b2, b3, b4, b5, e1, e2, e3, e4, e5, d1, d2, d3]) ?_ | refine HSub_drop2 (by simp only [eq_self, hh_i6, hh_i8, a5, b5, e5]) ?_ | refine HSub_keep_eq (by simp only [vsAll, ↓reduceIte, eq_self, reduceCtorEq, Nat.reduceEqDiff, hh_i6, hh_i8, a1, a2, a3, a4, a5, b1, b2, b3, b4, b5, e1, e2, e3, e4, e5, d1, d2, d3]) ?_)))
 ·have h1 : ¬ 1 < (agr (lkSets h) (knL l).1 (knL l).2).length := by have := of_decide_eq_false hc; ((try clear hh_i6 hh_i8); omega)
  rw [if_neg h1]
  simp only [vsAll]
  refine ⟨4, i6, _, rfl, rfl, by simp only [vsAll, ↓reduceIte, eq_self, hh_i8]; try rfl, ?_⟩
  simp only [vsAll, loadA, loadRow, partA, partOk, resA, retA.eq_2, Nat.reduceLT, Nat.reduceEqDiff, ↓reduceIte, eq_self, wtAll, Try.results63]
  exact dropR_pure rfl (by (repeat (first | exact HSub_rfl | refine HSub_put_eq (by simp only [vsAll, ↓reduceIte, eq_self, reduceCtorEq, Nat.reduceEqDiff, hh_i6, hh_i8]) ?_ | refine HSub_drop2 (by simp only [eq_self, hh_i6, hh_i8]) ?_ | refine HSub_keep_eq (by simp only [vsAll, ↓reduceIte, eq_self, reduceCtorEq, Nat.reduceEqDiff, hh_i6, hh_i8]) ?_)))
theorem wknown_tri (h : Hl) (fs : List Int) (l : List Fd) (H : Hp) (k : OkH h) (hT : 0 < (allT h).length) (hfl : fs.length = h.N) (hf : ∀ x, x < h.N → 1 ≤ fs.getD x 0 ∧ fs.getD x 0 ≤ 20) (kf : OkF h.N l)
  (ha : 0 < (agr (lkSets h) (knL l).1 (knL l).2).length) :
  PTri Try.prog (fnA 19) [.agg (rkC h fs), fdAV l] H (.tuple [intsAV (agrZ (lkSets h) (knL l).1 (knL l).2), i64 0]) := by
 have hk := kf.kn k.nS l.length (Nat.le_refl _)
 rw [List.take_length] at hk
 refine Tri.drop ?_
 refine tri_a (m := mset [5, 7]) ans64 Try.func19 (by kernel_rfl) rfl (by simp only [List.length_append, List.length_cons, List.length_nil, Try.ntmps19]; decide) ?_
 simp only [vsAll, loadA, loadRow, partA, partOk, boxA, boxZ, okAll, stAll, opsA, opA, allocA, dstOk, nilSliceOp, deferV, argFr, Nat.reduceAdd, Nat.reduceLT, Nat.reduceEqDiff, Nat.reduceBEq, ↓reduceIte, eq_self, wtAll, Try.ntmps19]
 intro i5 hh_i5; (try simp only [Hp.set_none, ite_none] at hh_i5)
 refine callK_pure (ropen_tri h fs l _ k hT hfl hf kf ha) ?_
 simp only [vsAll, loadA, loadRow, partA, partOk, extractA, cellA, okAll, stAll, opsA, opA, allocA, newCells, okCells, storeObj, dstOk, nilSliceOp, Nat.reduceAdd, Nat.reduceLT, Nat.reduceEqDiff, Nat.reduceBEq, ↓reduceIte, eq_self, wtAll]
 intro i7 hh_i7; (try simp only [ite_none] at hh_i7)
 refine callK_pure (ragr_tri fs h.N (rkL h) (knL l).1 (knL l).2 _ (fun s hs => lkSets_lt hs) (lkSets_len h) hk.1) ?_
 simp only [vsAll, cellA, cellsA, opA, newCells, okCells, storeObj, dstOk, nilSliceOp, Nat.reduceLT, Nat.reduceEqDiff, Nat.reduceBEq, ↓reduceIte, eq_self, wtAll, hh_i7]
 refine Ent.ret ⟨i5, _, rfl, by simp only [vsAll, ↓reduceIte, eq_self]; try rfl, ?_⟩
 simp only [vsAll, loadA, loadRow, partA, partOk, resA, retA.eq_2, Nat.reduceLT, Nat.reduceEqDiff, ↓reduceIte, eq_self, wtAll, Try.results19]
 exact dropR_pure rfl (by (repeat (first | exact HSub_rfl | refine HSub_put_eq (by simp only [vsAll, ↓reduceIte, eq_self, reduceCtorEq, Nat.reduceEqDiff, hh_i5, hh_i7]) ?_ | refine HSub_drop2 (by simp only [eq_self, hh_i5, hh_i7]) ?_ | refine HSub_keep_eq (by simp only [vsAll, ↓reduceIte, eq_self, reduceCtorEq, Nat.reduceEqDiff, hh_i5, hh_i7]) ?_)))
end Go.Proofs.Ytclkjifgipcamaa
end
section
set_option linter.unusedVariables false
set_option linter.unusedSimpArgs false
set_option maxHeartbeats 4000000
set_option maxRecDepth 100000
namespace Go.Proofs.Ytclkjifgipcamaa
open Go.V
abbrev u16 (n : Int) : AV := .lit (.int .u16 n)
def byF (b : Nat → Int) : Nat → List AV := fun i => [u16 (b i)]
theorem byF_at (b : Nat → Int) (i : Nat) : byF b i = [u16 (b i)] := rfl
abbrev dwAV (i3 N : Nat) (b : Nat → Int) : AV := .func (.func 56) [] [.ref i3 0 1 0 0, .rptr 1 1 (fun _ => [.rsl N 1 (byF b)]) 0 0]
def dwR (i3 a : Nat) (n : Int) (H : Hp) : Res → Hp → Prop := fun r H' => ∃ v : Int, (0 ≤ v ∧ v < n) ∧ r = .ret (i64 v) ∧ H' = H.set i3 (.box 1 1 fun _ => [i64 ((a + 1 : Nat) : Int)])
structure OkB (N : Nat) (b : Nat → Int) : Prop where
 n : N ≤ 9223372036854775807
 b : ∀ i, i < N → 0 ≤ b i ∧ b i ≤ 65535
theorem dw_tri {N : Nat} {b : Nat → Int} (kb : OkB N b) (i3 a : Nat) (n : Int) (H : Hp) (hn : 1 ≤ n ∧ n ≤ 1000) (ha : a ≤ 1000) (ho : H i3 = some (.box 1 1 fun _ => [i64 a])) :
  Tri Try.prog (dwAV i3 N b) [i64 n] H (dwR i3 a n H) := by
 have hN := kb.n
 have hb := kb.b
 refine Tri.drop ?_
 refine tri_v0 (fun _ => false) Try.func56 (by kernel_rfl) rfl (by simp only [List.length_append, List.length_cons, List.length_nil, Try.ntmps56]; decide) ?_
 skip
 simp only [vsAll, binA, binLitA, intA, loadA, loadRow, partA, partOk, lenA, cellA, cellsA, opA, newCells, okCells, storeObj, dstOk, nilSliceOp, argFr, Nat.reduceLT, Nat.reduceEqDiff, ↓reduceIte, eq_self, wtAll, Try.ntmps56, ho]
 refine ⟨by simp only [InR_i64]; ((try clear ho); omega), ?_⟩
 have hset : (H.set i3 (.box 1 1 fun _ => [i64 ((a : Int) + 1)])) i3 = some (.box 1 1 fun _ => [i64 ((a : Int) + 1)]) := Hp.set_same _ _ _
 refine condD (fun hd => ?_) (fun hd => ?_)
 ·simp only [vsAll, binA, binLitA, intA, loadA, loadRow, partA, partOk, opA, dstOk, nilSliceOp, resA, argFr, retA.eq_1, Nat.reduceLT, Nat.reduceEqDiff, ↓reduceIte, reduceCtorEq, eq_self, ne_eq, wtAll, Try.results56]
  have hv : 0 ≤ ((a : Int) + 1).tmod n ∧ ((a : Int) + 1).tmod n < n := by
   rw [Int.tmod_eq_emod_of_nonneg (by ((try clear ho); omega))]
   exact ⟨Int.emod_nonneg _ (by ((try clear ho); omega)), Int.emod_lt_of_pos _ (by ((try clear ho); omega))⟩
  refine ⟨by ((try clear ho); omega), ?_⟩
  exact ⟨_, HSub_rfl, _, hv, rfl, by rw [Int.natCast_add, Int.natCast_one]⟩
 ·have hq : 0 ≤ ((a : Int) + 1).tmod N ∧ ((a : Int) + 1).tmod N < N := by
   rw [Int.tmod_eq_emod_of_nonneg (by ((try clear ho); omega))]
   exact ⟨Int.emod_nonneg _ (by ((try clear ho); omega)), Int.emod_lt_of_pos _ (by ((try clear ho); omega))⟩
  simp only [vsAll]
  refine vs_draw 14 (by decide +kernel) ?_
  simp only [vsAll, binA, binLitA, intA, loadA, loadRow, partA, partOk, indexAddrA, lenA, convA, opA, dstOk, resA, argFr, retA.eq_1, Nat.reduceLT, Nat.reduceEqDiff, ↓reduceIte, reduceCtorEq, eq_self, ne_eq, wtAll, Try.results56, byF_at]
  have hb2 := hb (((a : Int) + 1).tmod N).toNat (by ((try clear ho); omega))
  generalize b (((a : Int) + 1).tmod N).toNat = B at *
  have hv : 0 ≤ (B + 61 * ((a : Int) + 1)).tmod n ∧ (B + 61 * ((a : Int) + 1)).tmod n < n := by
   rw [Int.tmod_eq_emod_of_nonneg (by ((try clear ho); omega))]
   exact ⟨Int.emod_nonneg _ (by ((try clear ho); omega)), Int.emod_lt_of_pos _ (by ((try clear ho); omega))⟩
  simp only [InR_i64]
  exact ⟨by ((try clear ho); omega), hq, by ((try clear ho); omega), by ((try clear ho); omega), by ((try clear ho); omega), by ((try clear ho); omega), by ((try clear ho); omega), _, HSub_rfl, _, hv, rfl, by rw [Int.natCast_add, Int.natCast_one]⟩
theorem dws_tri (N : Nat) (b : Nat → Int) (H : Hp) : Tri Try.prog (fnA 14) [.rsl N 1 (byF b)] H fun r H' => ∃ i3, H i3 = none ∧ r = .ret (dwAV i3 N b) ∧ H' = H.set i3 (.box 1 1 fun _ => [i64 0]) := by
 refine Tri.drop ?_
 refine tri_v0 (mset []) Try.func14 (by kernel_rfl) rfl (by simp only [List.length_append, List.length_cons, List.length_nil, Try.ntmps14]; decide) ?_
 simp only [vsAll, boxA, boxZ, cellA, cellsA, okAll, stAll, opsA, opA, allocA, newCells, okCells, storeObj, dstOk, nilSliceOp, resA, argFr, retA.eq_1, Nat.reduceLT, Nat.reduceEqDiff, ↓reduceIte, eq_self, wtAll, Try.ntmps14, Try.results14]
 intro i3 hh_i3; (try simp only [Hp.set_none, ite_none] at hh_i3)
 exact ⟨_, by rw [Hp.set_set]; exact HSub_rfl, i3, hh_i3, rfl, rfl⟩
theorem span_tri (a b : Int) (H : Hp) : PTri Try.prog (fnA 57) [i64 a, i64 b] H (.agg [i64 a, i64 b]) := by
 refine Tri.drop ?_
 refine tri_v0 (mset [4]) Try.func57 (by kernel_rfl) rfl (by simp only [List.length_append, List.length_cons, List.length_nil, Try.ntmps57]; decide) ?_
 simp only [vsAll, loadA, loadRow, partA, partOk, cellA, cellsA, fillA, okParts, partsA, partsOk, opA, allocA, newCells, okCells, storeObj, dstOk, resA, argFr, retA.eq_1, Nat.reduceAdd, Nat.reduceLT, Nat.reduceLeDiff, Nat.reduceEqDiff, ↓reduceIte, reduceCtorEq, eq_self, wtAll, Try.ntmps57, Try.results57]
 intro i4 hh_i4; (try simp only [Hp.set_none, ite_none] at hh_i4)
 exact dropR_pure rfl (by (repeat (first | exact HSub_rfl | refine HSub_put_eq (by simp only [vsAll, ↓reduceIte, eq_self, reduceCtorEq, Nat.reduceEqDiff, hh_i4]) ?_ | refine HSub_drop2 (by simp only [eq_self, hh_i4]) ?_ | refine HSub_keep_eq (by simp only [vsAll, ↓reduceIte, eq_self, reduceCtorEq, Nat.reduceEqDiff, hh_i4]) ?_)))
end Go.Proofs.Ytclkjifgipcamaa
end
section
set_option linter.unusedVariables false
set_option linter.unusedSimpArgs false
set_option maxHeartbeats 4000000
set_option maxRecDepth 100000
namespace Go.Proofs.Ytclkjifgipcamaa
open Go.V
/-- Seams while they are drawn, and what they let in. -/
structure SmA (sm : List Lk) (u : List Int) : Prop where
 n : sm.length ≤ 5
 len : u.length = sm.length
 s : ∀ i, i < sm.length → (0 ≤ (sm.getD i lk0).ht ∧ (sm.getD i lk0).ht ≤ 8) ∧ (-1 ≤ (sm.getD i lk0).sd ∧ (sm.getD i lk0).sd ≤ 1) ∧ (0 ≤ (sm.getD i lk0).mo ∧ (sm.getD i lk0).mo ≤ 3) ∧ 0 ≤ u.getD i 0 ∧ u.getD i 0 ≤ (sm.getD i lk0).mo
theorem getD_snoc' {α : Type} (l : List α) (x d : α) (i : Nat) : (l ++ [x]).getD i d = if i = l.length then x else l.getD i d := by
 by_cases h : i < l.length
 ·rw [if_neg (by omega)]; simp [List.getD_eq_getElem?_getD, List.getElem?_append_left h]
 ·by_cases e : i = l.length
  ·subst e; simp [List.getD_eq_getElem?_getD]
  ·rw [if_neg e]
   simp [List.getD_eq_getElem?_getD]
   rw [List.getElem?_eq_none (by simp; omega), List.getElem?_eq_none (by omega)]
theorem SmA.nil : SmA [] [] := ⟨Nat.zero_le _, rfl, fun i hi => absurd hi (Nat.not_lt_zero i)⟩
theorem SmA.add {sm : List Lk} {u : List Int} (h : SmA sm u) (hn : sm.length < 5) {x : Lk} {v : Int} (hx : (0 ≤ x.ht ∧ x.ht ≤ 8) ∧ (-1 ≤ x.sd ∧ x.sd ≤ 1) ∧ (0 ≤ x.mo ∧ x.mo ≤ 3) ∧ 0 ≤ v ∧ v ≤ x.mo) : SmA (sm ++ [x]) (u ++ [v]) := by
 refine ⟨by simp; omega, by simp [h.len], fun i hi => ?_⟩
 rw [getD_snoc', getD_snoc', h.len]
 by_cases e : i = sm.length
 ·rw [if_pos e, if_pos e]; exact hx
 ·rw [if_neg e, if_neg e]
  simp at hi
  exact h.s i (by omega)
theorem SmA.add2 {sm : List Lk} {u : List Int} (h : SmA sm u) (hn : sm.length < 5) {v1 v2 v3 v : Int} (h1 : 0 ≤ v1 ∧ v1 < 9) (h2 : 0 ≤ v2 ∧ v2 < 3) (h3 : 0 ≤ v3 ∧ v3 < 4) (h4 : 0 ≤ v ∧ v ≤ v3) : SmA (sm ++ [⟨v1, v2 - 1, v3⟩]) (u ++ [v]) :=
 h.add hn ⟨⟨h1.1, show v1 ≤ 8 by omega⟩, ⟨show -1 ≤ v2 - 1 by omega, show v2 - 1 ≤ 1 by omega⟩, ⟨h3.1, show v3 ≤ 3 by omega⟩, h4.1, h4.2⟩
/-- What soundings are told, so that they hold. -/
def flS (sm : List Lk) (u : List Int) (d l : Int) (i : Nat) : Int := smZ (fun q => if (sm.getD q lk0).ht ≤ d + (sm.getD q lk0).sd * l then u.getD q 0 else 0) i
structure SoA (sm : List Lk) (u : List Int) (so : List Ls) : Prop where
 n : so.length ≤ 8
 q : ∀ i, i < so.length → ((0 ≤ (so.getD i ls0).dr ∧ (so.getD i ls0).dr ≤ 12) ∧ -3 ≤ (so.getD i ls0).li ∧ (so.getD i ls0).li ≤ 3) ∧ 0 ≤ (so.getD i ls0).lo ∧ (so.getD i ls0).hi ≤ 24 ∧
   (so.getD i ls0).lo ≤ flS sm u (so.getD i ls0).dr (so.getD i ls0).li sm.length ∧ flS sm u (so.getD i ls0).dr (so.getD i ls0).li sm.length ≤ (so.getD i ls0).hi
theorem flS_bd {sm : List Lk} {u : List Int} (h : SmA sm u) (d l : Int) : ∀ i, i ≤ sm.length → 0 ≤ flS sm u d l i ∧ flS sm u d l i ≤ 3 * (i : Int)
 | 0, _ => ⟨Int.le_refl _, Int.le_refl _⟩
 | i + 1, hi => by
   have ih := flS_bd h d l i (by omega)
   have hs := h.s i (by omega)
   have e : flS sm u d l (i + 1) = flS sm u d l i + (if (sm.getD i lk0).ht ≤ d + (sm.getD i lk0).sd * l then u.getD i 0 else 0) := rfl
   rw [e]
   split <;> omega
theorem SoA.nil (sm : List Lk) (u : List Int) : SoA sm u [] := ⟨Nat.zero_le _, fun i hi => absurd hi (Nat.not_lt_zero i)⟩
theorem SoA.add {sm : List Lk} {u : List Int} {so : List Ls} (h : SoA sm u so) (hn : so.length < 8) {d l lo hi : Int} (hd : 0 ≤ d ∧ d ≤ 12) (hl : -3 ≤ l ∧ l ≤ 3) (h0 : 0 ≤ lo) (h1 : hi ≤ 24) (h2 : lo ≤ flS sm u d l sm.length) (h3 : flS sm u d l sm.length ≤ hi) :
  SoA sm u (so ++ [⟨d, l, lo, hi⟩]) := by
 refine ⟨by simp; omega, fun i hi => ?_⟩
 rw [getD_snoc']
 by_cases e : i = so.length
 ·rw [if_pos e]; exact ⟨⟨hd, hl⟩, h0, h1, h2, h3⟩
 ·rw [if_neg e]
  simp at hi
  exact h.q i (by omega)
theorem fl_eq (sm : List Lk) (so : List Ls) (u : List Int) (d l : Int) : lsN (wetS ⟨sm, so⟩ d l) u sm.length = flS sm u d l sm.length := by
 unfold lsN flS
 refine smZ_congr sm.length fun i hi => ?_
 unfold inn
 rw [wetS_bit ⟨sm, so⟩ d l (show i < (⟨sm, so⟩ : Hl).N from hi)]
 unfold wetB
 show (if decide ((sm.getD i lk0).ht ≤ d + (sm.getD i lk0).sd * l) = true then u.getD i 0 else 0) = _
 simp only [decide_eq_true_eq]
theorem made_ok {sm : List Lk} {u : List Int} {so : List Ls} (hs : SmA sm u) (h1 : 1 ≤ sm.length) (hq : SoA sm u so) : OkH ⟨sm, so⟩ ∧ Tru ⟨sm, so⟩ u := by
 have n5 := hs.n
 refine ⟨⟨h1, show sm.length ≤ 6 by omega, hq.n, fun i hi => ?_, fun i hi => ?_⟩, ⟨hs.len, fun i hi => ?_, fun q hq2 => ?_⟩⟩
 ·have := hs.s i hi
  show (0 ≤ (sm.getD i lk0).ht ∧ (sm.getD i lk0).ht ≤ 12) ∧ (-1 ≤ (sm.getD i lk0).sd ∧ (sm.getD i lk0).sd ≤ 1) ∧ 0 ≤ (sm.getD i lk0).mo ∧ (sm.getD i lk0).mo ≤ 4
  omega
 ·obtain ⟨h1, h2, h3, h4, h5⟩ := hq.q i hi
  exact ⟨h1, h2, Int.le_trans h4 h5, h3⟩
 ·have := hs.s i hi
  show 0 ≤ u.getD i 0 ∧ u.getD i 0 ≤ (((sm.getD i lk0).mo.toNat : Nat) : Int)
  omega
 ·obtain ⟨h1, h2, h3, h4, h5⟩ := hq.q q hq2
  show (so.getD q ls0).lo ≤ lsN (wetS ⟨sm, so⟩ (so.getD q ls0).dr (so.getD q ls0).li) u sm.length ∧ lsN (wetS ⟨sm, so⟩ (so.getD q ls0).dr (so.getD q ls0).li) u sm.length ≤ (so.getD q ls0).hi
  rw [fl_eq]
  exact ⟨h4, h5⟩
def mdH (H : Hp) (i3 j5 ir iq i4 a : Nat) (u : List Int) (sm : List Lk) (so : List Ls) : Hp :=
 ((((H.set i3 (.box 1 1 fun _ => [i64 a])).set j5 (.row 1 u.length (intF u))).set ir (.row 3 sm.length (lkF sm))).set iq (.row 4 so.length (lsF so))).set i4 (.box 2 1 fun _ => [.sl ir 3 sm.length, .sl iq 4 so.length])
theorem made_tri {N : Nat} {b : Nat → Int} (kb : OkB N b) (i3 a0 : Nat) (n : Int) (H : Hp) (hn : 0 ≤ n ∧ n ≤ 8) (ha : a0 ≤ 100) (ho : H i3 = some (.box 1 1 fun _ => [i64 a0])) :
  Tri Try.prog (fnA 15) [dwAV i3 N b, i64 n] H fun r H' => ∃ (h : Hl) (u : List Int) (a : Nat), OkH h ∧ Tru h u ∧ a ≤ a0 + 200 ∧ r = .ret (.tuple [h.av, intsAV u]) ∧ H' = H.set i3 (.box 1 1 fun _ => [i64 a]) := by
 refine tri_vs (m := mset [5, 6, 8, 9, 10, 11]) Try.func15 (by kernel_rfl) rfl (by simp only [List.length_append, List.length_cons, List.length_nil, Try.ntmps15]; decide) ?_
 skip
 simp only [vsAll, okAll, stAll, opsA, opA, allocA, dstOk, nilA, argFr, Nat.reduceAdd, Nat.reduceLT, Nat.reduceBEq, ↓reduceIte, reduceCtorEq, eq_self, wtAll, Try.ntmps15]
 intro i4 hh_i4; (try simp only [Hp.set_none, ite_none] at hh_i4); intro j5 hh_j5; (try simp only [ite_none] at hh_j5)
 have g1 : ¬ i4 = i3 ∧ ¬ j5 = i3 ∧ ¬ j5 = i4 ∧ H i4 = none ∧ H j5 = none := ⟨fun e => by rw [e, ho] at hh_i4; simp_all, fun e => by rw [e] at hh_j5; simp_all, by simp_all, by simp_all, by simp_all⟩
 obtain ⟨c43, c53, c54, z4, z5⟩ := g1
 have c43' : ¬ i3 = i4 := fun e => c43 e.symm
 have c53' : ¬ i3 = j5 := fun e => c53 e.symm
 have c54' : ¬ i4 = j5 := fun e => c54 e.symm
 skip
 refine callK (dw_tri kb i3 a0 5 _ (by ((try clear ho hh_i4 hh_j5 c43 c53 c54 z4 z5 c43' c53' c54'); omega)) (by ((try clear ho hh_i4 hh_j5 c43 c53 c54 z4 z5 c43' c53' c54'); omega)) (by simp only [vsAll, ↓reduceIte, eq_self, ho, c43', c53'])) ?_
 rintro r H' ⟨v, hv, rfl, rfl⟩
 obtain ⟨m, rfl⟩ : ∃ m : Nat, v = (m : Int) := ⟨v.toNat, by ((try clear ho hh_i4 hh_j5 c43 c53 c54 z4 z5 c43' c53' c54'); omega)⟩
 simp only [vsAll, binA, binLitA, intA, opA, dstOk, Nat.reduceLT, ↓reduceIte, eq_self]
 refine ⟨by simp only [InR_i64]; ((try clear ho hh_i4 hh_j5 c43 c53 c54 z4 z5 c43' c53' c54'); omega), ?_⟩
 refine vs_entL (Ent.nilBox 3 (lkF []) (fun id _ => [.sl id 3 0, .lit (.slice none 0 0)]) (j := i4) (st' := 2) (n' := 1) (g := fun _ => [.lit (.slice none 0 0), .lit (.slice none 0 0)]) (by simp only [vsAll, ↓reduceIte, eq_self, hh_j5, c43]) (fun _ _ _ => rfl) (fun id q d hq hd => ?_) fun ir hir => ?_)
 ·match d, hd with
  | 0, _ => exact .hit
  | 1, _ => exact .rfl
 simp only [Hp.set_none] at hir
 refine vs_entL (Ent.nilBox 4 (lsF []) (fun id _ => [.sl ir 3 0, .sl id 4 0]) (j := i4) (st' := 2) (n' := 1) (g := fun _ => [.sl ir 3 0, .lit (.slice none 0 0)]) (by simp only [vsAll, ↓reduceIte, eq_self]) (fun _ _ _ => rfl) (fun id q d hq hd => ?_) fun iq hiq => ?_)
 ·match d, hd with
  | 0, _ => exact .rfl
  | 1, _ => exact .hit
 simp only [Hp.set_none] at hiq
 obtain ⟨⟨r3, r3'⟩, ⟨r5, r5'⟩, ⟨r4, r4'⟩, zr⟩ := hir
 obtain ⟨⟨q4, q4'⟩, ⟨qr, qr'⟩, ⟨q3, q3'⟩, ⟨q5, q5'⟩, _, zq⟩ := hiq
 skip
 have hadS : ∀ (l : List Lk) (x : Lk) (G : Nat → List AV), G 0 = x.cs → appF l.length 1 (lkF l) G = lkF (l ++ [x]) := fun l x G hG => app_lF (fun x : Lk => x.cs) lk0 l x G hG
 have hadQ : ∀ (l : List Ls) (x : Ls) (G : Nat → List AV), G 0 = x.cs → appF l.length 1 (lsF l) G = lsF (l ++ [x]) := fun l x G hG => app_lF (fun x : Ls => x.cs) ls0 l x G hG
 refine vs_loop (σ := Nat × List Lk × List Int) (fun y => SmA y.2.1 y.2.2 ∧ y.2.1.length ≤ m + 1 ∧ y.1 ≤ a0 + 1 + 5 * y.2.1.length) (fun y => [(0, dwAV i3 N b), (1, i64 n), (4, .ref i4 0 2 0 0), (5, .sl j5 1 y.2.2.length), (14, i64 (m + 1 : Nat)), (15, i64 y.2.1.length)])
  (fun y => mdH H i3 j5 ir iq i4 y.1 y.2.2 y.2.1 []) (fun y => m + 1 - y.2.1.length) (a0 + 1, [], []) ⟨SmA.nil, Nat.zero_le _, Nat.le_refl _⟩ ?_ ?_ fun y hy => ?_
 ·simp only [vsAll, argFr, Nat.reduceEqDiff, ↓reduceIte, reduceCtorEq, eq_self, Int.natCast_zero, Int.natCast_add, Int.natCast_one, Int.add_comm]
 ·unfold mdH
  simp only [List.length_nil]
  refine HSub_put_eq (by simp only [vsAll, ↓reduceIte, eq_self]) (HSub_put_eq (by simp only [vsAll, ↓reduceIte, eq_self, q4]) (HSub_put_eq (by simp only [vsAll, ↓reduceIte, eq_self, r4, qr']) (HSub_put_le (o' := .row 1 0 fun _ => []) (by simp only [vsAll, ↓reduceIte, eq_self, hh_j5, c53, r5', q5']) (row_ext fun q hq => absurd hq (Nat.not_lt_zero q)) ?_)))
  (refine HSub_eqn fun jj => ?_; refine (Classical.em (jj = i4)).elim (fun E0 => by rw [E0]; first | (left; simp only [vsAll, ↓reduceIte, eq_self, hh_i4, c43]; done) | (right; simp only [vsAll, binA, binLitA, intA, aggA, aggV, boolA, nilA2, isConst, unA, loadA, loadRow, partA, partOk, fieldAddrA, indexAddrA, indexA, fieldA, extractA, lenA, nilCheckA, boxA, boxZ, cellA, cellsA, fillA, okParts, buildSliceA, buildMutA, makeSliceA, partIdx, elemsA, lensA, ifaceA, convA, mmA, pickA, okAll, stAll, opsA, partsA, partsOk, opA, allocA, boxMutA, newCells, okCells, storeObj, appendA, guardV, taA, nM, mapUpA, rangeA, nextA, entryA, lookA, sliceA, sliceM, sliceS, boundsA, opO, okO, copyA, dstOk, nilA, quietOk, nilSliceOp, deferV, panA, resA, argFr, retA.eq_1, retA.eq_2, Nat.reduceAdd, Nat.reduceSub, Nat.reduceMul, Nat.reduceLT, Nat.reduceLeDiff, Nat.reduceEqDiff, Nat.reduceBEq, Int.reduceAdd, Int.reduceSub, Int.reduceMul, Int.reduceNeg, Int.reduceLE, Int.reduceLT, Int.reduceEq, Int.reduceNe, Int.reduceToNat, ↓reduceIte, reduceCtorEq, implies_true, forall_const, eq_self, ne_eq, wtAll, Try.ntmps15, Try.results15, ho, hh_i4, hh_j5, c43, c53, c54, z4, z5, c43', c53', c54', r3, r3', r5, r5', r4, r4', zr, q4, q4', qr, qr', q3, q3', q5, q5', zq]; done)) (fun E0 => ?_); refine (Classical.em (jj = iq)).elim (fun E1 => by rw [E1]; first | (left; simp only [vsAll, ↓reduceIte, eq_self, q3, zq]; done) | (right; simp only [vsAll, binA, binLitA, intA, aggA, aggV, boolA, nilA2, isConst, unA, loadA, loadRow, partA, partOk, fieldAddrA, indexAddrA, indexA, fieldA, extractA, lenA, nilCheckA, boxA, boxZ, cellA, cellsA, fillA, okParts, buildSliceA, buildMutA, makeSliceA, partIdx, elemsA, lensA, ifaceA, convA, mmA, pickA, okAll, stAll, opsA, partsA, partsOk, opA, allocA, boxMutA, newCells, okCells, storeObj, appendA, guardV, taA, nM, mapUpA, rangeA, nextA, entryA, lookA, sliceA, sliceM, sliceS, boundsA, opO, okO, copyA, dstOk, nilA, quietOk, nilSliceOp, deferV, panA, resA, argFr, retA.eq_1, retA.eq_2, Nat.reduceAdd, Nat.reduceSub, Nat.reduceMul, Nat.reduceLT, Nat.reduceLeDiff, Nat.reduceEqDiff, Nat.reduceBEq, Int.reduceAdd, Int.reduceSub, Int.reduceMul, Int.reduceNeg, Int.reduceLE, Int.reduceLT, Int.reduceEq, Int.reduceNe, Int.reduceToNat, ↓reduceIte, reduceCtorEq, implies_true, forall_const, eq_self, ne_eq, wtAll, Try.ntmps15, Try.results15, ho, hh_i4, hh_j5, c43, c53, c54, z4, z5, c43', c53', c54', r3, r3', r5, r5', r4, r4', zr, q4, q4', qr, qr', q3, q3', q5, q5', zq]; done)) (fun E1 => ?_); refine (Classical.em (jj = ir)).elim (fun E2 => by rw [E2]; first | (left; simp only [vsAll, ↓reduceIte, eq_self, r3, zr]; done) | (right; simp only [vsAll, binA, binLitA, intA, aggA, aggV, boolA, nilA2, isConst, unA, loadA, loadRow, partA, partOk, fieldAddrA, indexAddrA, indexA, fieldA, extractA, lenA, nilCheckA, boxA, boxZ, cellA, cellsA, fillA, okParts, buildSliceA, buildMutA, makeSliceA, partIdx, elemsA, lensA, ifaceA, convA, mmA, pickA, okAll, stAll, opsA, partsA, partsOk, opA, allocA, boxMutA, newCells, okCells, storeObj, appendA, guardV, taA, nM, mapUpA, rangeA, nextA, entryA, lookA, sliceA, sliceM, sliceS, boundsA, opO, okO, copyA, dstOk, nilA, quietOk, nilSliceOp, deferV, panA, resA, argFr, retA.eq_1, retA.eq_2, Nat.reduceAdd, Nat.reduceSub, Nat.reduceMul, Nat.reduceLT, Nat.reduceLeDiff, Nat.reduceEqDiff, Nat.reduceBEq, Int.reduceAdd, Int.reduceSub, Int.reduceMul, Int.reduceNeg, Int.reduceLE, Int.reduceLT, Int.reduceEq, Int.reduceNe, Int.reduceToNat, ↓reduceIte, reduceCtorEq, implies_true, forall_const, eq_self, ne_eq, wtAll, Try.ntmps15, Try.results15, ho, hh_i4, hh_j5, c43, c53, c54, z4, z5, c43', c53', c54', r3, r3', r5, r5', r4, r4', zr, q4, q4', qr, qr', q3, q3', q5, q5', zq]; done)) (fun E2 => ?_); refine (Classical.em (jj = j5)).elim (fun E3 => by rw [E3]; first | (left; simp only [vsAll, ↓reduceIte, eq_self, hh_j5, c53]; done) | (right; simp only [vsAll, binA, binLitA, intA, aggA, aggV, boolA, nilA2, isConst, unA, loadA, loadRow, partA, partOk, fieldAddrA, indexAddrA, indexA, fieldA, extractA, lenA, nilCheckA, boxA, boxZ, cellA, cellsA, fillA, okParts, buildSliceA, buildMutA, makeSliceA, partIdx, elemsA, lensA, ifaceA, convA, mmA, pickA, okAll, stAll, opsA, partsA, partsOk, opA, allocA, boxMutA, newCells, okCells, storeObj, appendA, guardV, taA, nM, mapUpA, rangeA, nextA, entryA, lookA, sliceA, sliceM, sliceS, boundsA, opO, okO, copyA, dstOk, nilA, quietOk, nilSliceOp, deferV, panA, resA, argFr, retA.eq_1, retA.eq_2, Nat.reduceAdd, Nat.reduceSub, Nat.reduceMul, Nat.reduceLT, Nat.reduceLeDiff, Nat.reduceEqDiff, Nat.reduceBEq, Int.reduceAdd, Int.reduceSub, Int.reduceMul, Int.reduceNeg, Int.reduceLE, Int.reduceLT, Int.reduceEq, Int.reduceNe, Int.reduceToNat, ↓reduceIte, reduceCtorEq, implies_true, forall_const, eq_self, ne_eq, wtAll, Try.ntmps15, Try.results15, ho, hh_i4, hh_j5, c43, c53, c54, z4, z5, c43', c53', c54', r3, r3', r5, r5', r4, r4', zr, q4, q4', qr, qr', q3, q3', q5, q5', zq]; done)) (fun E3 => ?_); refine (Classical.em (jj = i3)).elim (fun E4 => by rw [E4]; first | (left; simp only [vsAll, ↓reduceIte, reduceCtorEq, eq_self]; done) | (right; simp only [vsAll, ↓reduceIte, eq_self, c43', r3', q3']; done)) (fun E4 => ?_); right; simp only [vsAll, ↓reduceIte, eq_self, E0, E1, E2, E3, E4])
 ·obtain ⟨a, sm, u⟩ := y
  obtain ⟨hs, hle, hal⟩ := hy
  simp only [] at hs hle hal
  have hul := hs.len
  unfold mdH
  simp only [hul]
  simp only [vsAll, binA, binLitA, intA, opA, dstOk, Nat.reduceLT, Nat.reduceEqDiff, ↓reduceIte, reduceCtorEq, eq_self]
  refine condD (fun hd => ?_) (fun hd => ?_)
  ·have his : sm.length < m + 1 := by ((try clear ho hh_i4 hh_j5 c43 c53 c54 z4 z5 c43' c53' c54' r3 r3' r5 r5' r4 r4' zr q4 q4' qr qr' q3 q3' q5 q5' zq); omega)
   simp only [vsAll, okAll, stAll, opsA, opA, dstOk, Nat.reduceLT, ↓reduceIte, reduceCtorEq, eq_self]
   refine callK (dw_tri kb i3 a 9 _ (by ((try clear ho hh_i4 hh_j5 c43 c53 c54 z4 z5 c43' c53' c54' r3 r3' r5 r5' r4 r4' zr q4 q4' qr qr' q3 q3' q5 q5' zq); omega)) (by ((try clear ho hh_i4 hh_j5 c43 c53 c54 z4 z5 c43' c53' c54' r3 r3' r5 r5' r4 r4' zr q4 q4' qr qr' q3 q3' q5 q5' zq); omega)) (by simp only [vsAll, ↓reduceIte, eq_self, c43', c53', r3', q3'])) ?_
   rintro r H' ⟨v1, hv1, rfl, rfl⟩
   simp only [vsAll, okAll, stAll, opsA, opA, dstOk, Nat.reduceLT, ↓reduceIte, reduceCtorEq, eq_self]
   refine callK (dw_tri kb i3 (a + 1) 3 _ (by ((try clear ho hh_i4 hh_j5 c43 c53 c54 z4 z5 c43' c53' c54' r3 r3' r5 r5' r4 r4' zr q4 q4' qr qr' q3 q3' q5 q5' zq); omega)) (by ((try clear ho hh_i4 hh_j5 c43 c53 c54 z4 z5 c43' c53' c54' r3 r3' r5 r5' r4 r4' zr q4 q4' qr qr' q3 q3' q5 q5' zq); omega)) (by simp only [vsAll, ↓reduceIte, eq_self])) ?_
   rintro r H' ⟨v2, hv2, rfl, rfl⟩
   simp only [vsAll, binA, binLitA, intA, okAll, stAll, opsA, opA, dstOk, Nat.reduceLT, ↓reduceIte, reduceCtorEq, eq_self]
   refine ⟨by simp only [InR_i64]; ((try clear ho hh_i4 hh_j5 c43 c53 c54 z4 z5 c43' c53' c54' r3 r3' r5 r5' r4 r4' zr q4 q4' qr qr' q3 q3' q5 q5' zq); omega), ?_⟩
   refine callK (dw_tri kb i3 (a + 1 + 1) 4 _ (by ((try clear ho hh_i4 hh_j5 c43 c53 c54 z4 z5 c43' c53' c54' r3 r3' r5 r5' r4 r4' zr q4 q4' qr qr' q3 q3' q5 q5' zq); omega)) (by ((try clear ho hh_i4 hh_j5 c43 c53 c54 z4 z5 c43' c53' c54' r3 r3' r5 r5' r4 r4' zr q4 q4' qr qr' q3 q3' q5 q5' zq); omega)) (by simp only [vsAll, ↓reduceIte, eq_self])) ?_
   rintro r H' ⟨v3, hv3, rfl, rfl⟩
   simp only [vsAll, cellA, cellsA, fillA, okParts, okAll, stAll, opsA, partsA, partsOk, opA, allocA, newCells, okCells, storeObj, dstOk, nilSliceOp, Nat.reduceAdd, Nat.reduceLT, Nat.reduceLeDiff, Nat.reduceEqDiff, Nat.reduceBEq, ↓reduceIte, reduceCtorEq, eq_self, wtAll]
   intro i6 hh_i6; (try simp only [ite_none] at hh_i6)
   refine callK (dw_tri kb i3 (a + 1 + 1 + 1) 2 _ (by ((try clear ho hh_i4 hh_j5 c43 c53 c54 z4 z5 c43' c53' c54' r3 r3' r5 r5' r4 r4' zr q4 q4' qr qr' q3 q3' q5 q5' zq hh_i6); omega)) (by ((try clear ho hh_i4 hh_j5 c43 c53 c54 z4 z5 c43' c53' c54' r3 r3' r5 r5' r4 r4' zr q4 q4' qr qr' q3 q3' q5 q5' zq hh_i6); omega)) (by simp only [vsAll, ↓reduceIte, eq_self, hh_i6])) ?_
   rintro r H' ⟨v4, hv4, rfl, rfl⟩
   simp only [vsAll, binA, binLitA, intA, opA, dstOk, Nat.reduceLT, ↓reduceIte, eq_self]
   refine condD (fun hz => ?_) (fun hz => ?_)
   ·simp only [vsAll, binA, binLitA, intA, loadA, loadRow, partA, partOk, fieldAddrA, okAll, stAll, opsA, opA, dstOk, Nat.reduceLT, Nat.reduceEqDiff, ↓reduceIte, reduceCtorEq, eq_self, wtAll, hh_i6]
    refine ⟨by simp only [InR_i64]; ((try clear ho hh_i4 hh_j5 c43 c53 c54 z4 z5 c43' c53' c54' r3 r3' r5 r5' r4 r4' zr q4 q4' qr qr' q3 q3' q5 q5' zq hh_i6); omega), ?_⟩
    refine callK (dw_tri kb i3 (a + 1 + 1 + 1 + 1) (v3 + 1) _ (by ((try clear ho hh_i4 hh_j5 c43 c53 c54 z4 z5 c43' c53' c54' r3 r3' r5 r5' r4 r4' zr q4 q4' qr qr' q3 q3' q5 q5' zq hh_i6); omega)) (by ((try clear ho hh_i4 hh_j5 c43 c53 c54 z4 z5 c43' c53' c54' r3 r3' r5 r5' r4 r4' zr q4 q4' qr qr' q3 q3' q5 q5' zq hh_i6); omega)) (by simp only [vsAll, ↓reduceIte, eq_self])) ?_
    rintro r H' ⟨v5, hv5, rfl, rfl⟩
    simp only [vsAll, binA, binLitA, intA, loadA, loadRow, partA, partOk, fieldAddrA, cellA, cellsA, okParts, buildSliceA, partIdx, elemsA, lensA, partsA, partsOk, opA, newCells, okCells, storeObj, appendA, dstOk, nilSliceOp, Nat.reduceAdd, Nat.reduceMul, Nat.reduceLT, Nat.reduceLeDiff, Nat.reduceEqDiff, Nat.reduceBEq, ↓reduceIte, reduceCtorEq, eq_self, wtAll, hh_j5, c43, c53, r3, r5', r4, r4', qr', q5', hh_i6]
    have eu := app_ints u v5 (fun i => [[i64 v5]].getD i []) rfl
    have es := hadS sm ⟨v1, v2 - 1, v3⟩ (fun i => [[i64 v1, i64 (v2 - 1), i64 v3]].getD i []) rfl
    rw [hul] at eu
    refine ⟨fun q hq => by (have : q = 0 := by ((try clear ho hh_i4 hh_j5 c43 c53 c54 z4 z5 c43' c53' c54' r3 r3' r5 r5' r4 r4' zr q4 q4' qr qr' q3 q3' q5 q5' zq hh_i6); omega)); subst this; exact ⟨rfl, rfl, rfl, trivial⟩, by ((try clear ho hh_i4 hh_j5 c43 c53 c54 z4 z5 c43' c53' c54' r3 r3' r5 r5' r4 r4' zr q4 q4' qr qr' q3 q3' q5 q5' zq hh_i6); omega), by ((try clear ho hh_i4 hh_j5 c43 c53 c54 z4 z5 c43' c53' c54' r3 r3' r5 r5' r4 r4' zr q4 q4' qr qr' q3 q3' q5 q5' zq hh_i6); omega), fun q hq => by (have : q = 0 := by ((try clear ho hh_i4 hh_j5 c43 c53 c54 z4 z5 c43' c53' c54' r3 r3' r5 r5' r4 r4' zr q4 q4' qr qr' q3 q3' q5 q5' zq hh_i6); omega)); subst this; exact ⟨rfl, trivial⟩, by ((try clear ho hh_i4 hh_j5 c43 c53 c54 z4 z5 c43' c53' c54' r3 r3' r5 r5' r4 r4' zr q4 q4' qr qr' q3 q3' q5 q5' zq hh_i6); omega), by ((try clear ho hh_i4 hh_j5 c43 c53 c54 z4 z5 c43' c53' c54' r3 r3' r5 r5' r4 r4' zr q4 q4' qr qr' q3 q3' q5 q5' zq hh_i6); omega), by simp only [InR_i64]; ((try clear ho hh_i4 hh_j5 c43 c53 c54 z4 z5 c43' c53' c54' r3 r3' r5 r5' r4 r4' zr q4 q4' qr qr' q3 q3' q5 q5' zq hh_i6); omega), loop_next (a + 1 + 1 + 1 + 1 + 1, sm ++ [⟨v1, v2 - 1, v3⟩], u ++ [v5]) ⟨hs.add2 (by ((try clear ho hh_i4 hh_j5 c43 c53 c54 z4 z5 c43' c53' c54' r3 r3' r5 r5' r4 r4' zr q4 q4' qr qr' q3 q3' q5 q5' zq hh_i6); omega)) hv1 hv2 hv3 ⟨by ((try clear ho hh_i4 hh_j5 c43 c53 c54 z4 z5 c43' c53' c54' r3 r3' r5 r5' r4 r4' zr q4 q4' qr qr' q3 q3' q5 q5' zq hh_i6); omega), by ((try clear ho hh_i4 hh_j5 c43 c53 c54 z4 z5 c43' c53' c54' r3 r3' r5 r5' r4 r4' zr q4 q4' qr qr' q3 q3' q5 q5' zq hh_i6); omega)⟩, by simp only [List.length_append, List.length_cons, List.length_nil]; ((try clear ho hh_i4 hh_j5 c43 c53 c54 z4 z5 c43' c53' c54' r3 r3' r5 r5' r4 r4' zr q4 q4' qr qr' q3 q3' q5 q5' zq hh_i6); omega), by show a + 1 + 1 + 1 + 1 + 1 ≤ _; simp only [List.length_append, List.length_cons, List.length_nil]; ((try clear ho hh_i4 hh_j5 c43 c53 c54 z4 z5 c43' c53' c54' r3 r3' r5 r5' r4 r4' zr q4 q4' qr qr' q3 q3' q5 q5' zq hh_i6); omega)⟩ (by simp only [List.length_append, List.length_cons, List.length_nil]; ((try clear ho hh_i4 hh_j5 c43 c53 c54 z4 z5 c43' c53' c54' r3 r3' r5 r5' r4 r4' zr q4 q4' qr qr' q3 q3' q5 q5' zq hh_i6); omega)) ?_ ?_⟩
    ·simp only [vsAll, Nat.reduceEqDiff, ↓reduceIte, reduceCtorEq, eq_self, List.length_append, hul, Int.natCast_add, Int.natCast_one]
    ·simp only [List.length_append, List.length_cons, List.length_nil, hul, ← eu, ← es]
     (refine HSub_eqn fun jj => ?_; refine (Classical.em (jj = i4)).elim (fun E0 => by rw [E0]; first | (left; simp only [vsAll, ↓reduceIte, reduceCtorEq, eq_self]; done) | (right; simp only [vsAll, ↓reduceIte, eq_self]; done)) (fun E0 => ?_); refine (Classical.em (jj = iq)).elim (fun E1 => by rw [E1]; first | (left; simp only [vsAll, ↓reduceIte, reduceCtorEq, eq_self, q4]; done) | (right; simp only [vsAll, ↓reduceIte, eq_self, q4, qr, q3, q5, hh_i6]; done)) (fun E1 => ?_); refine (Classical.em (jj = ir)).elim (fun E2 => by rw [E2]; first | (left; simp only [vsAll, ↓reduceIte, reduceCtorEq, eq_self, r4, qr']; done) | (right; simp only [vsAll, ↓reduceIte, eq_self, r5, r4, qr']; done)) (fun E2 => ?_); refine (Classical.em (jj = j5)).elim (fun E3 => by rw [E3]; first | (left; simp only [vsAll, ↓reduceIte, reduceCtorEq, eq_self, hh_j5, r5', q5']; done) | (right; simp only [vsAll, ↓reduceIte, eq_self, hh_j5, r5', q5']; done)) (fun E3 => ?_); refine (Classical.em (jj = i3)).elim (fun E4 => by rw [E4]; first | (left; simp only [vsAll, ↓reduceIte, reduceCtorEq, eq_self, c43', c53', r3', q3']; done) | (right; simp only [vsAll, ↓reduceIte, eq_self, c43', c53', r3', q3']; done)) (fun E4 => ?_); refine (Classical.em (jj = i6)).elim (fun E5 => by rw [E5]; first | (left; simp only [vsAll, ↓reduceIte, eq_self, hh_i6]; done) | (right; simp only [vsAll, binA, binLitA, intA, aggA, aggV, boolA, nilA2, isConst, unA, loadA, loadRow, partA, partOk, fieldAddrA, indexAddrA, indexA, fieldA, extractA, lenA, nilCheckA, boxA, boxZ, cellA, cellsA, fillA, okParts, buildSliceA, buildMutA, makeSliceA, partIdx, elemsA, lensA, ifaceA, convA, mmA, pickA, okAll, stAll, opsA, partsA, partsOk, opA, allocA, boxMutA, newCells, okCells, storeObj, appendA, guardV, taA, nM, mapUpA, rangeA, nextA, entryA, lookA, sliceA, sliceM, sliceS, boundsA, opO, okO, copyA, dstOk, nilA, quietOk, nilSliceOp, deferV, panA, resA, argFr, retA.eq_1, retA.eq_2, Nat.reduceAdd, Nat.reduceSub, Nat.reduceMul, Nat.reduceLT, Nat.reduceLeDiff, Nat.reduceEqDiff, Nat.reduceBEq, Int.reduceAdd, Int.reduceSub, Int.reduceMul, Int.reduceNeg, Int.reduceLE, Int.reduceLT, Int.reduceEq, Int.reduceNe, Int.reduceToNat, ↓reduceIte, reduceCtorEq, implies_true, forall_const, eq_self, ne_eq, wtAll, Try.ntmps15, Try.results15, ho, hh_i4, hh_j5, c43, c53, c54, z4, z5, c43', c53', c54', r3, r3', r5, r5', r4, r4', zr, q4, q4', qr, qr', q3, q3', q5, q5', zq, hh_i6]; done)) (fun E5 => ?_); right; simp only [vsAll, ↓reduceIte, eq_self, E0, E1, E2, E3, E4, E5])
   ·simp only [vsAll, binA, binLitA, intA, loadA, loadRow, partA, partOk, fieldAddrA, cellA, cellsA, okParts, buildSliceA, partIdx, elemsA, lensA, partsA, partsOk, opA, newCells, okCells, storeObj, appendA, dstOk, nilSliceOp, Nat.reduceAdd, Nat.reduceMul, Nat.reduceLT, Nat.reduceLeDiff, Nat.reduceEqDiff, Nat.reduceBEq, ↓reduceIte, reduceCtorEq, eq_self, wtAll, hh_j5, c43, c53, r3, r5', r4, r4', qr', q5', hh_i6]
    have eu := app_ints u 0 (fun i => [[i64 0]].getD i []) rfl
    have es := hadS sm ⟨v1, v2 - 1, v3⟩ (fun i => [[i64 v1, i64 (v2 - 1), i64 v3]].getD i []) rfl
    rw [hul] at eu
    refine ⟨fun q hq => by (have : q = 0 := by ((try clear ho hh_i4 hh_j5 c43 c53 c54 z4 z5 c43' c53' c54' r3 r3' r5 r5' r4 r4' zr q4 q4' qr qr' q3 q3' q5 q5' zq hh_i6); omega)); subst this; exact ⟨rfl, rfl, rfl, trivial⟩, by ((try clear ho hh_i4 hh_j5 c43 c53 c54 z4 z5 c43' c53' c54' r3 r3' r5 r5' r4 r4' zr q4 q4' qr qr' q3 q3' q5 q5' zq hh_i6); omega), by ((try clear ho hh_i4 hh_j5 c43 c53 c54 z4 z5 c43' c53' c54' r3 r3' r5 r5' r4 r4' zr q4 q4' qr qr' q3 q3' q5 q5' zq hh_i6); omega), fun q hq => by (have : q = 0 := by ((try clear ho hh_i4 hh_j5 c43 c53 c54 z4 z5 c43' c53' c54' r3 r3' r5 r5' r4 r4' zr q4 q4' qr qr' q3 q3' q5 q5' zq hh_i6); omega)); subst this; exact ⟨rfl, trivial⟩, by ((try clear ho hh_i4 hh_j5 c43 c53 c54 z4 z5 c43' c53' c54' r3 r3' r5 r5' r4 r4' zr q4 q4' qr qr' q3 q3' q5 q5' zq hh_i6); omega), by ((try clear ho hh_i4 hh_j5 c43 c53 c54 z4 z5 c43' c53' c54' r3 r3' r5 r5' r4 r4' zr q4 q4' qr qr' q3 q3' q5 q5' zq hh_i6); omega), by simp only [InR_i64]; ((try clear ho hh_i4 hh_j5 c43 c53 c54 z4 z5 c43' c53' c54' r3 r3' r5 r5' r4 r4' zr q4 q4' qr qr' q3 q3' q5 q5' zq hh_i6); omega), loop_next (a + 1 + 1 + 1 + 1, sm ++ [⟨v1, v2 - 1, v3⟩], u ++ [0]) ⟨hs.add2 (by ((try clear ho hh_i4 hh_j5 c43 c53 c54 z4 z5 c43' c53' c54' r3 r3' r5 r5' r4 r4' zr q4 q4' qr qr' q3 q3' q5 q5' zq hh_i6); omega)) hv1 hv2 hv3 ⟨by ((try clear ho hh_i4 hh_j5 c43 c53 c54 z4 z5 c43' c53' c54' r3 r3' r5 r5' r4 r4' zr q4 q4' qr qr' q3 q3' q5 q5' zq hh_i6); omega), by ((try clear ho hh_i4 hh_j5 c43 c53 c54 z4 z5 c43' c53' c54' r3 r3' r5 r5' r4 r4' zr q4 q4' qr qr' q3 q3' q5 q5' zq hh_i6); omega)⟩, by simp only [List.length_append, List.length_cons, List.length_nil]; ((try clear ho hh_i4 hh_j5 c43 c53 c54 z4 z5 c43' c53' c54' r3 r3' r5 r5' r4 r4' zr q4 q4' qr qr' q3 q3' q5 q5' zq hh_i6); omega), by show a + 1 + 1 + 1 + 1 ≤ _; simp only [List.length_append, List.length_cons, List.length_nil]; ((try clear ho hh_i4 hh_j5 c43 c53 c54 z4 z5 c43' c53' c54' r3 r3' r5 r5' r4 r4' zr q4 q4' qr qr' q3 q3' q5 q5' zq hh_i6); omega)⟩ (by simp only [List.length_append, List.length_cons, List.length_nil]; ((try clear ho hh_i4 hh_j5 c43 c53 c54 z4 z5 c43' c53' c54' r3 r3' r5 r5' r4 r4' zr q4 q4' qr qr' q3 q3' q5 q5' zq hh_i6); omega)) ?_ ?_⟩
    ·simp only [vsAll, Nat.reduceEqDiff, ↓reduceIte, reduceCtorEq, eq_self, List.length_append, hul, Int.natCast_add, Int.natCast_one]
    ·simp only [List.length_append, List.length_cons, List.length_nil, hul, ← eu, ← es]
     (refine HSub_eqn fun jj => ?_; refine (Classical.em (jj = i4)).elim (fun E0 => by rw [E0]; first | (left; simp only [vsAll, ↓reduceIte, reduceCtorEq, eq_self]; done) | (right; simp only [vsAll, ↓reduceIte, eq_self]; done)) (fun E0 => ?_); refine (Classical.em (jj = iq)).elim (fun E1 => by rw [E1]; first | (left; simp only [vsAll, ↓reduceIte, reduceCtorEq, eq_self, q4]; done) | (right; simp only [vsAll, ↓reduceIte, eq_self, q4, qr, q3, q5, hh_i6]; done)) (fun E1 => ?_); refine (Classical.em (jj = ir)).elim (fun E2 => by rw [E2]; first | (left; simp only [vsAll, ↓reduceIte, reduceCtorEq, eq_self, r4, qr']; done) | (right; simp only [vsAll, ↓reduceIte, eq_self, r5, r4, qr']; done)) (fun E2 => ?_); refine (Classical.em (jj = j5)).elim (fun E3 => by rw [E3]; first | (left; simp only [vsAll, ↓reduceIte, reduceCtorEq, eq_self, hh_j5, r5', q5']; done) | (right; simp only [vsAll, ↓reduceIte, eq_self, hh_j5, r5', q5']; done)) (fun E3 => ?_); refine (Classical.em (jj = i3)).elim (fun E4 => by rw [E4]; first | (left; simp only [vsAll, ↓reduceIte, reduceCtorEq, eq_self, c43', c53', r3', q3']; done) | (right; simp only [vsAll, ↓reduceIte, eq_self, c43', c53', r3', q3']; done)) (fun E4 => ?_); refine (Classical.em (jj = i6)).elim (fun E5 => by rw [E5]; first | (left; simp only [vsAll, ↓reduceIte, eq_self, hh_i6]; done) | (right; simp only [vsAll, binA, binLitA, intA, aggA, aggV, boolA, nilA2, isConst, unA, loadA, loadRow, partA, partOk, fieldAddrA, indexAddrA, indexA, fieldA, extractA, lenA, nilCheckA, boxA, boxZ, cellA, cellsA, fillA, okParts, buildSliceA, buildMutA, makeSliceA, partIdx, elemsA, lensA, ifaceA, convA, mmA, pickA, okAll, stAll, opsA, partsA, partsOk, opA, allocA, boxMutA, newCells, okCells, storeObj, appendA, guardV, taA, nM, mapUpA, rangeA, nextA, entryA, lookA, sliceA, sliceM, sliceS, boundsA, opO, okO, copyA, dstOk, nilA, quietOk, nilSliceOp, deferV, panA, resA, argFr, retA.eq_1, retA.eq_2, Nat.reduceAdd, Nat.reduceSub, Nat.reduceMul, Nat.reduceLT, Nat.reduceLeDiff, Nat.reduceEqDiff, Nat.reduceBEq, Int.reduceAdd, Int.reduceSub, Int.reduceMul, Int.reduceNeg, Int.reduceLE, Int.reduceLT, Int.reduceEq, Int.reduceNe, Int.reduceToNat, ↓reduceIte, reduceCtorEq, implies_true, forall_const, eq_self, ne_eq, wtAll, Try.ntmps15, Try.results15, ho, hh_i4, hh_j5, c43, c53, c54, z4, z5, c43', c53', c54', r3, r3', r5, r5', r4, r4', zr, q4, q4', qr, qr', q3, q3', q5, q5', zq, hh_i6]; done)) (fun E5 => ?_); right; simp only [vsAll, ↓reduceIte, eq_self, E0, E1, E2, E3, E4, E5])
  ·have ei : sm.length = m + 1 := by ((try clear ho hh_i4 hh_j5 c43 c53 c54 z4 z5 c43' c53' c54' r3 r3' r5 r5' r4 r4' zr q4 q4' qr qr' q3 q3' q5 q5' zq); omega)
   simp only [vsAll, binA, binLitA, intA, okAll, stAll, opsA, opA, dstOk, Nat.reduceLT, Nat.reduceEqDiff, ↓reduceIte, reduceCtorEq, eq_self]
   refine ⟨by simp only [InR_i64]; ((try clear ho hh_i4 hh_j5 c43 c53 c54 z4 z5 c43' c53' c54' r3 r3' r5 r5' r4 r4' zr q4 q4' qr qr' q3 q3' q5 q5' zq); omega), ?_⟩
   refine callK (dw_tri kb i3 a (n + 1) _ (by ((try clear ho hh_i4 hh_j5 c43 c53 c54 z4 z5 c43' c53' c54' r3 r3' r5 r5' r4 r4' zr q4 q4' qr qr' q3 q3' q5 q5' zq); omega)) (by ((try clear ho hh_i4 hh_j5 c43 c53 c54 z4 z5 c43' c53' c54' r3 r3' r5 r5' r4 r4' zr q4 q4' qr qr' q3 q3' q5 q5' zq); omega)) (by simp only [vsAll, ↓reduceIte, eq_self, c43', c53', r3', q3'])) ?_
   rintro r H' ⟨w, hw, rfl, rfl⟩
   obtain ⟨c, rfl⟩ : ∃ c : Nat, w = (c : Int) := ⟨w.toNat, by ((try clear ho hh_i4 hh_j5 c43 c53 c54 z4 z5 c43' c53' c54' r3 r3' r5 r5' r4 r4' zr q4 q4' qr qr' q3 q3' q5 q5' zq); omega)⟩
   simp only [vsAll, opA, dstOk, Nat.reduceLT, eq_self]
   have hm5 : m ≤ 4 := by ((try clear ho hh_i4 hh_j5 c43 c53 c54 z4 z5 c43' c53' c54' r3 r3' r5 r5' r4 r4' zr q4 q4' qr qr' q3 q3' q5 q5' zq); omega)
   have hc9 : c ≤ 8 := by ((try clear ho hh_i4 hh_j5 c43 c53 c54 z4 z5 c43' c53' c54' r3 r3' r5 r5' r4 r4' zr q4 q4' qr qr' q3 q3' q5 q5' zq); omega)
   refine vs_loop (σ := Nat × List Ls) (fun y => SoA sm u y.2 ∧ y.2.length ≤ c ∧ y.1 ≤ a0 + 30 + 4 * y.2.length) (fun y => [(0, dwAV i3 N b), (4, .ref i4 0 2 0 0), (5, .sl j5 1 sm.length), (47, i64 (c : Nat)), (48, i64 y.2.length)])
    (fun y => mdH H i3 j5 ir iq i4 y.1 u sm y.2) (fun y => c - y.2.length) (a + 1, []) ⟨SoA.nil sm u, Nat.zero_le _, by simp only [List.length_nil]; ((try clear ho hh_i4 hh_j5 c43 c53 c54 z4 z5 c43' c53' c54' r3 r3' r5 r5' r4 r4' zr q4 q4' qr qr' q3 q3' q5 q5' zq); omega)⟩ ?_ ?_ fun y hy => ?_
   ·simp only [vsAll, Nat.reduceEqDiff, ↓reduceIte, reduceCtorEq, eq_self, Int.natCast_zero]
   ·unfold mdH
    simp only [List.length_nil, hul]
    (refine HSub_eqn fun jj => ?_; refine (Classical.em (jj = i4)).elim (fun E0 => by rw [E0]; first | (left; simp only [vsAll, ↓reduceIte, reduceCtorEq, eq_self]; done) | (right; simp only [vsAll, ↓reduceIte, eq_self, c43]; done)) (fun E0 => ?_); refine (Classical.em (jj = iq)).elim (fun E1 => by rw [E1]; first | (left; simp only [vsAll, ↓reduceIte, reduceCtorEq, eq_self, q4]; done) | (right; simp only [vsAll, ↓reduceIte, eq_self, q4, q3]; done)) (fun E1 => ?_); refine (Classical.em (jj = ir)).elim (fun E2 => by rw [E2]; first | (left; simp only [vsAll, ↓reduceIte, reduceCtorEq, eq_self, r4, qr']; done) | (right; simp only [vsAll, ↓reduceIte, eq_self, r3, r4, qr']; done)) (fun E2 => ?_); refine (Classical.em (jj = j5)).elim (fun E3 => by rw [E3]; first | (left; simp only [vsAll, ↓reduceIte, reduceCtorEq, eq_self, hh_j5, r5', q5']; done) | (right; simp only [vsAll, ↓reduceIte, eq_self, hh_j5, c53, r5', q5']; done)) (fun E3 => ?_); refine (Classical.em (jj = i3)).elim (fun E4 => by rw [E4]; first | (left; simp only [vsAll, ↓reduceIte, reduceCtorEq, eq_self, c43', c53', r3', q3']; done) | (right; simp only [vsAll, ↓reduceIte, eq_self, c43', c53', r3', q3']; done)) (fun E4 => ?_); right; simp only [vsAll, ↓reduceIte, eq_self, E0, E1, E2, E3, E4])
   ·obtain ⟨a, so⟩ := y
    obtain ⟨hq, hle2, hal2⟩ := hy
    simp only [] at hq hle2 hal2
    unfold mdH
    simp only [hul]
    simp only [vsAll, binA, binLitA, intA, opA, dstOk, Nat.reduceLT, Nat.reduceEqDiff, ↓reduceIte, reduceCtorEq, eq_self]
    refine condD (fun hd2 => ?_) (fun hd2 => ?_)
    ·simp only [vsAll, okAll, stAll, opsA, opA, dstOk, Nat.reduceLT, ↓reduceIte, reduceCtorEq, eq_self]
     refine callK (dw_tri kb i3 a 13 _ (by ((try clear ho hh_i4 hh_j5 c43 c53 c54 z4 z5 c43' c53' c54' r3 r3' r5 r5' r4 r4' zr q4 q4' qr qr' q3 q3' q5 q5' zq); omega)) (by ((try clear ho hh_i4 hh_j5 c43 c53 c54 z4 z5 c43' c53' c54' r3 r3' r5 r5' r4 r4' zr q4 q4' qr qr' q3 q3' q5 q5' zq); omega)) (by simp only [vsAll, ↓reduceIte, eq_self, c43', c53', r3', q3'])) ?_
     rintro r H' ⟨d, hd', rfl, rfl⟩
     simp only [vsAll, okAll, stAll, opsA, opA, dstOk, Nat.reduceLT, ↓reduceIte, reduceCtorEq, eq_self]
     refine callK (dw_tri kb i3 (a + 1) 7 _ (by ((try clear ho hh_i4 hh_j5 c43 c53 c54 z4 z5 c43' c53' c54' r3 r3' r5 r5' r4 r4' zr q4 q4' qr qr' q3 q3' q5 q5' zq); omega)) (by ((try clear ho hh_i4 hh_j5 c43 c53 c54 z4 z5 c43' c53' c54' r3 r3' r5 r5' r4 r4' zr q4 q4' qr qr' q3 q3' q5 q5' zq); omega)) (by simp only [vsAll, ↓reduceIte, eq_self])) ?_
     rintro r H' ⟨l, hl', rfl, rfl⟩
     simp only [vsAll, binA, binLitA, intA, loadA, loadRow, partA, partOk, fieldAddrA, lenA, cellA, cellsA, fillA, okParts, partsA, partsOk, opA, allocA, newCells, okCells, storeObj, dstOk, nilSliceOp, Nat.reduceAdd, Nat.reduceLT, Nat.reduceLeDiff, Nat.reduceEqDiff, Nat.reduceBEq, ↓reduceIte, reduceCtorEq, eq_self, wtAll, c43]
     refine ⟨by simp only [InR_i64]; ((try clear ho hh_i4 hh_j5 c43 c53 c54 z4 z5 c43' c53' c54' r3 r3' r5 r5' r4 r4' zr q4 q4' qr qr' q3 q3' q5 q5' zq); omega), ?_⟩
     intro i8 hh_i8; (try simp only [ite_none] at hh_i8)
     have g8 : ¬ i8 = i3 ∧ ¬ i8 = i4 ∧ ¬ i8 = j5 ∧ ¬ i8 = ir ∧ ¬ i8 = iq ∧ H i8 = none := by simp_all
     obtain ⟨k3, k4, k5, kr, kq, z8⟩ := g8
     have k3' : ¬ i3 = i8 := fun e => k3 e.symm
     have k4' : ¬ i4 = i8 := fun e => k4 e.symm
     have k5' : ¬ j5 = i8 := fun e => k5 e.symm
     have kr' : ¬ ir = i8 := fun e => kr e.symm
     have kq' : ¬ iq = i8 := fun e => kq e.symm
     skip
     simp only [vsAll, Nat.reduceLT, ↓reduceIte, eq_self, hh_i8]
     refine vs_loop (σ := Nat) (fun i => i ≤ sm.length) (fun i => [(0, dwAV i3 N b), (4, .ref i4 0 2 0 0), (5, .sl j5 1 sm.length), (8, .ref i8 0 4 0 0), (9, i64 (flS sm u d (l - 3) i)), (47, i64 (c : Nat)), (48, i64 so.length), (57, .sl ir 3 sm.length), (58, i64 sm.length), (59, i64 i)])
      (fun i => (mdH H i3 j5 ir iq i4 (a + 1 + 1) u sm so).set i8 (.box 4 1 fun _ => [i64 d, i64 (l - 3), i64 0, i64 0])) (fun i => sm.length - i) 0 (Nat.zero_le _) ?_ ?_ fun i hi => ?_
     ·simp only [vsAll, Nat.reduceEqDiff, ↓reduceIte, reduceCtorEq, eq_self, Int.natCast_zero]
      exact .refl _
     ·unfold mdH
      simp only [hul]
      (refine HSub_eqn fun jj => ?_; refine (Classical.em (jj = i8)).elim (fun E0 => by rw [E0]; first | (left; simp only [vsAll, ↓reduceIte, reduceCtorEq, eq_self]; done) | (right; simp only [vsAll, ↓reduceIte, eq_self]; done)) (fun E0 => ?_); refine (Classical.em (jj = i4)).elim (fun E1 => by rw [E1]; first | (left; simp only [vsAll, ↓reduceIte, reduceCtorEq, eq_self, hh_i8]; done) | (right; simp only [vsAll, ↓reduceIte, eq_self, c43, hh_i8]; done)) (fun E1 => ?_); refine (Classical.em (jj = iq)).elim (fun E2 => by rw [E2]; first | (left; simp only [vsAll, ↓reduceIte, reduceCtorEq, eq_self, q4, hh_i8]; done) | (right; simp only [vsAll, ↓reduceIte, eq_self, q4, q3, hh_i8]; done)) (fun E2 => ?_); refine (Classical.em (jj = ir)).elim (fun E3 => by rw [E3]; first | (left; simp only [vsAll, ↓reduceIte, reduceCtorEq, eq_self, r4, qr', hh_i8]; done) | (right; simp only [vsAll, ↓reduceIte, eq_self, r3, r4, qr', hh_i8]; done)) (fun E3 => ?_); refine (Classical.em (jj = j5)).elim (fun E4 => by rw [E4]; first | (left; simp only [vsAll, ↓reduceIte, reduceCtorEq, eq_self, hh_j5, r5', q5', hh_i8]; done) | (right; simp only [vsAll, ↓reduceIte, eq_self, hh_j5, c53, r5', q5', hh_i8]; done)) (fun E4 => ?_); refine (Classical.em (jj = i3)).elim (fun E5 => by rw [E5]; first | (left; simp only [vsAll, ↓reduceIte, reduceCtorEq, eq_self, c43', c53', r3', q3', hh_i8]; done) | (right; simp only [vsAll, ↓reduceIte, eq_self, c43', c53', r3', q3', hh_i8]; done)) (fun E5 => ?_); right; simp only [vsAll, ↓reduceIte, eq_self, E0, E1, E2, E3, E4, E5])
     ·unfold mdH
      simp only [hul]
      simp only [vsAll, binA, binLitA, intA, opA, dstOk, Nat.reduceLT, Nat.reduceEqDiff, ↓reduceIte, reduceCtorEq, eq_self]
      refine condD (fun hd3 => ?_) (fun hd3 => ?_)
      ·have hil : i < sm.length := by ((try clear ho hh_i4 hh_j5 c43 c53 c54 z4 z5 c43' c53' c54' r3 r3' r5 r5' r4 r4' zr q4 q4' qr qr' q3 q3' q5 q5' zq hh_i8 k3 k4 k5 kr kq z8 k3' k4' k5' kr' kq'); omega)
       have hsi := hs.s i hil
       have hfb := flS_bd hs d (l - 3) i hi
       have ef : flS sm u d (l - 3) (i + 1) = flS sm u d (l - 3) i + (if (sm.getD i lk0).ht ≤ d + (sm.getD i lk0).sd * (l - 3) then u.getD i 0 else 0) := rfl
       have hmul := sd_mul (sm.getD i lk0).sd (l - 3) hsi.2.1 (by ((try clear ho hh_i4 hh_j5 c43 c53 c54 z4 z5 c43' c53' c54' r3 r3' r5 r5' r4 r4' zr q4 q4' qr qr' q3 q3' q5 q5' zq hh_i8 k3 k4 k5 kr kq z8 k3' k4' k5' kr' kq'); omega))
       simp only [vsAll, binA, binLitA, intA, aggA, aggV, boolA, nilA2, loadA, loadRow, partA, partOk, fieldAddrA, indexAddrA, cellA, opA, allocA, newCells, okCells, storeObj, dstOk, nilSliceOp, Nat.reduceAdd, Nat.reduceLT, Nat.reduceEqDiff, Nat.reduceBEq, ↓reduceIte, reduceCtorEq, implies_true, eq_self, wtAll, r4, qr', hh_i8, lkF_at]
       refine ⟨⟨by ((try clear ho hh_i4 hh_j5 c43 c53 c54 z4 z5 c43' c53' c54' r3 r3' r5 r5' r4 r4' zr q4 q4' qr qr' q3 q3' q5 q5' zq hh_i8 k3 k4 k5 kr kq z8 k3' k4' k5' kr' kq'); omega), by ((try clear ho hh_i4 hh_j5 c43 c53 c54 z4 z5 c43' c53' c54' r3 r3' r5 r5' r4 r4' zr q4 q4' qr qr' q3 q3' q5 q5' zq hh_i8 k3 k4 k5 kr kq z8 k3' k4' k5' kr' kq'); omega)⟩, hil, ?_⟩
       intro i11 hh_i11; (try simp only [ite_none] at hh_i11)
       have g11 : ¬ i11 = i3 ∧ ¬ i11 = i4 ∧ ¬ i11 = j5 ∧ ¬ i11 = ir ∧ ¬ i11 = iq ∧ ¬ i11 = i8 ∧ H i11 = none := by simp_all
       obtain ⟨n3, n4, n5, nr, nq, n8, z11⟩ := g11
       have n3' : ¬ i3 = i11 := fun e => n3 e.symm
       have n4' : ¬ i4 = i11 := fun e => n4 e.symm
       have n5' : ¬ j5 = i11 := fun e => n5 e.symm
       have nr' : ¬ ir = i11 := fun e => nr e.symm
       have nq' : ¬ iq = i11 := fun e => nq e.symm
       have n8' : ¬ i8 = i11 := fun e => n8 e.symm
       skip
       simp only [vsAll, Nat.reduceLT, ↓reduceIte, eq_self, hh_i11]
       generalize (sm.getD i lk0).sd * (l - 3) = sl at *
       refine ⟨by simp only [InR_i64]; ((try clear ho hh_i4 hh_j5 c43 c53 c54 z4 z5 c43' c53' c54' r3 r3' r5 r5' r4 r4' zr q4 q4' qr qr' q3 q3' q5 q5' zq hh_i8 k3 k4 k5 kr kq z8 k3' k4' k5' kr' kq' hh_i11 n3 n4 n5 nr nq n8 z11 n3' n4' n5' nr' nq' n8'); omega), by simp only [InR_i64]; ((try clear ho hh_i4 hh_j5 c43 c53 c54 z4 z5 c43' c53' c54' r3 r3' r5 r5' r4 r4' zr q4 q4' qr qr' q3 q3' q5 q5' zq hh_i8 k3 k4 k5 kr kq z8 k3' k4' k5' kr' kq' hh_i11 n3 n4 n5 nr nq n8 z11 n3' n4' n5' nr' nq' n8'); omega), condD (fun hw => ?_) (fun hw => ?_)⟩
       ·rw [if_pos hw] at ef
        simp only [vsAll, binA, binLitA, intA, loadA, loadRow, partA, partOk, indexAddrA, opA, dstOk, nilSliceOp, Nat.reduceLT, Nat.reduceEqDiff, Nat.reduceBEq, ↓reduceIte, reduceCtorEq, eq_self, wtAll, hh_j5, r5', q5', hh_i8, hh_i11, intF_at]
        refine ⟨⟨by ((try clear ho hh_i4 hh_j5 c43 c53 c54 z4 z5 c43' c53' c54' r3 r3' r5 r5' r4 r4' zr q4 q4' qr qr' q3 q3' q5 q5' zq hh_i8 k3 k4 k5 kr kq z8 k3' k4' k5' kr' kq' hh_i11 n3 n4 n5 nr nq n8 z11 n3' n4' n5' nr' nq' n8'); omega), by ((try clear ho hh_i4 hh_j5 c43 c53 c54 z4 z5 c43' c53' c54' r3 r3' r5 r5' r4 r4' zr q4 q4' qr qr' q3 q3' q5 q5' zq hh_i8 k3 k4 k5 kr kq z8 k3' k4' k5' kr' kq' hh_i11 n3 n4 n5 nr nq n8 z11 n3' n4' n5' nr' nq' n8'); omega)⟩, hil, by simp only [InR_i64]; ((try clear ho hh_i4 hh_j5 c43 c53 c54 z4 z5 c43' c53' c54' r3 r3' r5 r5' r4 r4' zr q4 q4' qr qr' q3 q3' q5 q5' zq hh_i8 k3 k4 k5 kr kq z8 k3' k4' k5' kr' kq' hh_i11 n3 n4 n5 nr nq n8 z11 n3' n4' n5' nr' nq' n8'); omega), by simp only [InR_i64]; ((try clear ho hh_i4 hh_j5 c43 c53 c54 z4 z5 c43' c53' c54' r3 r3' r5 r5' r4 r4' zr q4 q4' qr qr' q3 q3' q5 q5' zq hh_i8 k3 k4 k5 kr kq z8 k3' k4' k5' kr' kq' hh_i11 n3 n4 n5 nr nq n8 z11 n3' n4' n5' nr' nq' n8'); omega), loop_next (i + 1) hil (by ((try clear ho hh_i4 hh_j5 c43 c53 c54 z4 z5 c43' c53' c54' r3 r3' r5 r5' r4 r4' zr q4 q4' qr qr' q3 q3' q5 q5' zq hh_i8 k3 k4 k5 kr kq z8 k3' k4' k5' kr' kq' hh_i11 n3 n4 n5 nr nq n8 z11 n3' n4' n5' nr' nq' n8'); omega)) ?_ ?_⟩
        ·simp only [vsAll, Nat.reduceEqDiff, ↓reduceIte, reduceCtorEq, eq_self, ef, Int.natCast_add, Int.natCast_one]
        ·(refine HSub_eqn fun jj => ?_; refine (Classical.em (jj = i8)).elim (fun E0 => by rw [E0]; first | (left; simp only [vsAll, ↓reduceIte, reduceCtorEq, eq_self]; done) | (right; simp only [vsAll, ↓reduceIte, eq_self, hh_i11]; done)) (fun E0 => ?_); refine (Classical.em (jj = i4)).elim (fun E1 => by rw [E1]; first | (left; simp only [vsAll, ↓reduceIte, reduceCtorEq, eq_self, hh_i8]; done) | (right; simp only [vsAll, ↓reduceIte, eq_self, hh_i8, hh_i11]; done)) (fun E1 => ?_); refine (Classical.em (jj = iq)).elim (fun E2 => by rw [E2]; first | (left; simp only [vsAll, ↓reduceIte, reduceCtorEq, eq_self, q4, hh_i8]; done) | (right; simp only [vsAll, ↓reduceIte, eq_self, q4, hh_i8, hh_i11]; done)) (fun E2 => ?_); refine (Classical.em (jj = ir)).elim (fun E3 => by rw [E3]; first | (left; simp only [vsAll, ↓reduceIte, reduceCtorEq, eq_self, r4, qr', hh_i8]; done) | (right; simp only [vsAll, ↓reduceIte, eq_self, r4, qr', hh_i8, hh_i11]; done)) (fun E3 => ?_); refine (Classical.em (jj = j5)).elim (fun E4 => by rw [E4]; first | (left; simp only [vsAll, ↓reduceIte, reduceCtorEq, eq_self, hh_j5, r5', q5', hh_i8]; done) | (right; simp only [vsAll, ↓reduceIte, eq_self, hh_j5, r5', q5', hh_i8, hh_i11]; done)) (fun E4 => ?_); refine (Classical.em (jj = i3)).elim (fun E5 => by rw [E5]; first | (left; simp only [vsAll, ↓reduceIte, reduceCtorEq, eq_self, c43', c53', r3', q3', hh_i8]; done) | (right; simp only [vsAll, ↓reduceIte, eq_self, c43', c53', r3', q3', hh_i8, hh_i11]; done)) (fun E5 => ?_); refine (Classical.em (jj = i11)).elim (fun E6 => by rw [E6]; first | (left; simp only [vsAll, ↓reduceIte, eq_self, hh_i11]; done) | (right; simp only [vsAll, binA, binLitA, intA, aggA, aggV, boolA, nilA2, isConst, unA, loadA, loadRow, partA, partOk, fieldAddrA, indexAddrA, indexA, fieldA, extractA, lenA, nilCheckA, boxA, boxZ, cellA, cellsA, fillA, okParts, buildSliceA, buildMutA, makeSliceA, partIdx, elemsA, lensA, ifaceA, convA, mmA, pickA, okAll, stAll, opsA, partsA, partsOk, opA, allocA, boxMutA, newCells, okCells, storeObj, appendA, guardV, taA, nM, mapUpA, rangeA, nextA, entryA, lookA, sliceA, sliceM, sliceS, boundsA, opO, okO, copyA, dstOk, nilA, quietOk, nilSliceOp, deferV, panA, resA, argFr, retA.eq_1, retA.eq_2, Nat.reduceAdd, Nat.reduceSub, Nat.reduceMul, Nat.reduceLT, Nat.reduceLeDiff, Nat.reduceEqDiff, Nat.reduceBEq, Int.reduceAdd, Int.reduceSub, Int.reduceMul, Int.reduceNeg, Int.reduceLE, Int.reduceLT, Int.reduceEq, Int.reduceNe, Int.reduceToNat, ↓reduceIte, reduceCtorEq, implies_true, forall_const, eq_self, ne_eq, wtAll, Try.ntmps15, Try.results15, ho, hh_i4, hh_j5, c43, c53, c54, z4, z5, c43', c53', c54', r3, r3', r5, r5', r4, r4', zr, q4, q4', qr, qr', q3, q3', q5, q5', zq, hh_i8, k3, k4, k5, kr, kq, z8, k3', k4', k5', kr', kq', hh_i11, n3, n4, n5, nr, nq, n8, z11, n3', n4', n5', nr', nq', n8']; done)) (fun E6 => ?_); right; simp only [vsAll, ↓reduceIte, eq_self, E0, E1, E2, E3, E4, E5, E6])
       ·rw [if_neg hw, Int.add_zero] at ef
        simp only [vsAll, binA, binLitA, intA, opA, dstOk, Nat.reduceLT, Nat.reduceEqDiff, ↓reduceIte, reduceCtorEq, eq_self]
        refine ⟨by simp only [InR_i64]; ((try clear ho hh_i4 hh_j5 c43 c53 c54 z4 z5 c43' c53' c54' r3 r3' r5 r5' r4 r4' zr q4 q4' qr qr' q3 q3' q5 q5' zq hh_i8 k3 k4 k5 kr kq z8 k3' k4' k5' kr' kq' hh_i11 n3 n4 n5 nr nq n8 z11 n3' n4' n5' nr' nq' n8'); omega), loop_next (i + 1) hil (by ((try clear ho hh_i4 hh_j5 c43 c53 c54 z4 z5 c43' c53' c54' r3 r3' r5 r5' r4 r4' zr q4 q4' qr qr' q3 q3' q5 q5' zq hh_i8 k3 k4 k5 kr kq z8 k3' k4' k5' kr' kq' hh_i11 n3 n4 n5 nr nq n8 z11 n3' n4' n5' nr' nq' n8'); omega)) ?_ ?_⟩
        ·simp only [vsAll, Nat.reduceEqDiff, ↓reduceIte, reduceCtorEq, eq_self, ef, Int.natCast_add, Int.natCast_one]
        ·(refine HSub_eqn fun jj => ?_; refine (Classical.em (jj = i8)).elim (fun E0 => by rw [E0]; first | (left; simp only [vsAll, ↓reduceIte, reduceCtorEq, eq_self]; done) | (right; simp only [vsAll, ↓reduceIte, eq_self, hh_i11]; done)) (fun E0 => ?_); refine (Classical.em (jj = i4)).elim (fun E1 => by rw [E1]; first | (left; simp only [vsAll, ↓reduceIte, reduceCtorEq, eq_self, hh_i8]; done) | (right; simp only [vsAll, ↓reduceIte, eq_self, hh_i8, hh_i11]; done)) (fun E1 => ?_); refine (Classical.em (jj = iq)).elim (fun E2 => by rw [E2]; first | (left; simp only [vsAll, ↓reduceIte, reduceCtorEq, eq_self, q4, hh_i8]; done) | (right; simp only [vsAll, ↓reduceIte, eq_self, q4, hh_i8, hh_i11]; done)) (fun E2 => ?_); refine (Classical.em (jj = ir)).elim (fun E3 => by rw [E3]; first | (left; simp only [vsAll, ↓reduceIte, reduceCtorEq, eq_self, r4, qr', hh_i8]; done) | (right; simp only [vsAll, ↓reduceIte, eq_self, r4, qr', hh_i8, hh_i11]; done)) (fun E3 => ?_); refine (Classical.em (jj = j5)).elim (fun E4 => by rw [E4]; first | (left; simp only [vsAll, ↓reduceIte, reduceCtorEq, eq_self, hh_j5, r5', q5', hh_i8]; done) | (right; simp only [vsAll, ↓reduceIte, eq_self, hh_j5, r5', q5', hh_i8, hh_i11]; done)) (fun E4 => ?_); refine (Classical.em (jj = i3)).elim (fun E5 => by rw [E5]; first | (left; simp only [vsAll, ↓reduceIte, reduceCtorEq, eq_self, c43', c53', r3', q3', hh_i8]; done) | (right; simp only [vsAll, ↓reduceIte, eq_self, c43', c53', r3', q3', hh_i8, hh_i11]; done)) (fun E5 => ?_); refine (Classical.em (jj = i11)).elim (fun E6 => by rw [E6]; first | (left; simp only [vsAll, ↓reduceIte, eq_self, hh_i11]; done) | (right; simp only [vsAll, binA, binLitA, intA, aggA, aggV, boolA, nilA2, isConst, unA, loadA, loadRow, partA, partOk, fieldAddrA, indexAddrA, indexA, fieldA, extractA, lenA, nilCheckA, boxA, boxZ, cellA, cellsA, fillA, okParts, buildSliceA, buildMutA, makeSliceA, partIdx, elemsA, lensA, ifaceA, convA, mmA, pickA, okAll, stAll, opsA, partsA, partsOk, opA, allocA, boxMutA, newCells, okCells, storeObj, appendA, guardV, taA, nM, mapUpA, rangeA, nextA, entryA, lookA, sliceA, sliceM, sliceS, boundsA, opO, okO, copyA, dstOk, nilA, quietOk, nilSliceOp, deferV, panA, resA, argFr, retA.eq_1, retA.eq_2, Nat.reduceAdd, Nat.reduceSub, Nat.reduceMul, Nat.reduceLT, Nat.reduceLeDiff, Nat.reduceEqDiff, Nat.reduceBEq, Int.reduceAdd, Int.reduceSub, Int.reduceMul, Int.reduceNeg, Int.reduceLE, Int.reduceLT, Int.reduceEq, Int.reduceNe, Int.reduceToNat, ↓reduceIte, reduceCtorEq, implies_true, forall_const, eq_self, ne_eq, wtAll, Try.ntmps15, Try.results15, ho, hh_i4, hh_j5, c43, c53, c54, z4, z5, c43', c53', c54', r3, r3', r5, r5', r4, r4', zr, q4, q4', qr, qr', q3, q3', q5, q5', zq, hh_i8, k3, k4, k5, kr, kq, z8, k3', k4', k5', kr', kq', hh_i11, n3, n4, n5, nr, nq, n8, z11, n3', n4', n5', nr', nq', n8']; done)) (fun E6 => ?_); right; simp only [vsAll, ↓reduceIte, eq_self, E0, E1, E2, E3, E4, E5, E6])
      ·have hfb := flS_bd hs d (l - 3) sm.length (Nat.le_refl _)
       have ei : i = sm.length := by ((try clear ho hh_i4 hh_j5 c43 c53 c54 z4 z5 c43' c53' c54' r3 r3' r5 r5' r4 r4' zr q4 q4' qr qr' q3 q3' q5 q5' zq hh_i8 k3 k4 k5 kr kq z8 k3' k4' k5' kr' kq'); omega)
       subst ei
       simp only [vsAll, okAll, stAll, opsA, opA, dstOk, Nat.reduceLT, Nat.reduceEqDiff, ↓reduceIte, reduceCtorEq, eq_self]
       refine callK (dw_tri kb i3 (a + 1 + 1) 2 _ (by ((try clear ho hh_i4 hh_j5 c43 c53 c54 z4 z5 c43' c53' c54' r3 r3' r5 r5' r4 r4' zr q4 q4' qr qr' q3 q3' q5 q5' zq hh_i8 k3 k4 k5 kr kq z8 k3' k4' k5' kr' kq'); omega)) (by ((try clear ho hh_i4 hh_j5 c43 c53 c54 z4 z5 c43' c53' c54' r3 r3' r5 r5' r4 r4' zr q4 q4' qr qr' q3 q3' q5 q5' zq hh_i8 k3 k4 k5 kr kq z8 k3' k4' k5' kr' kq'); omega)) (by simp only [vsAll, ↓reduceIte, eq_self, c43', c53', r3', q3', hh_i8])) ?_
       rintro r H' ⟨w1, hw1, rfl, rfl⟩
       simp only [vsAll, binA, binLitA, intA, mmA, okAll, stAll, opsA, opA, dstOk, Nat.reduceLT, Nat.reduceEqDiff, ↓reduceIte, reduceCtorEq, eq_self]
       refine ⟨by simp only [InR_i64]; ((try clear ho hh_i4 hh_j5 c43 c53 c54 z4 z5 c43' c53' c54' r3 r3' r5 r5' r4 r4' zr q4 q4' qr qr' q3 q3' q5 q5' zq hh_i8 k3 k4 k5 kr kq z8 k3' k4' k5' kr' kq'); omega), ?_⟩
       refine callK (dw_tri kb i3 (a + 1 + 1 + 1) 2 _ (by ((try clear ho hh_i4 hh_j5 c43 c53 c54 z4 z5 c43' c53' c54' r3 r3' r5 r5' r4 r4' zr q4 q4' qr qr' q3 q3' q5 q5' zq hh_i8 k3 k4 k5 kr kq z8 k3' k4' k5' kr' kq'); omega)) (by ((try clear ho hh_i4 hh_j5 c43 c53 c54 z4 z5 c43' c53' c54' r3 r3' r5 r5' r4 r4' zr q4 q4' qr qr' q3 q3' q5 q5' zq hh_i8 k3 k4 k5 kr kq z8 k3' k4' k5' kr' kq'); omega)) (by simp only [vsAll, ↓reduceIte, eq_self])) ?_
       rintro r H' ⟨w2, hw2, rfl, rfl⟩
       simp only [vsAll, binA, binLitA, intA, mmA, okAll, stAll, opsA, opA, dstOk, Nat.reduceLT, Nat.reduceEqDiff, ↓reduceIte, eq_self]
       refine ⟨by simp only [InR_i64]; ((try clear ho hh_i4 hh_j5 c43 c53 c54 z4 z5 c43' c53' c54' r3 r3' r5 r5' r4 r4' zr q4 q4' qr qr' q3 q3' q5 q5' zq hh_i8 k3 k4 k5 kr kq z8 k3' k4' k5' kr' kq'); omega), callK_pure (span_tri _ _ _) ?_⟩
       simp only [vsAll, binA, binLitA, intA, loadA, loadRow, partA, partOk, fieldAddrA, cellA, cellsA, okParts, buildSliceA, partIdx, elemsA, lensA, partsA, partsOk, opA, newCells, okCells, storeObj, appendA, dstOk, Nat.reduceAdd, Nat.reduceMul, Nat.reduceLT, Nat.reduceLeDiff, Nat.reduceEqDiff, Nat.reduceBEq, ↓reduceIte, reduceCtorEq, eq_self, wtAll, c43, q4, q4', q3, hh_i8]
       have ea := hadQ so ⟨d, l - 3, max 0 (flS sm u d (l - 3) sm.length - w1), min 24 (flS sm u d (l - 3) sm.length + w2)⟩ (fun i => [[i64 d, i64 (l - 3), i64 (max 0 (flS sm u d (l - 3) sm.length - w1)), i64 (min 24 (flS sm u d (l - 3) sm.length + w2))]].getD i []) rfl
       refine ⟨fun q hq => by (have : q = 0 := by ((try clear ho hh_i4 hh_j5 c43 c53 c54 z4 z5 c43' c53' c54' r3 r3' r5 r5' r4 r4' zr q4 q4' qr qr' q3 q3' q5 q5' zq hh_i8 k3 k4 k5 kr kq z8 k3' k4' k5' kr' kq'); omega)); subst this; exact ⟨rfl, rfl, rfl, rfl, trivial⟩, by ((try clear ho hh_i4 hh_j5 c43 c53 c54 z4 z5 c43' c53' c54' r3 r3' r5 r5' r4 r4' zr q4 q4' qr qr' q3 q3' q5 q5' zq hh_i8 k3 k4 k5 kr kq z8 k3' k4' k5' kr' kq'); omega), by ((try clear ho hh_i4 hh_j5 c43 c53 c54 z4 z5 c43' c53' c54' r3 r3' r5 r5' r4 r4' zr q4 q4' qr qr' q3 q3' q5 q5' zq hh_i8 k3 k4 k5 kr kq z8 k3' k4' k5' kr' kq'); omega), by simp only [InR_i64]; ((try clear ho hh_i4 hh_j5 c43 c53 c54 z4 z5 c43' c53' c54' r3 r3' r5 r5' r4 r4' zr q4 q4' qr qr' q3 q3' q5 q5' zq hh_i8 k3 k4 k5 kr kq z8 k3' k4' k5' kr' kq'); omega), loop_next (a + 1 + 1 + 1 + 1, so ++ [⟨d, l - 3, max 0 (flS sm u d (l - 3) sm.length - w1), min 24 (flS sm u d (l - 3) sm.length + w2)⟩]) ⟨hq.add (by ((try clear ho hh_i4 hh_j5 c43 c53 c54 z4 z5 c43' c53' c54' r3 r3' r5 r5' r4 r4' zr q4 q4' qr qr' q3 q3' q5 q5' zq hh_i8 k3 k4 k5 kr kq z8 k3' k4' k5' kr' kq'); omega)) ⟨by ((try clear ho hh_i4 hh_j5 c43 c53 c54 z4 z5 c43' c53' c54' r3 r3' r5 r5' r4 r4' zr q4 q4' qr qr' q3 q3' q5 q5' zq hh_i8 k3 k4 k5 kr kq z8 k3' k4' k5' kr' kq'); omega), by ((try clear ho hh_i4 hh_j5 c43 c53 c54 z4 z5 c43' c53' c54' r3 r3' r5 r5' r4 r4' zr q4 q4' qr qr' q3 q3' q5 q5' zq hh_i8 k3 k4 k5 kr kq z8 k3' k4' k5' kr' kq'); omega)⟩ ⟨by ((try clear ho hh_i4 hh_j5 c43 c53 c54 z4 z5 c43' c53' c54' r3 r3' r5 r5' r4 r4' zr q4 q4' qr qr' q3 q3' q5 q5' zq hh_i8 k3 k4 k5 kr kq z8 k3' k4' k5' kr' kq'); omega), by ((try clear ho hh_i4 hh_j5 c43 c53 c54 z4 z5 c43' c53' c54' r3 r3' r5 r5' r4 r4' zr q4 q4' qr qr' q3 q3' q5 q5' zq hh_i8 k3 k4 k5 kr kq z8 k3' k4' k5' kr' kq'); omega)⟩ (by ((try clear ho hh_i4 hh_j5 c43 c53 c54 z4 z5 c43' c53' c54' r3 r3' r5 r5' r4 r4' zr q4 q4' qr qr' q3 q3' q5 q5' zq hh_i8 k3 k4 k5 kr kq z8 k3' k4' k5' kr' kq'); omega)) (by ((try clear ho hh_i4 hh_j5 c43 c53 c54 z4 z5 c43' c53' c54' r3 r3' r5 r5' r4 r4' zr q4 q4' qr qr' q3 q3' q5 q5' zq hh_i8 k3 k4 k5 kr kq z8 k3' k4' k5' kr' kq'); omega)) (by ((try clear ho hh_i4 hh_j5 c43 c53 c54 z4 z5 c43' c53' c54' r3 r3' r5 r5' r4 r4' zr q4 q4' qr qr' q3 q3' q5 q5' zq hh_i8 k3 k4 k5 kr kq z8 k3' k4' k5' kr' kq'); omega)) (by ((try clear ho hh_i4 hh_j5 c43 c53 c54 z4 z5 c43' c53' c54' r3 r3' r5 r5' r4 r4' zr q4 q4' qr qr' q3 q3' q5 q5' zq hh_i8 k3 k4 k5 kr kq z8 k3' k4' k5' kr' kq'); omega)), by simp only [List.length_append, List.length_cons, List.length_nil]; ((try clear ho hh_i4 hh_j5 c43 c53 c54 z4 z5 c43' c53' c54' r3 r3' r5 r5' r4 r4' zr q4 q4' qr qr' q3 q3' q5 q5' zq hh_i8 k3 k4 k5 kr kq z8 k3' k4' k5' kr' kq'); omega), by show a + 1 + 1 + 1 + 1 ≤ _; simp only [List.length_append, List.length_cons, List.length_nil]; ((try clear ho hh_i4 hh_j5 c43 c53 c54 z4 z5 c43' c53' c54' r3 r3' r5 r5' r4 r4' zr q4 q4' qr qr' q3 q3' q5 q5' zq hh_i8 k3 k4 k5 kr kq z8 k3' k4' k5' kr' kq'); omega)⟩ (by simp only [List.length_append, List.length_cons, List.length_nil]; ((try clear ho hh_i4 hh_j5 c43 c53 c54 z4 z5 c43' c53' c54' r3 r3' r5 r5' r4 r4' zr q4 q4' qr qr' q3 q3' q5 q5' zq hh_i8 k3 k4 k5 kr kq z8 k3' k4' k5' kr' kq'); omega)) ?_ ?_⟩
       ·simp only [vsAll, Nat.reduceEqDiff, ↓reduceIte, reduceCtorEq, eq_self, List.length_append, Int.natCast_add, Int.natCast_one]
       ·simp only [List.length_append, List.length_cons, List.length_nil, ← ea]
        (refine HSub_eqn fun jj => ?_; refine (Classical.em (jj = i4)).elim (fun E0 => by rw [E0]; first | (left; simp only [vsAll, ↓reduceIte, reduceCtorEq, eq_self]; done) | (right; simp only [vsAll, ↓reduceIte, eq_self]; done)) (fun E0 => ?_); refine (Classical.em (jj = iq)).elim (fun E1 => by rw [E1]; first | (left; simp only [vsAll, ↓reduceIte, reduceCtorEq, eq_self, q4]; done) | (right; simp only [vsAll, ↓reduceIte, eq_self, q4]; done)) (fun E1 => ?_); refine (Classical.em (jj = ir)).elim (fun E2 => by rw [E2]; first | (left; simp only [vsAll, ↓reduceIte, reduceCtorEq, eq_self, r4, qr']; done) | (right; simp only [vsAll, ↓reduceIte, eq_self, r3, r4, qr', hh_i8]; done)) (fun E2 => ?_); refine (Classical.em (jj = j5)).elim (fun E3 => by rw [E3]; first | (left; simp only [vsAll, ↓reduceIte, reduceCtorEq, eq_self, hh_j5, r5', q5']; done) | (right; simp only [vsAll, ↓reduceIte, eq_self, hh_j5, c53, r5', q5', hh_i8]; done)) (fun E3 => ?_); refine (Classical.em (jj = i3)).elim (fun E4 => by rw [E4]; first | (left; simp only [vsAll, ↓reduceIte, reduceCtorEq, eq_self, c43', c53', r3', q3']; done) | (right; simp only [vsAll, ↓reduceIte, eq_self, c43', c53', r3', q3', hh_i8]; done)) (fun E4 => ?_); refine (Classical.em (jj = i8)).elim (fun E5 => by rw [E5]; first | (left; simp only [vsAll, ↓reduceIte, eq_self, hh_i8]; done) | (right; simp only [vsAll, binA, binLitA, intA, aggA, aggV, boolA, nilA2, isConst, unA, loadA, loadRow, partA, partOk, fieldAddrA, indexAddrA, indexA, fieldA, extractA, lenA, nilCheckA, boxA, boxZ, cellA, cellsA, fillA, okParts, buildSliceA, buildMutA, makeSliceA, partIdx, elemsA, lensA, ifaceA, convA, mmA, pickA, okAll, stAll, opsA, partsA, partsOk, opA, allocA, boxMutA, newCells, okCells, storeObj, appendA, guardV, taA, nM, mapUpA, rangeA, nextA, entryA, lookA, sliceA, sliceM, sliceS, boundsA, opO, okO, copyA, dstOk, nilA, quietOk, nilSliceOp, deferV, panA, resA, argFr, retA.eq_1, retA.eq_2, Nat.reduceAdd, Nat.reduceSub, Nat.reduceMul, Nat.reduceLT, Nat.reduceLeDiff, Nat.reduceEqDiff, Nat.reduceBEq, Int.reduceAdd, Int.reduceSub, Int.reduceMul, Int.reduceNeg, Int.reduceLE, Int.reduceLT, Int.reduceEq, Int.reduceNe, Int.reduceToNat, ↓reduceIte, reduceCtorEq, implies_true, forall_const, eq_self, ne_eq, wtAll, Try.ntmps15, Try.results15, ho, hh_i4, hh_j5, c43, c53, c54, z4, z5, c43', c53', c54', r3, r3', r5, r5', r4, r4', zr, q4, q4', qr, qr', q3, q3', q5, q5', zq, hh_i8, k3, k4, k5, kr, kq, z8, k3', k4', k5', kr', kq']; done)) (fun E5 => ?_); right; simp only [vsAll, ↓reduceIte, eq_self, E0, E1, E2, E3, E4, E5])
    ·have hsl : so.length = c := by ((try clear ho hh_i4 hh_j5 c43 c53 c54 z4 z5 c43' c53' c54' r3 r3' r5 r5' r4 r4' zr q4 q4' qr qr' q3 q3' q5 q5' zq); omega)
     simp only [vsAll, loadA, loadRow, partA, partOk, cellA, opA, newCells, okCells, storeObj, dstOk, nilSliceOp, Nat.reduceAdd, Nat.reduceLT, Nat.reduceEqDiff, Nat.reduceBEq, ↓reduceIte, reduceCtorEq, eq_self, wtAll]
     refine fn_ent (Ent.of [(4, .ref i4 0 2 0 0), (5, .sl j5 1 u.length)] (by simp only [vsAll, Nat.reduceEqDiff, ↓reduceIte, reduceCtorEq, eq_self, hul]) (H' := ((((H.set i3 (.box 1 1 fun _ => [i64 a])).set j5 (.row 1 u.length (intF u))).set ir (.row 3 sm.length (lkF sm))).set iq (.row 4 so.length (lsF so))).set i4 (.box 2 1 fun _ => [.sl ir 3 sm.length, .sl iq 4 so.length])) (by rw [Hp.set_set, hul]; exact HSub_rfl) ?_)
     refine fn_ent (Ent.freezeBox (s' := Fr.of [(4, .ref i4 0 2 0 0), (5, .sl j5 1 u.length)]) (id := ir) (st := 3) (n := sm.length) (f := lkF sm) (j := i4) (st' := 2) (n' := 1) (g := fun _ => [.sl ir 3 sm.length, .sl iq 4 so.length]) (g' := fun _ => [lkAV sm, .sl iq 4 so.length]) (by simp only [vsAll, ↓reduceIte, eq_self, r4, qr']) (by simp only [vsAll, ↓reduceIte, eq_self]) (fun t => .rfl) (fun _ _ => rfl) (fun q d hq hd => ?_) ?_)
     ·match d, hd with
      | 0, _ => exact .hit
      | 1, _ => exact .rfl
     refine fn_ent (Ent.freezeBox (s' := Fr.of [(4, .ref i4 0 2 0 0), (5, .sl j5 1 u.length)]) (id := iq) (st := 4) (n := so.length) (f := lsF so) (j := i4) (st' := 2) (n' := 1) (g := fun _ => [lkAV sm, .sl iq 4 so.length]) (g' := fun _ => [lkAV sm, lsAV so]) (by simp only [Hp.set, Hp.del, q4, qr, if_false, if_true]) (Hp.set_same _ _ _) (fun t => .rfl) (fun _ _ => rfl) (fun q d hq hd => ?_) ?_)
     ·match d, hd with
      | 0, _ => exact .rfl
      | 1, _ => exact .hit
     refine fn_ent (Ent.freeze (id := j5) (st := 1) (n := u.length) (f := intF u) (s' := Fr.of [(4, .ref i4 0 2 0 0), (5, intsAV u)]) (by simp only [Hp.set, Hp.del, c54, q5', r5', if_false, if_true]) (fun t => ?_) ?_)
     ·simp only [Fr.of]
      by_cases e4 : t = 4
      ·left; rw [if_pos e4, if_pos e4]
      ·rw [if_neg e4, if_neg e4]
       by_cases e5 : t = 5
       ·right; rw [if_pos e5, if_pos e5]; exact ⟨rfl, rfl⟩
       ·left; rw [if_neg e5, if_neg e5]
     refine fn_ent (Ent.weak (s' := Fr.of [(4, .ref i4 0 2 0 0), (5, intsAV u)]) (fun t => AV.Le.refl _) (H' := (H.set i3 (.box 1 1 fun _ => [i64 a])).set i4 (.box 2 1 fun _ => [lkAV sm, lsAV so])) (HSub_eqn fun jj => ?_) ?_)
     ·by_cases e1 : jj = i4
      ·right; subst e1; simp [Hp.set, Hp.del, c54']
      by_cases e2 : jj = ir
      ·left; subst e2; simp [Hp.set, r4, r3, zr]
      by_cases e3 : jj = iq
      ·left; subst e3; simp [Hp.set, q4, q3, zq]
      by_cases e5 : jj = j5
      ·left; subst e5; simp [Hp.set, c54, c53, z5]
      right; simp [Hp.set, Hp.del, e1, e2, e3, e5]
     refine Ent.ret ⟨rfl, ?_⟩
     simp only [vsAll, loadA, loadRow, partA, partOk, resA, retA.eq_2, Nat.reduceLT, Nat.reduceEqDiff, ↓reduceIte, eq_self, wtAll, Try.results15]
     obtain ⟨o1, o2⟩ := made_ok hs (by ((try clear ho hh_i4 hh_j5 c43 c53 c54 z4 z5 c43' c53' c54' r3 r3' r5 r5' r4 r4' zr q4 q4' qr qr' q3 q3' q5 q5' zq); omega)) hq
     exact ⟨H.set i3 (.box 1 1 fun _ => [i64 a]), HSub_drop2 (by rw [Hp.set_ne _ _ c43]; exact z4) HSub_rfl, ⟨sm, so⟩, u, a, o1, o2, by ((try clear ho hh_i4 hh_j5 c43 c53 c54 z4 z5 c43' c53' c54' r3 r3' r5 r5' r4 r4' zr q4 q4' qr qr' q3 q3' q5 q5' zq); omega), rfl, rfl⟩
end Go.Proofs.Ytclkjifgipcamaa
end
section
set_option linter.unusedVariables false
set_option linter.unusedSimpArgs false
set_option maxHeartbeats 4000000
set_option maxRecDepth 100000
namespace Go.Proofs.Ytclkjifgipcamaa
open Go.V
theorem power_tri (n : Nat) (H : Hp) (hn : n ≤ 40) : PTri Try.prog (fnA 58) [i64 n] H (i64 (2 ^ n : Nat)) := by
 refine tri_v0 (fun _ => false) Try.func58 (by kernel_rfl) rfl (by simp only [List.length_append, List.length_cons, List.length_nil, Try.ntmps58]; decide) ?_
 simp only [vsAll, opA, dstOk, nilSliceOp, Nat.reduceLT, eq_self, Try.ntmps58]
 refine vs_loop (σ := Nat) (fun i => i ≤ n) (fun i => [(0, i64 n), (3, i64 (2 ^ i : Nat)), (4, i64 i)]) (fun _ => H) (fun i => n - i) 0 (Nat.zero_le _) ?_ HSub_rfl fun i hi => ?_
 ·simp only [vsAll, argFr, Nat.reduceEqDiff, ↓reduceIte, reduceCtorEq, eq_self, Int.natCast_zero]
  exact .refl _
 ·simp only [vsAll, binA, binLitA, intA, opA, dstOk, Nat.reduceLT, Nat.reduceEqDiff, ↓reduceIte, reduceCtorEq, eq_self]
  refine condD (fun hd => ?_) (fun hd => ?_)
  ·have hil : i < n := by omega
   have p : 2 ^ (i + 1) = 2 * 2 ^ i := by rw [Nat.pow_succ, Nat.mul_comm]
   have q : 2 ^ i ≤ 2 ^ 40 := Nat.pow_le_pow_right (by decide) (by omega)
   have ec : (2 : Int) * ((2 ^ i : Nat) : Int) = ((2 ^ (i + 1) : Nat) : Int) := by rw [p]; push_cast; rfl
   simp only [vsAll, binA, binLitA, intA, opA, dstOk, nilSliceOp, Nat.reduceLT, Nat.reduceEqDiff, ↓reduceIte, reduceCtorEq, eq_self, ec]
   have hI : InR .i64 ((2 ^ (i + 1) : Nat) : Int) := by
    generalize 2 ^ (i + 1) = Q at *
    generalize 2 ^ i = R at *
    simp only [InR_i64]; omega
   refine ⟨hI, by simp only [InR_i64]; omega, loop_next (i + 1) hil (by omega) ?_ HSub_rfl⟩
   simp only [vsAll, Nat.reduceEqDiff, ↓reduceIte, reduceCtorEq, eq_self, Int.natCast_add, Int.natCast_one]
  ·have ei : i = n := by omega
   subst ei
   simp only [vsAll, opA, dstOk, nilSliceOp, resA, retA.eq_1, Nat.reduceLT, Nat.reduceEqDiff, ↓reduceIte, reduceCtorEq, eq_self, Try.results58]
theorem has_tri (S x : Nat) (H : Hp) (hS : S < 2 ^ 40) (hx : x ≤ 40) : PTri Try.prog (fnA 71) [i64 (S : Nat), i64 (x : Nat)] H (boo (S.testBit x)) := by
 refine tri_v0 (fun _ => false) Try.func71 (by kernel_rfl) rfl (by simp only [List.length_append, List.length_cons, List.length_nil, Try.ntmps71]; decide) ?_
 simp only [vsAll, okAll, stAll, opsA, opA, dstOk, nilSliceOp, argFr, Nat.reduceLT, Nat.reduceEqDiff, ↓reduceIte, reduceCtorEq, eq_self, Try.ntmps71]
 refine callK_pure (power_tri x _ hx) ?_
 have hp := Nat.two_pow_pos x
 have e1 : (S : Int).tdiv ((2 ^ x : Nat) : Int) = ((S / 2 ^ x : Nat) : Int) := (Int.ofNat_tdiv S (2 ^ x)).symm
 have e2 : ((S / 2 ^ x : Nat) : Int).tmod 2 = ((S / 2 ^ x % 2 : Nat) : Int) := (Int.ofNat_tmod _ 2).symm
 have e3 : decide (((S / 2 ^ x % 2 : Nat) : Int) = 1) = S.testBit x := by
  rw [Nat.testBit_eq_decide_div_mod_eq]
  exact decide_eq_decide.2 (by omega)
 have h1 : S / 2 ^ x ≤ S := Nat.div_le_self _ _
 have hI : InR .i64 ((S / 2 ^ x : Nat) : Int) := by
  generalize S / 2 ^ x = Q at *
  simp only [InR_i64]; omega
 have hI0 : ¬ ((2 ^ x : Nat) : Int) = 0 := by
  generalize 2 ^ x = Q at *
  omega
 simp only [vsAll, binA, binLitA, intA, opA, dstOk, nilSliceOp, resA, retA.eq_1, Nat.reduceLT, Nat.reduceEqDiff, Int.reduceEq, ↓reduceIte, eq_self, ne_eq, Try.results71, e1, e2, e3]
 exact ⟨hI0, hI⟩
theorem leaksOf_tri (u : List Int) (H : Hp) (hu : u.length ≤ 6) : PTri Try.prog (fnA 16) [intsAV u] H (i64 (lksN u u.length : Nat)) := by
 refine tri_v0 (fun _ => false) Try.func16 (by kernel_rfl) rfl (by simp only [List.length_append, List.length_cons, List.length_nil, Try.ntmps16]; decide) ?_
 simp only [vsAll, opA, dstOk, nilSliceOp, Nat.reduceLT, eq_self, Try.ntmps16]
 refine vs_loop (σ := Nat) (fun i => i ≤ u.length) (fun i => [(0, intsAV u), (3, i64 (lksN u i : Nat)), (4, i64 i)]) (fun _ => H) (fun i => u.length - i) 0 (Nat.zero_le _) ?_ HSub_rfl fun i hi => ?_
 ·simp only [vsAll, argFr, Nat.reduceEqDiff, ↓reduceIte, reduceCtorEq, eq_self, Int.natCast_zero]
  exact .refl _
 ·simp only [vsAll, binA, binLitA, intA, lenA, opA, dstOk, Nat.reduceLT, Nat.reduceEqDiff, ↓reduceIte, reduceCtorEq, eq_self, wtAll]
  refine condD (fun hd => ?_) (fun hd => ?_)
  ·have hil : i < u.length := by omega
   have h1 := lksN_lt u i
   have p : 2 ^ i ≤ 2 ^ 6 := Nat.pow_le_pow_right (by decide) (by omega)
   simp only [vsAll, binA, binLitA, intA, loadA, loadRow, partA, partOk, indexAddrA, opA, dstOk, Nat.reduceLT, Nat.reduceEqDiff, ↓reduceIte, reduceCtorEq, eq_self, wtAll, intF_at]
   refine ⟨⟨by omega, by omega⟩, hil, condD (fun hc => ?_) (fun hc => ?_)⟩
   ·have e : lksN u (i + 1) = lksN u i + 2 ^ i := by
     show (if decide (0 < u.getD i 0) = true then lksN u i ||| 2 ^ i else lksN u i) = _
     rw [if_pos (decide_eq_true hc)]
     have := Nat.two_pow_add_eq_or_of_lt h1 1
     rw [Nat.mul_one] at this
     rw [Nat.or_comm, ← this, Nat.add_comm]
    have ec : ((lksN u i : Nat) : Int) + ((2 ^ i : Nat) : Int) = ((lksN u (i + 1) : Nat) : Int) := by rw [e]; push_cast; rfl
    have h2 := lksN_lt u (i + 1)
    have p2 : 2 ^ (i + 1) ≤ 2 ^ 6 := Nat.pow_le_pow_right (by decide) (by omega)
    have hI : InR .i64 ((lksN u (i + 1) : Nat) : Int) := by
     generalize lksN u (i + 1) = z at *
     generalize 2 ^ (i + 1) = Q at *
     simp only [InR_i64]; omega
    simp only [vsAll, okAll, stAll, opsA, opA, dstOk, Nat.reduceLT, Nat.reduceEqDiff, ↓reduceIte, reduceCtorEq, eq_self]
    refine callK_pure (power_tri i _ (by omega)) ?_
    simp only [vsAll, binA, binLitA, intA, opA, dstOk, nilSliceOp, Nat.reduceLT, Nat.reduceEqDiff, ↓reduceIte, reduceCtorEq, eq_self, ec]
    refine ⟨hI, by simp only [InR_i64]; omega, loop_next (i + 1) hil (by omega) ?_ HSub_rfl⟩
    simp only [vsAll, Nat.reduceEqDiff, ↓reduceIte, reduceCtorEq, eq_self, Int.natCast_add, Int.natCast_one]
   ·have e : lksN u (i + 1) = lksN u i := by
     show (if decide (0 < u.getD i 0) = true then lksN u i ||| 2 ^ i else lksN u i) = _
     rw [if_neg (by rw [decide_eq_true_eq]; exact hc)]
    simp only [vsAll, binA, binLitA, intA, opA, dstOk, nilSliceOp, Nat.reduceLT, Nat.reduceEqDiff, ↓reduceIte, reduceCtorEq, eq_self]
    refine ⟨by simp only [InR_i64]; omega, loop_next (i + 1) hil (by omega) ?_ HSub_rfl⟩
    simp only [vsAll, Nat.reduceEqDiff, ↓reduceIte, reduceCtorEq, eq_self, e, Int.natCast_add, Int.natCast_one]
  ·have ei : i = u.length := by omega
   subst ei
   simp only [vsAll, opA, dstOk, nilSliceOp, resA, retA.eq_1, Nat.reduceLT, Nat.reduceEqDiff, ↓reduceIte, reduceCtorEq, eq_self, Try.results16]
def lenV (fs : List Int) (S : Nat) (i : Nat) : Int := smZ (fun q => if S.testBit q = true then fs.getD q 0 else 0) i
theorem lenV_bd {fs : List Int} (hf : ∀ x, x < fs.length → 1 ≤ fs.getD x 0 ∧ fs.getD x 0 ≤ 20) (S : Nat) : ∀ i, i ≤ fs.length → 0 ≤ lenV fs S i ∧ lenV fs S i ≤ 20 * (i : Int)
 | 0, _ => ⟨Int.le_refl _, Int.le_refl _⟩
 | i + 1, hi => by
   have ih := lenV_bd hf S i (by omega)
   have hs := hf i (by omega)
   have e : lenV fs S (i + 1) = lenV fs S i + (if S.testBit i = true then fs.getD i 0 else 0) := rfl
   rw [e]
   split <;> omega
theorem length_tri (h : Hl) (fs : List Int) (S : Nat) (H : Hp) (hl : fs.length ≤ 6) (hf : ∀ x, x < fs.length → 1 ≤ fs.getD x 0 ∧ fs.getD x 0 ≤ 20) (hS : S < 2 ^ 40) : PTri Try.prog (fnA 22) [.agg (rkC h fs), i64 (S : Nat)] H (i64 (lenV fs S fs.length)) := by
 refine tri_v0 (fun _ => false) Try.func22 (by kernel_rfl) rfl (by simp only [List.length_append, List.length_cons, List.length_nil, Try.ntmps22]; decide) ?_
 simp only [vsAll, boxA, boxZ, opA, dstOk, nilSliceOp, argFr, Nat.reduceAdd, Nat.reduceLT, eq_self, wtAll, Try.ntmps22]
 refine vs_loop (σ := Nat) (fun i => i ≤ fs.length) (fun i => [(1, i64 (S : Nat)), (2, .rptr 1 3 (fun _ => rkC h fs) 0 0), (5, i64 (lenV fs S i)), (6, i64 i)]) (fun _ => H) (fun i => fs.length - i) 0 (Nat.zero_le _) ?_ HSub_rfl fun i hi => ?_
 ·simp only [vsAll, argFr, Nat.reduceEqDiff, ↓reduceIte, eq_self, Int.natCast_zero]
  exact .refl _
 ·simp only [vsAll, binA, binLitA, intA, loadA, loadRow, partA, partOk, fieldAddrA, lenA, opA, dstOk, Nat.reduceLT, Nat.reduceEqDiff, ↓reduceIte, eq_self, wtAll]
  refine condD (fun hd => ?_) (fun hd => ?_)
  ·have hil : i < fs.length := by omega
   have hb := lenV_bd hf S i hi
   have hfi := hf i hil
   have e : lenV fs S (i + 1) = lenV fs S i + (if S.testBit i = true then fs.getD i 0 else 0) := rfl
   simp only [vsAll, okAll, stAll, opsA, opA, dstOk, Nat.reduceLT, Nat.reduceEqDiff, ↓reduceIte, eq_self]
   refine callK_pure (has_tri S i _ hS (by omega)) ?_
   simp only [vsAll, opA, ↓reduceIte, eq_self]
   refine condV (fun hc => ?_) (fun hc => ?_)
   ·rw [if_pos hc] at e
    simp only [vsAll, binA, binLitA, intA, loadA, loadRow, partA, partOk, fieldAddrA, indexAddrA, opA, dstOk, nilSliceOp, Nat.reduceLT, Nat.reduceEqDiff, ↓reduceIte, eq_self, wtAll, intF_at]
    refine ⟨⟨by omega, by omega⟩, hil, by simp only [InR_i64]; omega, by simp only [InR_i64]; omega, loop_next (i + 1) hil (by omega) ?_ HSub_rfl⟩
    simp only [vsAll, Nat.reduceEqDiff, ↓reduceIte, eq_self, e, Int.natCast_add, Int.natCast_one]
   ·rw [if_neg (by rw [hc]; decide), Int.add_zero] at e
    simp only [vsAll, binA, binLitA, intA, opA, dstOk, nilSliceOp, Nat.reduceLT, Nat.reduceEqDiff, ↓reduceIte, eq_self]
    refine ⟨by simp only [InR_i64]; omega, loop_next (i + 1) hil (by omega) ?_ HSub_rfl⟩
    simp only [vsAll, Nat.reduceEqDiff, ↓reduceIte, eq_self, e, Int.natCast_add, Int.natCast_one]
  ·have ei : i = fs.length := by omega
   subst ei
   simp only [vsAll, opA, dstOk, nilSliceOp, resA, retA.eq_1, Nat.reduceLT, Nat.reduceEqDiff, ↓reduceIte, eq_self, Try.results22]
theorem ints_tri (l : List Int) (H : Hp) (hl : l.length ≤ 100) : PTri Try.prog (fnA 73) [intsAV l, intsAV l] H (boo true) := by
 refine tri_v0 (fun _ => false) Try.func73 (by kernel_rfl) rfl (by simp only [List.length_append, List.length_cons, List.length_nil, Try.ntmps73]; decide) ?_
 simp only [vsAll, binA, binLitA, intA, lenA, opA, dstOk, nilSliceOp, argFr, Nat.reduceLT, Nat.reduceEqDiff, ↓reduceIte, reduceCtorEq, eq_self, wtAll, Try.ntmps73]
 refine vs_loop (σ := Nat) (fun i => i ≤ l.length) (fun i => [(0, intsAV l), (1, intsAV l), (5, i64 i)]) (fun _ => H) (fun i => l.length - i) 0 (Nat.zero_le _) ?_ HSub_rfl fun i hi => ?_
 ·simp only [vsAll, argFr, Nat.reduceEqDiff, ↓reduceIte, reduceCtorEq, eq_self, Int.natCast_zero]
 ·simp only [vsAll, binA, binLitA, intA, lenA, opA, dstOk, Nat.reduceLT, Nat.reduceEqDiff, ↓reduceIte, reduceCtorEq, eq_self, wtAll]
  refine condD (fun hd => ?_) (fun hd => ?_)
  ·have hil : i < l.length := by omega
   simp only [vsAll]
   refine vs_draw2 [0, 0, 0, 0, 0, 0, 0, 0, 0] [] [0, 1, 2, 3, 4, 5, 6, 7, 8] (by decide +kernel) ?_
   simp only [vsAll, binA, binLitA, intA, loadA, loadRow, partA, partOk, indexAddrA, opA, dstOk, nilSliceOp, Nat.reduceLT, Nat.reduceEqDiff, ↓reduceIte, reduceCtorEq, eq_self, wtAll, intF_at]
   refine ⟨⟨by omega, by omega⟩, hil, ⟨by omega, by omega⟩, hil, by simp only [InR_i64]; omega, loop_next (i + 1) hil (by omega) ?_ HSub_rfl⟩
   simp only [vsAll, Nat.reduceEqDiff, ↓reduceIte, reduceCtorEq, eq_self, Int.natCast_add, Int.natCast_one]
  ·simp only [vsAll, opA, dstOk, nilSliceOp, resA, retA.eq_1, Nat.reduceLT, ↓reduceIte, eq_self, Try.results73]
end Go.Proofs.Ytclkjifgipcamaa
end
section
set_option linter.unusedVariables false
set_option linter.unusedSimpArgs false
set_option maxHeartbeats 4000000
set_option maxRecDepth 100000
namespace Go.Proofs.Ytclkjifgipcamaa
open Go.V
theorem knL_snoc (l : List Fd) (p : Fd) : knL (l ++ [p]) = knW (knL l) p := by
 unfold knL
 rw [List.foldl_append]
 rfl
theorem OkF.snoc {N : Nat} {l : List Fd} (k : OkF N l) {x : Nat} {T : Bool} (hx : x < N) (hb : (knL l).1.testBit x = false) : OkF N (l ++ [(x, T)]) := by
 refine ⟨fun i hi => ?_, fun i hi => ?_⟩
 ·rw [getD_snoc']
  by_cases e : i = l.length
  ·rw [if_pos e]; exact hx
  ·rw [if_neg e]
   simp at hi
   exact k.lt i (by omega)
 ·rw [getD_snoc']
  simp at hi
  by_cases e : i = l.length
  ·rw [if_pos e, e, List.take_append_of_le_length (Nat.le_refl _), List.take_length]; exact hb
  ·rw [if_neg e, List.take_append_of_le_length (by omega)]
   exact k.nw i (by omega)
/-- While seams are raked: what was told of the truth, and how many fathoms that took. -/
structure FoI (h : Hl) (fs : List Int) (T : Nat) (l : List Fd) (tot : Int) : Prop where
 ok : OkF h.N l
 ag : T &&& (knL l).1 = (knL l).2
 le : tot + (wsR fs h.N (lkSets h) (knL l).1 (knL l).2).2 ≤ (wsR fs h.N (lkSets h) 0 0).2
 b : 0 ≤ tot ∧ tot ≤ 20 * (l.length : Int)
theorem FoI.start (h : Hl) (fs : List Int) (T : Nat) : FoI h fs T [] 0 := ⟨okF_nil _, Nat.and_zero T, by show 0 + (wsR fs h.N (lkSets h) 0 0).2 ≤ _; omega, by simp⟩
theorem FoI.agr {h : Hl} {fs : List Int} {T : Nat} {l : List Fd} {tot : Int} (k : FoI h fs T l tot) (hT : T ∈ lkSets h) : 0 < (agr (lkSets h) (knL l).1 (knL l).2).length :=
 List.length_pos_of_mem (agr_mem.2 ⟨hT, k.ag⟩)
theorem FoI.step {h : Hl} {fs : List Int} {T : Nat} {l : List Fd} {tot : Int} (k : FoI h fs T l tot) (ko : OkH h) (kR : OkR fs h.N (lkSets h)) (h1 : 1 < (Go.Proofs.Ytclkjifgipcamaa.agr (lkSets h) (knL l).1 (knL l).2).length) :
  (wsR fs h.N (lkSets h) (knL l).1 (knL l).2).1 < h.N ∧ FoI h fs T (l ++ [((wsR fs h.N (lkSets h) (knL l).1 (knL l).2).1, T.testBit (wsR fs h.N (lkSets h) (knL l).1 (knL l).2).1)]) (tot + fs.getD (wsR fs h.N (lkSets h) (knL l).1 (knL l).2).1 0) := by
 obtain ⟨x, hx, hb, he⟩ := ws_step (N := h.N) (F := fsF fs) (m := frN (knL l).1 h.N) (setsD_nodup _ _) (fun s hs => lkSets_ltN ko hs) h1
 have hw : wsR fs h.N (lkSets h) (knL l).1 (knL l).2 = (x, wsX h.N (fsF fs) (lkSets h) (frN (knL l).1 h.N) (knL l).1 (knL l).2 x) := he
 have hn := ws_next (N := h.N) (F := fsF fs) (L := lkSets h) (m := frN (knL l).1 h.N) (r := (knL l).1) (q := (knL l).2) (x := x) (T.testBit x)
 rw [wsR_or _ hx hb] at hn
 have hle := k.le
 have hf := kR.f x hx
 rw [hw] at hle ⊢
 refine ⟨hx, k.ok.snoc hx hb, ?_, ?_, ?_⟩
 ·rw [knL_snoc]
  exact and_more k.ag
 ·rw [knL_snoc]
  have e : fsF fs x = fs.getD x 0 := rfl
  rw [e] at hn
  show tot + fs.getD x 0 + (wsR fs h.N (lkSets h) ((knL l).1 ||| 2 ^ x) (if T.testBit x = true then (knL l).2 ||| 2 ^ x else (knL l).2)).2 ≤ _
  dsimp only at hle
  omega
 ·have := k.b
  simp only [List.length_append, List.length_cons, List.length_nil]
  show 0 ≤ tot + fs.getD x 0 ∧ tot + fs.getD x 0 ≤ _
  omega
theorem FoI.last {h : Hl} {fs : List Int} {T : Nat} {l : List Fd} {tot : Int} (k : FoI h fs T l tot) (ko : OkH h) (hl : l.length = h.N) : ¬ 1 < (Go.Proofs.Ytclkjifgipcamaa.agr (lkSets h) (knL l).1 (knL l).2).length := by
 have h1 := k.ok.len l.length (Nat.le_refl _)
 rw [List.take_length] at h1
 have hall : ∀ n, n ≤ h.N → frN (knL l).1 n = 0 → ∀ x, x < n → (knL l).1.testBit x = true := by
  intro n
  induction n with
  | zero => intro _ _ x hx; exact absurd hx (Nat.not_lt_zero x)
  | succ n ih =>
    intro hn hz x hx
    simp only [frN] at hz
    by_cases e : x = n
    ·subst e
     by_cases hb : (knL l).1.testBit x = true
     ·exact hb
     ·rw [if_neg hb] at hz; omega
    ·exact ih (by omega) (by omega) x (by omega)
 have := agr_one (r := (knL l).1) (q := (knL l).2) (setsD_nodup (setL (allT h)) 6) (fun s hs => lkSets_ltN ko hs) (hall h.N (Nat.le_refl _) (by omega))
 show ¬ 1 < (Go.Proofs.Ytclkjifgipcamaa.agr (setsD (setL (allT h)) 6) (knL l).1 (knL l).2).length
 omega
def foR (h : Hl) (fs : List Int) (T : Nat) (H : Hp) : Res → Hp → Prop := fun r H' => ∃ (l : List Fd) (tot : Int), FoI h fs T l tot ∧ ¬ 1 < (Go.Proofs.Ytclkjifgipcamaa.agr (lkSets h) (knL l).1 (knL l).2).length ∧ r = .ret (.tuple [fdAV l, i64 tot, boo true]) ∧ H' = H
theorem foll_ret {h : Hl} {fs : List Int} {T : Nat} {H : Hp} {l : List Fd} {tot : Int} {i4 : Nat} {s : Fr} (hF : FoI h fs T l tot) (h1 : ¬ 1 < (Go.Proofs.Ytclkjifgipcamaa.agr (lkSets h) (knL l).1 (knL l).2).length) (h4 : H i4 = none)
  (s4 : s 4 = .sl i4 2 l.length) (s5 : s 5 = i64 tot) (s6 : s 6 = boo true) : FnPost Try.prog Try.f18 (dropR (foR h fs T H)) .ret s [] (H.set i4 (.row 2 l.length (fdF l))) := by
 refine fn_ent (Ent.freeze (id := i4) (st := 2) (n := l.length) (f := fdF l) (s' := put s (some 4) (fdAV l)) (Hp.set_same _ _ _) (fun t => ?_) ?_)
 ·simp only [put]
  split
  ·rename_i e; subst e; exact .inr ⟨s4, rfl⟩
  ·exact .inl rfl
 ·rw [Hp.del_set, Hp.del_none _ _ h4]
  refine Ent.ret ⟨rfl, ?_⟩
  rw [Try.results18]
  have e5 : put s (some 4) (fdAV l) 5 = i64 tot := s5
  have e6 : put s (some 4) (fdAV l) 6 = boo true := s6
  have e4 : put s (some 4) (fdAV l) 4 = fdAV l := rfl
  simp only [resA, e4, e5, e6]
  exact ⟨trivial, trivial, trivial, H, HSub_rfl, l, tot, hF, h1, rfl, rfl⟩
theorem foll_tri (h : Hl) (fs : List Int) (T : Nat) (H : Hp) (k : OkH h) (hT : T ∈ lkSets h) (hfl : fs.length = h.N) (hf : ∀ x, x < h.N → 1 ≤ fs.getD x 0 ∧ fs.getD x 0 ≤ 20) :
  Tri Try.prog (fnA 18) [.agg (rkC h fs), i64 (T : Nat)] H (foR h fs T H) := by
 have kR := okR_of k hf
 have nS := k.nS
 have hNe : h.N = h.sm.length := rfl
 have hT6 := lkSets_lt hT
 have hTA : 0 < (allT h).length := by
  obtain ⟨_, h2⟩ := mem_setsD.1 hT
  obtain ⟨b, hb, _⟩ := List.mem_map.1 h2
  exact List.length_pos_of_mem hb
 refine tri_vs (m := mset [4]) Try.func18 (by kernel_rfl) rfl (by simp only [List.length_append, List.length_cons, List.length_nil, Try.ntmps18]; decide) ?_
 simp only [vsAll, loadA, loadRow, partA, partOk, fieldAddrA, lenA, boxA, boxZ, opA, dstOk, nilA, nilSliceOp, argFr, Nat.reduceAdd, Nat.reduceLT, Nat.reduceEqDiff, Nat.reduceBEq, ↓reduceIte, eq_self, wtAll, Try.ntmps18]
 intro i4 hh_i4; (try simp only [Hp.set_none, ite_none] at hh_i4)
 have hpl1 : ∀ a b c : Int, Plain (.tuple [i64 a, i64 b, i64 c]) := fun a b c => .tuple fun q hq => by
  match q, hq with
  | 0, _ => exact .lit _
  | 1, _ => exact .lit _
  | 2, _ => exact .lit _
 have hnx : ∀ (l : List Fd) (tot : Int), FoI h fs T l tot → PTri Try.prog (fnA 63) [.agg (rkC h fs), .sl i4 2 l.length] (H.set i4 (.row 2 l.length (fdF l))) (if 1 < (Go.Proofs.Ytclkjifgipcamaa.agr (lkSets h) (knL l).1 (knL l).2).length then .tuple [i64 ((wsR fs h.N (lkSets h) (knL l).1 (knL l).2).1 : Nat), i64 (wsR fs h.N (lkSets h) (knL l).1 (knL l).2).2, i64 0] else .tuple [i64 0, i64 0, i64 4]) := fun l tot hF => by
  refine tri_borrow (args' := [.agg (rkC h fs), fdAV l]) rfl (fun q hq => ?_) ?_ (wnext_tri h fs l _ k hTA hfl hf hF.ok (hF.agr hT))
  ·match q, hq with
   | 0, _ => exact .same _
   | 1, _ => exact .hit (Hp.set_same _ _ _) (fun _ _ => rfl)
  ·split
   ·exact hpl1 _ _ _
   ·exact hpl1 _ _ _
 refine vs_loop (σ := List Fd × Int) (fun y => FoI h fs T y.1 y.2 ∧ y.1.length ≤ h.N) (fun y => [(1, i64 (T : Nat)), (2, .rptr 1 3 (fun _ => rkC h fs) 0 0), (4, .sl i4 2 y.1.length), (5, i64 y.2), (15, i64 fs.length), (16, i64 y.1.length)]) (fun y => H.set i4 (.row 2 y.1.length (fdF y.1))) (fun y => h.N - y.1.length) ([], 0) ⟨FoI.start h fs T, Nat.zero_le _⟩ ?_ ?_ fun y hy => ?_
 ·simp only [vsAll, argFr, Nat.reduceEqDiff, ↓reduceIte, eq_self, Int.natCast_zero]
 ·exact HSub_set (row_ext fun q hq => absurd hq (Nat.not_lt_zero q))
 ·obtain ⟨l, tot⟩ := y
  obtain ⟨hF, hll⟩ := hy
  simp only [] at hF hll
  have hb := hF.b
  have hn := hnx l tot hF
  simp only [vsAll, binA, binLitA, intA, opA, dstOk, Nat.reduceLT, Nat.reduceEqDiff, ↓reduceIte, eq_self]
  refine condD (fun hd => ?_) (fun hd => ?_)
  ·have hil : l.length < h.N := by ((try clear hh_i4); omega)
   by_cases h1 : 1 < (Go.Proofs.Ytclkjifgipcamaa.agr (lkSets h) (knL l).1 (knL l).2).length
   ·rw [if_pos h1] at hn
    obtain ⟨hx, hF2⟩ := hF.step k kR h1
    generalize hw : wsR fs h.N (lkSets h) (knL l).1 (knL l).2 = w at *
    obtain ⟨x, n⟩ := w
    simp only [] at hx hF2 hn
    have hfx := hf x hx
    simp only [vsAll, loadA, loadRow, partA, partOk, okAll, stAll, opsA, opA, dstOk, Nat.reduceLT, Nat.reduceEqDiff, ↓reduceIte, eq_self, wtAll]
    refine callK_pure hn ?_
    have c1 : decide ((x : Int) < 0) = false := decide_eq_false (by ((try clear hh_i4); omega))
    have c2 : decide ((fs.length : Int) ≤ (x : Int)) = false := decide_eq_false (by ((try clear hh_i4); omega))
    simp only [vsAll, binA, binLitA, intA, loadA, loadRow, partA, partOk, fieldAddrA, indexAddrA, extractA, lenA, cellA, cellsA, fillA, okParts, buildSliceA, partIdx, elemsA, lensA, pickA, partsA, partsOk, opA, appendA, guardV, dstOk, nilSliceOp, Nat.reduceAdd, Nat.reduceMul, Nat.reduceLT, Nat.reduceLeDiff, Nat.reduceEqDiff, Nat.reduceBEq, Int.reduceLE, Int.reduceEq, Int.reduceToNat, ↓reduceIte, implies_true, eq_self, wtAll, c1, c2]
    have hdv : (T : Int) / 2 ^ x = ((T / 2 ^ x : Nat) : Int) := by simp
    have hdl : T / 2 ^ x ≤ T := Nat.div_le_self _ _
    have hbt : decide (((((T : Nat) : Int) / 2 ^ x).toNat &&& 1 : Nat) = (1 : Int)) = T.testBit x := bit_eq T x
    have hI : InR .i64 ((T / 2 ^ x : Nat) : Int) := by
     generalize T / 2 ^ x = z at *
     simp only [InR_i64]; ((try clear hh_i4); omega)
    have hI0 : (0 : Int) ≤ ((T / 2 ^ x : Nat) : Int) := Int.natCast_nonneg _
    rw [← hdv] at hI hI0
    have ea := app_lF (fun p : Fd => [i64 (p.1 : Nat), boo p.2]) fd0 l (x, T.testBit x) (fun i => [[i64 (x : Nat), boo (T.testBit x)]].getD i []) rfl
    have ea : appF l.length 1 (fdF l) (fun i => [[i64 (x : Nat), boo (T.testBit x)]].getD i []) = fdF (l ++ [(x, T.testBit x)]) := ea
    rw [hbt]
    simp only [vsAll, eq_self, intF_at]
    refine ⟨⟨by ((try clear hh_i4); omega), by ((try clear hh_i4); omega), by trivial⟩, ⟨hI0, hI, by simp only [InR_i64]; ((try clear hh_i4); omega)⟩, fun q hq => by (have : q = 0 := by ((try clear hh_i4); omega)); subst this; exact ⟨rfl, rfl, trivial⟩, by ((try clear hh_i4); omega), by ((try clear hh_i4); omega), ⟨by ((try clear hh_i4); omega), by ((try clear hh_i4); omega)⟩, by ((try clear hh_i4); omega), by simp only [InR_i64]; ((try clear hh_i4); omega), by simp only [InR_i64]; ((try clear hh_i4); omega),
     loop_next (l ++ [(x, T.testBit x)], tot + fs.getD x 0) ⟨hF2, by simp only [List.length_append, List.length_cons, List.length_nil]; ((try clear hh_i4); omega)⟩ (by simp only [List.length_append, List.length_cons, List.length_nil]; ((try clear hh_i4); omega)) ?_ ?_⟩
    ·simp only [vsAll, Nat.reduceEqDiff, ↓reduceIte, eq_self, List.length_append, Int.natCast_add, Int.natCast_one]
    ·rw [ea, Hp.set_set]
     simp only [List.length_append, List.length_cons, List.length_nil]
     exact HSub_rfl
   ·rw [if_neg h1] at hn
    simp only [vsAll, loadA, loadRow, partA, partOk, okAll, stAll, opsA, opA, dstOk, Nat.reduceLT, Nat.reduceEqDiff, ↓reduceIte, eq_self, wtAll]
    refine callK_pure hn ?_
    simp only [vsAll, binA, binLitA, intA, extractA, opA, dstOk, nilSliceOp, Nat.reduceAdd, Nat.reduceLT, Nat.reduceEqDiff, Nat.reduceBEq, ↓reduceIte, eq_self]
    exact foll_ret hF h1 hh_i4 (by simp only [vsAll, Nat.reduceEqDiff, ↓reduceIte, eq_self]) (by simp only [vsAll, Nat.reduceEqDiff, ↓reduceIte, eq_self]) (by simp only [vsAll, ↓reduceIte, eq_self])
  ·have el : l.length = h.N := by ((try clear hh_i4); omega)
   have h1 := hF.last k el
   rw [if_neg h1] at hn
   simp only [vsAll, loadA, loadRow, partA, partOk, okAll, stAll, opsA, opA, dstOk, Nat.reduceLT, Nat.reduceEqDiff, ↓reduceIte, eq_self, wtAll]
   refine callK_pure hn ?_
   simp only [vsAll, binA, binLitA, intA, extractA, opA, dstOk, nilSliceOp, Nat.reduceAdd, Nat.reduceLT, Nat.reduceEqDiff, Nat.reduceBEq, ↓reduceIte, eq_self]
   exact foll_ret hF h1 hh_i4 (by simp only [vsAll, Nat.reduceEqDiff, ↓reduceIte, eq_self]) (by simp only [vsAll, Nat.reduceEqDiff, ↓reduceIte, eq_self]) (by simp only [vsAll, ↓reduceIte, eq_self])
end Go.Proofs.Ytclkjifgipcamaa
end
section
set_option linter.unusedVariables false
set_option linter.unusedSimpArgs false
namespace Go.V
set_option linter.unusedSectionVars false
variable [Inhabited GivT]
/-- What one cell holds. -/
inductive CK where
 | int (k : IntKind)
 | bool
 | sl (ks : List CK)

/-- The cells of a type. -/
def cellsT (P : Program) : Nat → TypeId → Option (List CK)
 | 0, _ => none
 | d + 1, t => match P.underlying t with
   | some .bool => some [.bool]
   | some (.int k) => some [.int k]
   | some (.slice e) => match cellsT P d e with
     | some ks => if P.cellsOf e = ks.length ∧ 0 < ks.length then some [.sl ks] else none
     | none => none
   | some (.array n e) => match cellsT P d e with
     | some ks => if P.cellsOf e = ks.length ∧ P.cellsOf t = n * ks.length then some ((List.replicate n ks).flatten) else none
     | none => none
   | some (.struct fs) => match fs.toList.foldl (fun acc f => match acc with
     | some ks => match cellsT P d f.type with
       | some l => if f.offset = ks.length ∧ P.cellsOf f.type = l.length then some (ks ++ l) else none
       | none => none
     | none => none) (some []) with
     | some ks => if P.cellsOf t = ks.length then some ks else none
     | none => none
   | _ => none

/-- Such an abstract value. -/
inductive CKA : CK → AV → Prop
 | int {k : IntKind} {z : Int} (h : (Lit.int k z).wf = true) : CKA (.int k) (.lit (.int k z))
 | bool {b : Bool} : CKA .bool (.lit (.bool b))
 | sl {ks : List CK} {n : Nat} {f : Nat → List AV} (hn : n ≤ maxLen) (hl : ∀ i, i < n → (f i).length = ks.length) (h : ∀ i j k, i < n → ks[j]? = some k → CKA k ((f i).getD j .any)) : CKA (.sl ks) (.rsl n ks.length f)

def CellIs (W : World) (k : CK) (v : Value) : Prop := ∃ av, CKA k av ∧ VRel (st0 W) av v
def CellsOk (W : World) (ks : List CK) (cs : List Value) : Prop := cs.length = ks.length ∧ ∀ (i : Nat) (k : CK) (v : Value), ks[i]? = some k → cs[i]? = some v → CellIs W k v

theorem CellsOk.append {W : World} {ks ls : List CK} {cs ds : List Value} (h : CellsOk W ks cs) (h' : CellsOk W ls ds) : CellsOk W (ks ++ ls) (cs ++ ds) := by
 refine ⟨by simp [h.1, h'.1], fun i k v hk hv => ?_⟩
 by_cases hi : i < ks.length
 ·rw [List.getElem?_append_left hi] at hk
  rw [List.getElem?_append_left (by rw [h.1]; exact hi)] at hv
  exact h.2 i k v hk hv
 ·rw [List.getElem?_append_right (by omega)] at hk
  rw [List.getElem?_append_right (by rw [h.1]; omega), h.1] at hv
  exact h'.2 _ k v hk hv

end Go.V
end
section
set_option linter.unusedVariables false
set_option linter.unusedSimpArgs false
namespace Go.V
set_option linter.unusedSectionVars false
variable [Inhabited GivT]
open Go.ChangeShapes
theorem AV.Le.aggD {cs ds : List AV} (hl : ds.length = cs.length) (h : ∀ j, j < cs.length → AV.Le (cs.getD j .any) (ds.getD j .any)) : AV.Le (.agg cs) (.agg ds) := by
 intro S v hv
 cases hv with
 | agg hn hh => exact .agg (hn.trans hl.symm) fun k hk => h k (by omega) _ _ (hh k (by omega))

/-- Cells that are told. -/
def Told (ks : List CK) (cs : List AV) : Prop := cs.length = ks.length ∧ ∀ j k, ks[j]? = some k → CKA k (cs.getD j .any)

end Go.V
end
section
set_option linter.unusedVariables false
set_option linter.unusedSimpArgs false
namespace Go.V
set_option linter.unusedSectionVars false
variable [Inhabited GivT]
section
variable {P : Program} {m : Option Tmp → Bool} {n : Nat} {k : List It} {s : Fr} {ds : List AD} {H : Hp} {Q : Post}
end
/-- A result of which less is said. -/
theorem Tri.resLe {P : Program} {fv : AV} {args : List AV} {H : Hp} {R1 R : Res → Hp → Prop} (h : Tri P fv args H R1)
  (hR : ∀ r H', R1 r H' → R r H' ∨ ∃ v v', r = .ret v ∧ AV.Le v v' ∧ R (.ret v') H') : Tri P fv args H R := by
 intro S vf vs hH hvf ha
 obtain ⟨nx, h1, h2⟩ := h S vf vs hH hvf ha
 have ho : ∀ e w, Out S R1 e w → Out S R e w := by
  rintro e w ⟨S', r, H', hw, hle, hH', hres, hr⟩
  rcases hR r H' hr with hr | ⟨v, v', rfl, hl, hr⟩
  ·exact ⟨S', r, H', hw, hle, hH', hres, hr⟩
  ·cases e with
   | returned cv => exact ⟨S', .ret v', H', hw, hle, hH', hl _ _ hres, hr⟩
   | _ => exact hres.elim
 refine ⟨nx, h1, ?_⟩
 cases nx <;> simp only [NextOk] at h2 ⊢
 ·exact Calls.mono h2 ho
 ·exact h2.mono ho
end Go.V
end
section
set_option linter.unusedVariables false
set_option linter.unusedSimpArgs false
set_option maxHeartbeats 4000000
set_option maxRecDepth 100000
namespace Go.Proofs.Ytclkjifgipcamaa
open Go.V
def smp : Hl := ⟨[⟨2, 0, 3⟩, ⟨5, -1, 2⟩, ⟨5, 1, 4⟩], [⟨3, 0, 1, 2⟩, ⟨6, 0, 4, 4⟩]⟩
theorem smp_ok : OkH smp := by
 refine ⟨by decide, by decide, by decide, fun i hi => ?_, fun i hi => ?_⟩
 ·match i, hi with
  | 0, _ => decide
  | 1, _ => decide
  | 2, _ => decide
 ·match i, hi with
  | 0, _ => decide
  | 1, _ => decide
theorem smp_T : 0 < (allT smp).length := by decide +kernel
theorem smp_sets : lkSets smp = [3, 5, 7] := by decide +kernel
theorem smp_agr : 0 < (agr (lkSets smp) 0 0).length := by rw [smp_sets]; decide +kernel
theorem smp_ws : (wsR [4, 3, 5] smp.N (lkSets smp) 0 0).2 = 8 := by rw [smp_sets]; decide +kernel
theorem smp_fs : ∀ x, x < smp.N → 1 ≤ ([4, 3, 5] : List Int).getD x 0 ∧ ([4, 3, 5] : List Int).getD x 0 ≤ 20 := fun x hx => by
 match x, hx with
 | 0, _ => decide
 | 1, _ => decide
 | 2, _ => decide
theorem hull_tri (H : Hp) : PTri Try.prog (fnA 72) [] H smp.av := by
 have h1 : AV.Le (.rsl 3 3 fun i => [[i64 2, i64 0, i64 3], [i64 5, i64 (-1), i64 2], [i64 5, i64 1, i64 4]].getD i []) (lkAV smp.sm) := .rsl fun i hi => by
  match i, hi with
  | 0, _ => rfl
  | 1, _ => rfl
  | 2, _ => rfl
 have h2 : AV.Le (.rsl 2 4 fun i => [[i64 3, i64 0, i64 1, i64 2], [i64 6, i64 0, i64 4, i64 4]].getD i []) (lsAV smp.so) := .rsl fun i hi => by
  match i, hi with
  | 0, _ => rfl
  | 1, _ => rfl
 refine Tri.resLe (R1 := fun r H' => r = .ret (.agg [.rsl 3 3 fun i => [[i64 2, i64 0, i64 3], [i64 5, i64 (-1), i64 2], [i64 5, i64 1, i64 4]].getD i [], .rsl 2 4 fun i => [[i64 3, i64 0, i64 1, i64 2], [i64 6, i64 0, i64 4, i64 4]].getD i []]) ∧ H' = H) ?_ ?_
 ·refine Tri.drop ?_
  refine tri_v0 (mset [0]) Try.func72 (by kernel_rfl) rfl (by simp only [List.length_append, List.length_nil, Try.ntmps72]; decide) ?_
  simp only [vsAll, cellA, cellsA, fillA, okParts, buildSliceA, partIdx, elemsA, lensA, okAll, stAll, opsA, partsA, partsOk, opA, allocA, dstOk, Nat.reduceAdd, Nat.reduceMul, Nat.reduceLT, Nat.reduceLeDiff, Nat.reduceEqDiff, Nat.reduceBEq, Int.reduceNeg, ↓reduceIte, eq_self, wtAll, Try.ntmps72]
  intro i0 hh_i0; (try simp only [Hp.set_none, ite_none] at hh_i0)
  refine callK_pure (span_tri _ _ _) ?_
  simp only [vsAll, cellA, cellsA, fillA, okParts, okAll, stAll, opsA, partsA, partsOk, opA, dstOk, Nat.reduceAdd, Nat.reduceLT, Nat.reduceLeDiff, Int.reduceNeg, ↓reduceIte, eq_self, wtAll]
  refine callK_pure (span_tri _ _ _) ?_
  simp only [vsAll, loadA, loadRow, partA, partOk, cellA, cellsA, fillA, okParts, buildSliceA, partIdx, elemsA, lensA, partsA, partsOk, opA, newCells, okCells, storeObj, dstOk, resA, retA.eq_1, Nat.reduceAdd, Nat.reduceMul, Nat.reduceLT, Nat.reduceLeDiff, Nat.reduceEqDiff, Nat.reduceBEq, Int.reduceNeg, ↓reduceIte, reduceCtorEq, eq_self, wtAll, Try.results72]
  exact dropR_pure rfl (by (repeat (first | exact HSub_rfl | refine HSub_put_eq (by simp only [vsAll, ↓reduceIte, eq_self, reduceCtorEq, Nat.reduceEqDiff, hh_i0]) ?_ | refine HSub_drop2 (by simp only [eq_self, hh_i0]) ?_ | refine HSub_keep_eq (by simp only [vsAll, ↓reduceIte, eq_self, reduceCtorEq, Nat.reduceEqDiff, hh_i0]) ?_)))
 ·rintro r H' ⟨rfl, rfl⟩
  refine .inr ⟨_, smp.av, rfl, .aggD rfl fun j hj => ?_, rfl, rfl⟩
  match j, hj with
  | 0, _ => exact h1
  | 1, _ => exact h2
theorem alive_tri (H : Hp) : PTri Try.prog (fnA 23) [] H (boo true) := by
 refine tri_v0 (fun _ => false) Try.func23 (by kernel_rfl) rfl (by simp only [List.length_append, List.length_nil, Try.ntmps23]; decide) ?_
 simp only [vsAll, okAll, stAll, opsA, opA, dstOk, nilSliceOp, Nat.reduceLT, eq_self, Try.ntmps23]
 refine callK_pure (hull_tri _) ?_
 simp only [vsAll, okAll, stAll, opsA, opA, dstOk, Nat.reduceLT, ↓reduceIte, eq_self]
 refine callK_pure (wlsets_tri smp _ smp_ok smp_T) ?_
 simp only [vsAll, extractA, okAll, stAll, opsA, opA, dstOk, nilSliceOp, Nat.reduceAdd, Nat.reduceLT, Nat.reduceEqDiff, ↓reduceIte, eq_self]
 refine callK_pure (hull_tri _) ?_
 simp only [vsAll, cellA, cellsA, fillA, okParts, buildSliceA, partIdx, elemsA, lensA, okAll, stAll, opsA, partsA, partsOk, opA, dstOk, Nat.reduceAdd, Nat.reduceMul, Nat.reduceLT, Nat.reduceLeDiff, Nat.reduceEqDiff, ↓reduceIte, eq_self, wtAll]
 have h3 : ∀ a b c : Int, AV.Le (.rsl 3 1 fun i => [[i64 a], [i64 b], [i64 c]].getD i []) (intsAV [a, b, c]) := fun a b c => .rsl fun i hi => by
  match i, hi with
  | 0, _ => rfl
  | 1, _ => rfl
  | 2, _ => rfl
 have es : (lkSets smp).map (fun s : Nat => (s : Int)) = [3, 5, 7] := by rw [smp_sets]; rfl
 refine callK_pure (Tri.args (wworst_tri smp [4, 3, 5] _ smp_ok smp_T rfl smp_fs smp_agr) rfl fun q hq => ?_) ?_
 ·match q, hq with
  | 0, _ =>
    refine .aggD rfl fun j hj => ?_
    match j, hj with
    | 0, _ => exact .refl _
    | 1, _ => exact .refl _
    | 2, _ => exact h3 4 3 5
 have ew := smp_ws
 rw [ew]
 simp only [vsAll, extractA, cellA, cellsA, okParts, buildSliceA, partIdx, elemsA, lensA, okAll, stAll, opsA, partsA, partsOk, opA, dstOk, nilSliceOp, Nat.reduceAdd, Nat.reduceMul, Nat.reduceLT, Nat.reduceLeDiff, Nat.reduceEqDiff, ↓reduceIte, eq_self, wtAll]
 rw [es]
 refine callK_pure (Tri.args (ints_tri [3, 5, 7] _ (by decide)) rfl fun q hq => ?_) ?_
 ·match q, hq with
  | 0, _ => exact .refl _
  | 1, _ => exact h3 3 5 7
 simp only [vsAll, binA, binLitA, intA, pickA, opA, guardV, dstOk, nilSliceOp, resA, retA.eq_1, Nat.reduceAdd, Nat.reduceLT, Nat.reduceEqDiff, ↓reduceIte, implies_true, eq_self, Try.results23]
end Go.Proofs.Ytclkjifgipcamaa
end
section
set_option linter.unusedVariables false
set_option linter.unusedSimpArgs false
set_option maxHeartbeats 4000000
set_option maxRecDepth 100000
namespace Go.Proofs.Ytclkjifgipcamaa
open Go.V
def dryK (T : Nat) (i q : Nat) (x : Lk) : Lk := if q < i ∧ T.testBit q = false then ⟨x.ht, x.sd, 0⟩ else x
def dryL (sm : List Lk) (T i : Nat) : List Lk := (List.range sm.length).map fun q => dryK T i q (sm.getD q lk0)
theorem dryL_len (sm : List Lk) (T i : Nat) : (dryL sm T i).length = sm.length := by simp [dryL]
theorem dryL_at (sm : List Lk) (T i : Nat) {q : Nat} (hq : q < sm.length) : (dryL sm T i).getD q lk0 = dryK T i q (sm.getD q lk0) := by
 simp [dryL, List.getD_eq_getElem?_getD, hq]
def dryH (h : Hl) (T : Nat) : Hl := ⟨dryL h.sm T h.sm.length, h.so⟩
theorem dryH_N (h : Hl) (T : Nat) : (dryH h T).N = h.N := dryL_len _ _ _
theorem dryH_seam (h : Hl) (T : Nat) {q : Nat} (hq : q < h.N) : (dryH h T).seam q = if T.testBit q = false then ⟨(h.seam q).ht, (h.seam q).sd, 0⟩ else h.seam q := by
 show (dryL h.sm T h.sm.length).getD q lk0 = _
 rw [dryL_at _ _ _ hq]
 unfold dryK
 have : q < h.sm.length := hq
 simp only [this, true_and]
 rfl
theorem dryH_snd (h : Hl) (T : Nat) (q : Nat) : (dryH h T).snd q = h.snd q := rfl
theorem dryH_M (h : Hl) (T : Nat) {q : Nat} (hq : q < h.N) : (dryH h T).M q = if T.testBit q = false then 0 else h.M q := by
 unfold Hl.M
 rw [dryH_seam h T hq]
 split <;> rfl
theorem dryH_ok {h : Hl} (k : OkH h) (T : Nat) : OkH (dryH h T) := by
 have e : (dryH h T).sm.length = h.sm.length := dryL_len _ _ _
 refine ⟨by rw [e]; exact k.n1, by rw [e]; exact k.nS, k.nQ, fun i hi => ?_, k.q⟩
 rw [e] at hi
 have := k.s i hi
 rw [dryH_seam h T hi]
 split
 ·exact ⟨this.1, this.2.1, by show (0 : Int) ≤ 0 ∧ (0 : Int) ≤ 4; omega⟩
 ·exact this
theorem dryH_wet (h : Hl) (T : Nat) (d l : Int) : ∀ i, i ≤ h.N → wetN (dryH h T) d l i = wetN h d l i
 | 0, _ => rfl
 | i + 1, hi => by
   have ih := dryH_wet h T d l i (by omega)
   have e : wetB (dryH h T) d l i = wetB h d l i := by
    unfold wetB
    rw [dryH_seam h T (show i < h.N by omega)]
    split <;> rfl
   simp only [wetN, e, ih]
theorem dryH_wetS (h : Hl) (T : Nat) (d l : Int) : wetS (dryH h T) d l = wetS h d l := by
 unfold wetS
 rw [dryH_N]
 exact dryH_wet h T d l h.N (Nat.le_refl _)
theorem dry_tru {h : Hl} {T : Nat} {l : List Int} (t : Tru (dryH h T) l) : Tru h l := by
 have hN := dryH_N h T
 refine ⟨by rw [t.len, hN], fun i hi => ?_, fun q hq => ?_⟩
 ·have := t.at_ i (by rw [hN]; exact hi)
  rw [dryH_M h T hi] at this
  split at this <;> omega
 ·have := t.so q hq
  rw [dryH_wetS, dryH_snd, hN] at this
  exact this
theorem lk_bit (l : List Int) (n j : Nat) : (lksN l n).testBit j = (decide (j < n) && decide (0 < l.getD j 0)) := bitN_bit _ j n
theorem lk_six {l : List Int} {n : Nat} (hl : l.length = n) (hn : n ≤ 6) : lksN l 6 = lksN l n := Nat.eq_of_testBit_eq fun j => by
 rw [lk_bit, lk_bit]
 by_cases h : j < n
 ·rw [decide_eq_true h, decide_eq_true (show j < 6 by omega)]
 ·have : l.getD j 0 = 0 := by rw [List.getD_eq_getElem?_getD, List.getElem?_eq_none (by omega)]; rfl
  rw [this]; simp
theorem dry_self {h : Hl} {u : List Int} (t : Tru h u) : Tru (dryH h (lksN u h.N)) u := by
 have hN := dryH_N h (lksN u h.N)
 refine ⟨by rw [t.len, hN], fun i hi => ?_, fun q hq => ?_⟩
 ·rw [hN] at hi
  have := t.at_ i hi
  rw [dryH_M h _ hi, lk_bit, decide_eq_true hi, Bool.true_and]
  split
  ·rename_i h0
   rw [decide_eq_false_iff_not] at h0
   omega
  ·exact this
 ·have := t.so q hq
  rw [dryH_wetS, dryH_snd, hN]
  exact this
/-- No seam leaks there but those that let water in. -/
theorem dry_sub {h : Hl} {T : Nat} {l : List Int} (t : Tru (dryH h T) l) {j : Nat} (hb : (lksN l 6).testBit j = true) : T.testBit j = true := by
 rw [lk_bit, Bool.and_eq_true, decide_eq_true_eq, decide_eq_true_eq] at hb
 by_cases hj : j < h.N
 ·have := t.at_ j (by rw [dryH_N]; exact hj)
  rw [dryH_M h T hj] at this
  cases hT : T.testBit j with
  | true => rfl
  | false => rw [if_pos hT] at this; omega
 ·have : l.getD j 0 = 0 := by rw [List.getD_eq_getElem?_getD, List.getElem?_eq_none (by rw [t.len, dryH_N]; omega)]; rfl
  omega
theorem orM_bit (L : List (List Int)) (j : Nat) : ∀ i, (orM L i).testBit j = true ↔ ∃ q, q < i ∧ (lksN (L.getD q []) 6).testBit j = true
 | 0 => by simp [orM]
 | i + 1 => by
   simp only [orM]
   rw [Nat.testBit_or, Bool.or_eq_true, orM_bit L j i]
   constructor
   ·rintro (⟨q, hq, h⟩ | h)
    ·exact ⟨q, by omega, h⟩
    ·exact ⟨i, by omega, h⟩
   ·rintro ⟨q, hq, h⟩
    by_cases e : q = i
    ·subst e; exact .inr h
    ·exact .inl ⟨q, by omega, h⟩
theorem mem_getDL {L : List (List Int)} {l : List Int} (h : l ∈ L) : ∃ q, q < L.length ∧ L.getD q [] = l := by
 obtain ⟨q, hq, rfl⟩ := List.getElem_of_mem h
 exact ⟨q, hq, by rw [List.getD_eq_getElem?_getD, List.getElem?_eq_getElem hq]; rfl⟩
theorem dry_or {h : Hl} (k : OkH h) {u : List Int} (t : Tru h u) : orM (allT (dryH h (lksN u h.N))) (allT (dryH h (lksN u h.N))).length = lksN u h.N := by
 have hN2 : 0 < (dryH h (lksN u h.N)).N := by rw [dryH_N]; exact k.n1
 refine Nat.eq_of_testBit_eq fun j => ?_
 rw [Bool.eq_iff_iff, orM_bit]
 constructor
 ·rintro ⟨q, hq, hb⟩
  exact dry_sub ((mem_all hN2).1 (getD_mem hq)) hb
 ·intro hb
  obtain ⟨q, hq, e⟩ := mem_getDL ((mem_all hN2).2 (dry_self t))
  exact ⟨q, hq, by rw [e, lk_six t.len k.nS]; exact hb⟩
theorem dry_sets {h : Hl} (k : OkH h) {T s : Nat} (hs : s ∈ lkSets (dryH h T)) {j : Nat} (hb : s.testBit j = true) : T.testBit j = true := by
 have hN2 : 0 < (dryH h T).N := by rw [dryH_N]; exact k.n1
 obtain ⟨_, h2⟩ := mem_setsD.1 hs
 obtain ⟨l, hl, rfl⟩ := List.mem_map.1 h2
 exact dry_sub ((mem_all hN2).1 hl) hb
theorem dry_pos {h : Hl} (k : OkH h) {u : List Int} (t : Tru h u) : 0 < (allT (dryH h (lksN u h.N))).length :=
 List.length_pos_of_mem ((mem_all (by rw [dryH_N]; exact k.n1)).2 (dry_self t))
theorem tru_pos {h : Hl} (k : OkH h) {u : List Int} (t : Tru h u) : 0 < (allT h).length := List.length_pos_of_mem ((mem_all k.n1).2 t)
theorem dry_flow {h : Hl} (k : OkH h) {u : List Int} (t : Tru h u) (d l : Int) : (flV h d l).1 ≤ (flV (dryH h (lksN u h.N)) d l).1 ∧ (flV (dryH h (lksN u h.N)) d l).2 ≤ (flV h d l).2 := by
 unfold flV
 rw [dryH_wetS]
 exact spnV_sub (dry_pos k t) fun b hb => (mem_all k.n1).2 (dry_tru ((mem_all (by rw [dryH_N]; exact k.n1)).1 hb))
theorem set_mem {h : Hl} (k : OkH h) {u : List Int} (t : Tru h u) : lksN u h.N ∈ lkSets h := by
 have e := lk_six t.len k.nS
 have hlt := lksN_lt u 6
 rw [e] at hlt
 exact mem_setsD.2 ⟨hlt, List.mem_map.2 ⟨u, (mem_all k.n1).2 t, e⟩⟩
theorem agr_eq {h : Hl} {r q T : Nat} (hT : T ∈ lkSets h) (ha : T &&& r = q) (h1 : ¬ 1 < (agr (lkSets h) r q).length) : agr (lkSets h) r q = [T] := by
 have hm := agr_mem.2 ⟨hT, ha⟩
 match hq : agr (lkSets h) r q, hm, h1 with
 | [x], hm, _ => rw [List.mem_singleton] at hm; rw [hm]
 | x :: y :: z, _, h1 => exact absurd (by simp) h1
end Go.Proofs.Ytclkjifgipcamaa
end
