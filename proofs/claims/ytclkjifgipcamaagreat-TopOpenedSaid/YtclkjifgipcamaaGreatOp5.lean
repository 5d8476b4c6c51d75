/- Helper lemmas of this claim, part 5. -/
import Derived.Test.YtclkjifgipcamaaGreatOp4
section
set_option linter.unusedVariables false
set_option linter.unusedSimpArgs false
set_option maxHeartbeats 8000000
set_option maxRecDepth 100000
namespace Go.Proofs.YtclkjifgipcamaaGreat
open Go.V
abbrev Dr.lo (d : Dr) (s : Nat) : Int := (d.bl.getD s (0, 0)).1
abbrev Dr.hi (d : Dr) (s : Nat) : Int := (d.bl.getD s (0, 0)).2
def Dr.cn (d : Dr) (s : Nat) : Nat := (d.hi s - d.lo s + 1).toNat
def bwL (d : Dr) : Nat → List Int → List (List Int)
 | 0, b => [b]
 | n + 1, b => (List.range (d.cn b.length)).flatMap fun j : Nat => bwL d n (b ++ [d.lo b.length + (j : Int)])
def allB (d : Dr) : List (List Int) := bwL d d.lim.length []
def bwR (d : Dr) (n : Nat) (b : List Int) (i : Nat) : List (List Int) := ((List.range (d.cn b.length)).drop i).flatMap fun j : Nat => bwL d n (b ++ [d.lo b.length + (j : Int)])
theorem bwR_step {d : Dr} {n : Nat} {b : List Int} {i : Nat} (hi : i < d.cn b.length) : bwR d n b i = bwL d n (b ++ [d.lo b.length + (i : Int)]) ++ bwR d n b (i + 1) := by
 unfold bwR
 rw [List.drop_eq_getElem_cons (by simpa using hi), List.flatMap_cons, List.getElem_range]
theorem bwR_end (d : Dr) (n : Nat) (b : List Int) : bwR d n b (d.cn b.length) = [] := by
 unfold bwR
 rw [List.drop_eq_nil_of_le (by simp)]; rfl
def ylI (L : List (List Int)) : List (List AV) := L.map fun l => [intsAV l]
theorem ylI_app (L M : List (List Int)) : ylI (L ++ M) = ylI L ++ ylI M := by simp [ylI]
abbrev rhB (d : Dr) (l : List (Nat × Bool)) : AV := .rptr 1 1 (fun _ => [rH d l]) 0 0
abbrev onB (d : Dr) (l : List (Nat × Bool)) (io : Nat) (yf : Fn) : AV := .func (.func 91) [] [rhB d l, .rptr 1 1 (fun _ => [.func yf [] []]) 0 0, .ref io 0 1 0 0]
theorem on_call {fv : AV} {b : List Int} {z : Int} {id1 : Nat} {X : Hp} {F : Nat → List AV} {R : Res → Hp → Prop} (hF : ∀ i, i < b.length + 1 → F i = intF (b ++ [z]) i) (h1 : X id1 = some (.row 1 (b.length + 1) F))
  (h : Tri Tryz.prog fv [intsAV (b ++ [z])] (X.del id1) R) : Tri Tryz.prog fv [.sl id1 1 (b.length + 1)] X R := by
 refine tri_freezeD (args' := [intsAV (b ++ [z])]) h1 rfl (fun k hk => ?_) h
 match k, hk with
 | 0, _ =>
   have hl : (b ++ [z]).length = b.length + 1 := by simp
   show FrzD _ _ _ _ (AV.sl id1 1 (b.length + 1)) (AV.rsl (b ++ [z]).length 1 (intF (b ++ [z])))
   rw [hl]; exact .hit hF
theorem hseams_tri (d : Dr) (l : List (Nat × Bool)) (H : Hp) : PTri Tryz.prog (fnA 53) [rH d l] H (i64 d.lim.length) := by
 refine tri_v0 (fun _ => false) Tryz.func53 (by kernel_rfl) rfl (by simp only [List.length_append, List.length_cons, List.length_nil, Tryz.ntmps53]; decide) ?_
 simp only [vsAll, loadA, loadRow, partA, partOk, fieldAddrA, lenA, nilCheckA, opA, dstOk, nilSliceOp, resA, argFr, retA.eq_1, Nat.reduceLT, ↓reduceIte, reduceCtorEq, eq_self, wtAll, Tryz.ntmps53, Tryz.results53]
theorem bon_tri {d : Dr} {l : List (Nat × Bool)} (k : OkD d) {io : Nat} {yf : Fn} {K : Hp → Prop} :
  ∀ (n : Nat) (b : List Int) (A E : Hp) (L2 : List (List AV)), b.length + n = d.lim.length → Apart A E → E io = some (.box 1 1 fun _ => [onB d l io yf]) →
    IterE Tryz.prog (.func yf [] []) (ylI (bwL d n b) ++ L2) A K →
    Tri Tryz.prog (onB d l io yf) [intsAV b] (mrg A E) fun r H' => r = .ret (boo true) ∧ ∃ H1, Apart H1 E ∧ H' = mrg H1 E ∧ IterE Tryz.prog (.func yf [] []) L2 H1 K := by
 have n6 := k.n6
 have nb := k.nb
 intro n
 induction n with
 | zero =>
   intro b A E L2 hl ap ho hit
   have hit2 : IterE Tryz.prog (.func yf [] []) ([intsAV b] :: L2) A K := hit
   have hlen : (b.length : Int) = d.lim.length := by omega
   refine Tri.drop ?_
   refine tri_v0 (mset []) Tryz.func91 (by kernel_rfl) rfl (by simp only [List.length_append, List.length_cons, List.length_nil, Tryz.ntmps91]; decide) ?_
   simp only [vsAll, loadA, loadRow, partA, partOk, lenA, okAll, stAll, opsA, opA, dstOk, nilSliceOp, argFr, Nat.reduceLT, Nat.reduceEqDiff, ↓reduceIte, reduceCtorEq, eq_self, wtAll, Tryz.ntmps91]
   refine callK_pure (hseams_tri d l _) ?_
   simp only [vsAll, binA, binLitA, intA, opA, dstOk, Nat.reduceLT, Nat.reduceEqDiff, ↓reduceIte, eq_self]
   refine condD (fun hd => ?_) (fun hd => absurd hlen hd)
   simp only [vsAll, loadA, loadRow, partA, partOk, okAll, stAll, opsA, opA, dstOk, argFr, Nat.reduceLT, Nat.reduceEqDiff, ↓reduceIte, reduceCtorEq, eq_self, wtAll]
   refine callK (hit2 E ap) ?_
   rintro r H' ⟨rfl, H1, a1, rfl, a3⟩
   simp only [vsAll, opA, dstOk, nilSliceOp, resA, retA.eq_1, Nat.reduceLT, ↓reduceIte, eq_self, Tryz.results91]
   exact ⟨_, HSub_rfl, rfl, H1, a1, rfl, a3⟩
 | succ n ih =>
   intro b A E L2 hl ap ho hit
   have hbl : b.length < d.lim.length := by omega
   have hne : ¬ (b.length : Int) = d.lim.length := by omega
   have kb := k.b b.length hbl
   have kb' : 0 ≤ d.lo b.length ∧ d.lo b.length ≤ d.hi b.length ∧ d.hi b.length ≤ 12 := ⟨kb.1, kb.2.1, kb.2.2.1⟩
   refine Tri.drop ?_
   refine tri_v0 (mset [6]) Tryz.func91 (by kernel_rfl) rfl (by simp only [List.length_append, List.length_cons, List.length_nil, Tryz.ntmps91]; decide) ?_
   simp only [vsAll, loadA, loadRow, partA, partOk, lenA, okAll, stAll, opsA, opA, dstOk, nilSliceOp, argFr, Nat.reduceLT, Nat.reduceEqDiff, Nat.reduceBEq, ↓reduceIte, reduceCtorEq, eq_self, wtAll, Tryz.ntmps91]
   refine callK_pure (hseams_tri d l _) ?_
   simp only [vsAll, binA, binLitA, intA, opA, dstOk, Nat.reduceLT, Nat.reduceEqDiff, ↓reduceIte, eq_self]
   refine condD (fun hd => absurd hd hne) (fun hd => ?_)
   simp only [vsAll, loadA, loadRow, partA, partOk, fieldAddrA, indexAddrA, lenA, nilCheckA, cellA, opA, allocA, newCells, okCells, storeObj, dstOk, nilSliceOp, argFr, Nat.reduceAdd, Nat.reduceLT, Nat.reduceEqDiff, Nat.reduceBEq, ↓reduceIte, reduceCtorEq, eq_self, wtAll, prF_at]
   refine ⟨⟨by omega, by omega⟩, by omega, ?_⟩
   intro i6 hh_i6; (try simp only [Hp.set_none, ite_none] at hh_i6)
   rw [Hp.set_set]
   obtain ⟨fA, fE⟩ := mrg_fresh hh_i6
   have d1 : ¬ io = i6 := fun e => by rw [e, fE] at ho; cases ho
   have d2 : ¬ i6 = io := fun e => d1 e.symm
   have hio : ∀ A : Hp, mrg A E io = some (.box 1 1 fun _ => [onB d l io yf]) := fun A => mrg_some ho
   have hcn : (d.cn b.length : Int) = d.hi b.length - d.lo b.length + 1 := Int.toNat_of_nonneg (by show 0 ≤ (d.bl.getD b.length (0, 0)).2 - (d.bl.getD b.length (0, 0)).1 + 1; ((try clear hh_i6); omega))
   refine vs_loop (σ := Nat × Hp) (fun y => y.1 ≤ d.cn b.length ∧ Apart y.2 E ∧ y.2 i6 = none ∧ IterE Tryz.prog (.func yf [] []) (ylI (bwR d n b y.1) ++ L2) y.2 K)
    (fun y => [(0, intsAV b), (1, rhB d l), (2, .rptr 1 1 (fun _ => [.func yf [] []]) 0 0), (3, .ref io 0 1 0 0), (6, .ref i6 0 2 0 0), (7, i64 (d.lo b.length + (y.1 : Int)))])
    (fun y => (mrg y.2 E).set i6 (.box 2 1 fun _ => [i64 (d.lo b.length), i64 (d.hi b.length)])) (fun y => d.cn b.length - y.1) (0, A) ⟨Nat.zero_le _, ap, fA, hit⟩ ?_ HSub_rfl fun y hy => ?_
   ·simp only [vsAll, argFr, Nat.reduceEqDiff, ↓reduceIte, reduceCtorEq, eq_self, Int.natCast_zero, Int.add_zero]
   ·obtain ⟨i, A1⟩ := y
    obtain ⟨hi, a1, a2, a3⟩ := hy
    simp only [] at hi a1 a2 a3
    have n6 : (mrg A1 E) i6 = none := by rw [mrg_none fE]; exact a2
    have ioA := hio A1
    skip
    simp only [vsAll, binA, binLitA, intA, loadA, loadRow, partA, partOk, fieldAddrA, opA, dstOk, Nat.reduceLT, Nat.reduceEqDiff, ↓reduceIte, reduceCtorEq, eq_self, wtAll]
    refine condD (fun hd2 => ?_) (fun hd2 => ?_)
    ·have his : i < d.cn b.length := by ((try clear hh_i6 d1 d2 n6 ioA); omega)
     rw [bwR_step his, ylI_app, List.append_assoc] at a3
     simp only [vsAll]
     refine vs_draw2 [0, 0, 1, 0, 0, 3, 5, 6] [([0, 1, 3, 4], [0], 2), ([], [0], 5), ([], [], 6)] [7] (by decide +kernel) ?_
     simp only [vsAll, loadA, loadRow, partA, partOk, cellA, cellsA, okParts, buildSliceA, partIdx, elemsA, lensA, okAll, stAll, opsA, partsA, partsOk, opA, dstOk, Nat.reduceMul, Nat.reduceLT, Nat.reduceLeDiff, Nat.reduceEqDiff, ↓reduceIte, reduceCtorEq, eq_self, wtAll, d1, ioA]
     refine callK (clone_tri b _ (by ((try clear hh_i6 d1 d2 n6 ioA); omega))) ?_
     rintro r H' ⟨ic, hic, rfl, rfl⟩
     simp only [Hp.set_none] at hic
     obtain ⟨⟨c1, c1'⟩, c2⟩ := hic
     have c3 : ¬ ic = io := fun e => by rw [e, ioA] at c2; cases c2
     have c3' : ¬ io = ic := fun e => c3 e.symm
     skip
     simp only [vsAll, loadA, loadRow, partA, partOk, okAll, stAll, opsA, opA, appendA, dstOk, Nat.reduceLT, Nat.reduceLeDiff, Nat.reduceEqDiff, ↓reduceIte, reduceCtorEq, eq_self, wtAll, d1, ioA, c3']
     have hx6 := mrg_setE A1 E i6 (.box 2 1 fun _ => [i64 (d.lo b.length), i64 (d.hi b.length)])
     have hc2 := ih (b ++ [d.lo b.length + (i : Int)]) A1 (E.set i6 (.box 2 1 fun _ => [i64 (d.lo b.length), i64 (d.hi b.length)])) (ylI (bwR d n b (i + 1)) ++ L2) (by simp only [List.length_append, List.length_cons, List.length_nil]; ((try clear hh_i6 d1 d2 n6 ioA c1 c1' c2 c3 c3'); omega)) (a1.setE _ a2) (by rw [Hp.set_ne _ _ d1]; exact ho) a3
     rw [hx6] at hc2
     rw [Hp.set_set, app_ints _ _ _ rfl]
     have hX : (((mrg A1 E).set i6 (.box 2 1 fun _ => [i64 (d.lo b.length), i64 (d.hi b.length)])).set ic (.row 1 (b.length + 1) (intF (b ++ [d.lo b.length + (i : Int)])))).del ic = (mrg A1 E).set i6 (.box 2 1 fun _ => [i64 (d.lo b.length), i64 (d.hi b.length)]) := set_delO (by rw [Hp.set_ne _ _ c1]; exact c2)
     have hc3 := on_call (fv := onB d l io yf) (id1 := ic) (X := ((mrg A1 E).set i6 (.box 2 1 fun _ => [i64 (d.lo b.length), i64 (d.hi b.length)])).set ic (.row 1 (b.length + 1) (intF (b ++ [d.lo b.length + (i : Int)])))) (fun _ _ => rfl) (Hp.set_same _ _ _) (by rw [hX]; exact hc2)
     refine ⟨fun q hq => ?_, by ((try clear hh_i6 d1 d2 n6 ioA c1 c1' c2 c3 c3'); omega), by ((try clear hh_i6 d1 d2 n6 ioA c1 c1' c2 c3 c3'); omega), callK hc3 ?_⟩
     ·have : q = 0 := by ((try clear hh_i6 d1 d2 n6 ioA c1 c1' c2 c3 c3'); omega)
      subst this; exact ⟨rfl, trivial⟩
     rintro r H' ⟨rfl, H2, b1, rfl, b3⟩
     have e6 : H2 i6 = none := Classical.byContradiction fun q => by have := b1.E q; rw [Hp.set_same] at this; cases this
     have hx7 := mrg_setE H2 E i6 (.box 2 1 fun _ => [i64 (d.lo b.length), i64 (d.hi b.length)])
     rw [hx7]
     simp only [vsAll, binA, binLitA, intA, unA, opA, dstOk, nilSliceOp, Nat.reduceLT, Nat.reduceEqDiff, Nat.reduceBEq, ↓reduceIte, reduceCtorEq, eq_self]
     refine ⟨by simp only [InR_i64]; ((try clear hh_i6 d1 d2 n6 ioA c1 c1' c2 c3 c3'); omega), loop_next (i + 1, H2) ⟨his, fun q hq => ?_, e6, b3⟩ (by show _ - _ < _ - _; ((try clear hh_i6 d1 d2 n6 ioA c1 c1' c2 c3 c3'); omega)) ?_ HSub_rfl⟩
     ·by_cases e : q = i6
      ·rw [e]; exact e6
      ·exact b1 q (by rw [Hp.set_ne _ _ e]; exact hq)
     ·simp only [vsAll, Nat.reduceEqDiff, ↓reduceIte, reduceCtorEq, eq_self, Int.natCast_add, Int.natCast_one]
      exact AV.Le.of_eq (by rw [Int.add_assoc])
    ·have ei : i = d.cn b.length := by ((try clear hh_i6 d1 d2 n6 ioA); omega)
     subst ei
     rw [bwR_end] at a3
     simp only [vsAll, opA, dstOk, nilSliceOp, resA, retA.eq_1, Nat.reduceLT, Nat.reduceBEq, ↓reduceIte, eq_self, Tryz.results91]
     exact ⟨_, HSub_drop2 n6 HSub_rfl, rfl, A1, a1, rfl, a3⟩
abbrev bwA (d : Dr) (l : List (Nat × Bool)) : AV := .func (.func 90) [] [rhB d l]
theorem azT81 : azT Tryz.prog 81 = some (1, 1, [.nilFunc]) := by kernel_rfl
theorem bw1_tri {d : Dr} {l : List (Nat × Bool)} (k : OkD d) {yf : Fn} {H : Hp} {K : Hp → Prop} (hit : IterE Tryz.prog (.func yf [] []) (ylI (allB d)) H K) :
  Tri Tryz.prog (bwA d l) [.func yf [] []] H fun r H' => (∃ v, r = .ret v) ∧ K H' := by
 refine Tri.drop ?_
 refine tri_v0 (mset [3]) Tryz.func90 (by kernel_rfl) rfl (by simp only [List.length_append, List.length_cons, List.length_nil, Tryz.ntmps90]; decide) ?_
 simp only [vsAll, loadA, loadRow, partA, partOk, boxA, boxZ, cellA, cellsA, okAll, stAll, opsA, opA, allocA, newCells, okCells, storeObj, dstOk, argFr, Nat.reduceLT, Nat.reduceEqDiff, Nat.reduceBEq, ↓reduceIte, eq_self, wtAll, Tryz.ntmps90, azT81]
 intro i4 hh_i4; (try simp only [Hp.set_none, ite_none] at hh_i4)
 rw [Hp.set_set]
 have hc := bon_tri k (l := l) (io := i4) (K := K) d.lim.length [] H (Hp.set (fun _ => none) i4 (.box 1 1 fun _ => [onB d l i4 yf])) [] (by simp) ((apart_emp H).setE _ hh_i4) (Hp.set_same _ _ _) (by rw [List.append_nil]; exact hit)
 rw [mrg_setE, mrg_emp] at hc
 refine callK (hc.args rfl fun q hq => ?_) ?_
 ·match q, hq with
  | 0, _ => exact AV.Le.nil _ _
 rintro r H' ⟨rfl, H1, a1, rfl, a3⟩
 simp only [vsAll, resA, retA.eq_2, eq_self, Tryz.results90]
 exact ⟨_, mrg_sub _ _ a1, ⟨_, rfl⟩, a3⟩
theorem blows_tri (d : Dr) (l : List (Nat × Bool)) (H : Hp) : PTri Tryz.prog (fnA 74) [rH d l] H (bwA d l) := by
 refine tri_v0 (fun _ => false) Tryz.func74 (by kernel_rfl) rfl (by simp only [List.length_append, List.length_cons, List.length_nil, Tryz.ntmps74]; decide) ?_
 simp only [vsAll, boxA, boxZ, cellA, okAll, stAll, opsA, opA, dstOk, nilSliceOp, resA, argFr, retA.eq_1, Nat.reduceLT, Nat.reduceEqDiff, ↓reduceIte, eq_self, wtAll, Tryz.ntmps74, Tryz.results74]
end Go.Proofs.YtclkjifgipcamaaGreat
end
section
set_option linter.unusedVariables false
set_option linter.unusedSimpArgs false
namespace Go.V
set_option linter.unusedSectionVars false
variable [Inhabited GivT]
def mpT (P : Program) (T : TypeId) : Bool := match P.underlying T with
 | some (.map _ _) => true
 | _ => false
theorem mpT_spec {P : Program} {t : TypeId} (h : mpT P t = true) : ∃ k e, P.underlying t = some (.map k e) := by
 unfold mpT at h
 split at h
 ·exact ⟨_, _, by assumption⟩
 ·cases h
section
variable {P : Program} {m : Option Tmp → Bool} {n id : Nat} {ops : Array Oper} {s : Fr} {ds : List AD} {H : Hp} {Q : Post}
theorem wps_region_mlen (l1 l2 : List Oper) (o : Oper) (he : ops.toList = l1 ++ o :: l2) {T : TypeId} {x : Operand} {d : Nat} (ho : o.op = .call ⟨.builtin .len, #[x], #[T]⟩) (hg : o.guard = none) (hd : o.dst = some d) (hdn : d < n) (hT : mpT P T = true)
  (h : VS none P m n [.ops ops.toList l1] s ds H fun e s' ds' H' => match e with
   | .normal => ∃ mid es ck, opA s' x = .map mid ∧ H' mid = some (.raw (.map es ck)) ∧ VS none P m n [.ops ops.toList l2] (put s' (some d) (.lit (.int .i64 (es.size : Nat)))) ds' H' Q
   | e => Q e s' ds' H') : WPS none P n (.region id ops false) s ds H Q := by
 intro S a hn hH hF hD
 refine wpIn_region ?_
 have hget : ∀ i : Nat, ops[i]? = ops.toList[i]? := fun i => Array.getElem?_toList.symm
 have hsz : ops.size = l1.length + (1 + l2.length) := by
  have := congrArg List.length he
  simpa [Nat.add_comm] using this
 have hr : List.range ops.size = List.range l1.length ++ (l1.length :: (List.range l2.length).map (l1.length + 1 + ·)) := by
  rw [hsz, List.range_add, Nat.add_comm 1, List.range_succ_eq_map]
  simp only [List.map_cons, List.map_map, Nat.add_zero]
  congr 2
  apply List.map_congr_left
  intro i _
  simp [Function.comp]; omega
 rw [hr]
 refine wpOpsIn_append _ _ _ _ ?_
 have h1 := vcOps_sound (r := none) (P := P) (m := m) (n := n) (ops := ops) (.inl rfl) l1 (List.range l1.length) s ds H (fun o ho => by rw [he]; simp [ho]) (by
  apply List.ext_getElem
  ·simp
  ·intro i h1 h2
   simp at h1
   simp only [List.getElem_map, List.getElem_range, hget, he, List.getElem?_append_left h1, List.getElem?_eq_getElem h1]) h S a hn hH hF hD
 refine wpOpsIn_mono' (fun e a1 w1 q => ?_) _ _ _ h1
 obtain ⟨S1, x1, s1, ds1, H1, rfl, hle, hH1, hF1, hD1, hsz1, hx, hq⟩ := q
 cases e with
 | normal =>
   cases x1 <;> simp [XRel] at hx
   obtain ⟨mid, es, ck, hxv, hom, h2⟩ := hq
   simp only [wpOpsIn, hget, he, List.getElem?_append_right (Nat.le_refl _), Nat.sub_self, List.getElem?_cons_zero, Region.wanted, hg, if_true]
   have rx : VRel S1 (.map mid) (a1.eval x) := by
    have := opA_rel (x := x) hF1
    rw [hxv] at this; exact this
   obtain ⟨kt, et, hu⟩ := mpT_spec hT
   obtain ⟨b, q1, q2, q3, q4⟩ := hH1.obj mid _ hom
   have ev : a1.eval x = .map (some b) := by
    generalize a1.eval x = cv at rx
    cases rx with
    | map hl => rw [q1] at hl; cases hl; rfl
   have hrun : (execOp a1.eval o).run P S1.w = .ok (.value (.int .i64 (es.size : Nat))) S1.w := by
    have hl : (Builtin.len_ #[T] o.type #[.map (some b)]).run P S1.w = .ok (.int .i64 (es.size : Nat)) S1.w := by
     simp [Builtin.len_, run_underlying hu, MapKept.run_getObj_map q2, goInt]
    simp [execOp, ho, resolve, invoke, builtin, ev, hl]
   have hs : StepOk none P o S1 a1 (fun v ds' H' => v = .lit (.int .i64 (es.size : Nat)) ∧ ds' = ds1 ∧ H' = H1) (fun _ _ => False) :=
    stepOk_value (fun c e => by rw [ho] at e; cases e) hrun (Le.refl S1) hH1 (.lit _) hD1 ⟨rfl, rfl, rfl⟩
   refine hs _ _ ?_ (fun _ _ _ _ _ _ _ hf => hf.elim)
   rintro S' cv v ds' df H' hle' hH' hv hD' ⟨rfl, rfl, rfl⟩
   have h3 := vcOps_sound (r := none) (P := P) (m := m) (n := n) (ops := ops) (Q := Q) (.inl rfl) l2 ((List.range l2.length).map (l1.length + 1 + ·)) _ _ _ (fun o ho => by rw [he]; simp [ho]) (by
    apply List.ext_getElem
    ·simp
    ·intro i h1 h2
     simp at h1
     simp only [List.getElem_map, List.getElem_range, hget, he]
     rw [List.getElem?_append_right (by omega), show l1.length + 1 + i - l1.length = i + 1 by omega, List.getElem?_cons_succ, List.getElem?_eq_getElem h1]) h2 S' ({ a1 with defers := df }.put o.dst cv) (by rw [put_size]; exact hsz1) hH' (by
     have := (hF1.mono hle').put (d := some d) (n := n) (by exact hdn) hsz1 hv df
     rw [hd]; exact this) (by rw [put_defers]; exact hD')
   exact wpOpsIn_mono' (fun e a w q => Lift.trans (hle.trans hle') q) _ _ _ h3
 | _ => cases x1 <;> simp [XRel] at hx <;> exact ⟨S1, _, s1, ds1, H1, rfl, hle, hH1, hF1, hD1, hsz1, by simp [XRel, hx], hq⟩
theorem wps_region_mlenI (i : Nat) {o : Oper} (he : ops.toList[i]? = some o) {T : TypeId} {x : Operand} {d : Nat} (ho : o.op = .call ⟨.builtin .len, #[x], #[T]⟩) (hg : o.guard = none) (hd : o.dst = some d) (hdn : d < n) (hT : mpT P T = true)
  (h : VS none P m n [.ops ops.toList (ops.toList.take i)] s ds H fun e s' ds' H' => match e with
   | .normal => ∃ mid es ck, opA s' x = .map mid ∧ H' mid = some (.raw (.map es ck)) ∧ VS none P m n [.ops ops.toList (ops.toList.drop (i + 1))] (put s' (some d) (.lit (.int .i64 (es.size : Nat)))) ds' H' Q
   | e => Q e s' ds' H') : WPS none P n (.region id ops false) s ds H Q := by
 refine wps_region_mlen _ _ o ?_ ho hg hd hdn hT h
 obtain ⟨hi, rfl⟩ := List.getElem?_eq_some_iff.1 he
 rw [← List.drop_eq_getElem_cons hi, List.take_append_drop]
end
end Go.V
end
section
set_option linter.unusedVariables false
namespace Go.V
set_option linter.unusedSectionVars false
variable [Inhabited GivT]
open Classical in
/-- What a set of values knows. -/
noncomputable def stF (L : List Value) : Value → Option Value := fun k => if k ∈ L then some (.bool true) else none
theorem stF_nil : stF [] = fun _ => none := by funext k; simp [stF]
theorem stF_some {L : List Value} {k v : Value} : stF L k = some v ↔ k ∈ L ∧ v = .bool true := by
 unfold stF
 by_cases h : k ∈ L
 ·rw [if_pos h]; simp [h, eq_comm]
 ·rw [if_neg h]; simp [h]
theorem stF_upd (L : List Value) (s : Value) : updV (stF L) s (.bool true) = stF (L ++ [s]) := by
 funext k
 by_cases h : k = s
 ·subst h; rw [updV_same]; exact ((stF_some (L := L ++ [k])).2 ⟨by simp, rfl⟩).symm
 ·rw [updV_ne _ _ h]
  unfold stF
  have : k ∈ L ↔ k ∈ L ++ [s] := by simp [h]
  by_cases h2 : k ∈ L
  ·rw [if_pos h2, if_pos (this.1 h2)]
  ·rw [if_neg h2, if_neg (fun q => h2 (this.2 q))]
/-- The numbers at which entries were put in. -/
structure BornOk (es : Array MapEntry) (ck : Nat) : Prop where
 lt : ∀ x ∈ es.toList, x.born < ck
 nd : (es.toList.map (·.born)).Nodup
theorem BornOk.empty : BornOk #[] 0 := ⟨fun x h => by simp at h, by simp⟩
theorem BornOk.upd {es : Array MapEntry} {ck : Nat} (h : BornOk es ck) (key val : Value) (o : Option (Nat × Value)) : BornOk (updM es key val ck o) (updC ck o) := by
 cases o with
 | none =>
   simp only [updM, updC]
   refine ⟨fun x hx => ?_, ?_⟩
   ·simp only [Array.toList_push, List.mem_append, List.mem_singleton] at hx
    rcases hx with hx | rfl
    ·have := h.lt x hx; omega
    ·exact Nat.lt_succ_self _
   ·simp only [Array.toList_push, List.map_append, List.map_cons, List.map_nil]
    rw [List.nodup_append]
    refine ⟨h.nd, by simp, fun a ha b hb => ?_⟩
    simp only [List.mem_singleton] at hb
    subst hb
    obtain ⟨x, hx, rfl⟩ := List.mem_map.1 ha
    have := h.lt x hx
    omega
 | some p =>
   obtain ⟨i, v⟩ := p
   simp only [updM, updC]
   have e : (es.modify i fun e => { e with key := key, val := val }).toList.map (·.born) = es.toList.map (·.born) := by
    apply List.ext_getElem?
    intro q
    simp only [List.getElem?_map, Array.getElem?_toList, Array.getElem?_modify]
    by_cases hq : i = q
    ·subst hq
     cases es[i]? <;> simp
    ·simp [hq]
   refine ⟨fun x hx => ?_, by rw [e]; exact h.nd⟩
   have hb : x.born ∈ (es.modify i fun e => { e with key := key, val := val }).toList.map (·.born) := List.mem_map_of_mem hx
   rw [e] at hb
   obtain ⟨y, hy, hy2⟩ := List.mem_map.1 hb
   have := h.lt y hy
   omega
/-- Entries that a range has told of. -/
structure Tak (es : Array MapEntry) (T : List MapEntry) : Prop where
 sub : ∀ e ∈ T, e ∈ es.toList
 nd : (T.map (·.born)).Nodup
theorem Tak.nil (es : Array MapEntry) : Tak es [] := ⟨fun e h => by simp at h, by simp⟩
theorem mem_left {es : Array MapEntry} {T : List MapEntry} {e : MapEntry} : e ∈ (leftOf es (T.map (·.born)).toArray).toList ↔ e ∈ es.toList ∧ e.born ∉ T.map (·.born) := by
 unfold leftOf
 simp
theorem Tak.add {es : Array MapEntry} {T : List MapEntry} (h : Tak es T) {e : MapEntry} (he : e ∈ (leftOf es (T.map (·.born)).toArray).toList) : Tak es (T ++ [e]) := by
 obtain ⟨h1, h2⟩ := mem_left.1 he
 refine ⟨fun x hx => ?_, ?_⟩
 ·simp only [List.mem_append, List.mem_singleton] at hx
  rcases hx with hx | rfl
  ·exact h.sub x hx
  ·exact h1
 ·simp only [List.map_append, List.map_cons, List.map_nil]
  rw [List.nodup_append]
  refine ⟨h.nd, by simp, fun a ha b hb => ?_⟩
  simp only [List.mem_singleton] at hb
  subst hb
  intro e2
  subst e2
  exact h2 ha
theorem tak_push (T : List MapEntry) (e : MapEntry) : (T.map (·.born)).toArray.push e.born = ((T ++ [e]).map (·.born)).toArray := by simp
theorem nodup_of_map {α β : Type} {f : α → β} {l : List α} (h : (l.map f).Nodup) : l.Nodup := List.Pairwise.of_map f (fun a b h e => h (by rw [e])) h
theorem Tak.len {es : Array MapEntry} {T : List MapEntry} (h : Tak es T) : T.length ≤ es.size := by
 have := (nodup_of_map h.nd).length_le_of_subset (fun e he => h.sub e he : T ⊆ es.toList)
 simpa using this
theorem Tak.all {es : Array MapEntry} {ck : Nat} {T : List MapEntry} (h : Tak es T) (hb : BornOk es ck) (h0 : (leftOf es (T.map (·.born)).toArray).size = 0) : ∀ e, e ∈ T ↔ e ∈ es.toList := fun e => by
 refine ⟨h.sub e, fun he => ?_⟩
 by_cases hm : e.born ∈ T.map (·.born)
 ·obtain ⟨x, hx, hx2⟩ := List.mem_map.1 hm
  have hxe := h.sub x hx
  have hxx : x = e := by
   obtain ⟨i, hi, rfl⟩ := List.getElem_of_mem hxe
   obtain ⟨j, hj, rfl⟩ := List.getElem_of_mem he
   have hn := hb.nd
   have : i = j := by
    have h1 : (es.toList.map (·.born))[i]'(by simpa using hi) = (es.toList.map (·.born))[j]'(by simpa using hj) := by simpa using hx2
    apply Classical.byContradiction
    intro hne
    rcases Nat.lt_or_ge i j with q | q
    ·exact (List.pairwise_iff_getElem.1 hn) i j (by simpa using hi) (by simpa using hj) q h1
    ·exact (List.pairwise_iff_getElem.1 hn) j i (by simpa using hj) (by simpa using hi) (by omega) h1.symm
   subst this; rfl
  rw [← hxx]; exact hx
 ·exfalso
  have := mem_left.2 ⟨he, hm⟩
  have hs : (leftOf es (T.map (·.born)).toArray).toList.length = 0 := by simpa using h0
  rw [List.eq_nil_of_length_eq_zero hs] at this
  cases this
end Go.V
end
section
set_option linter.unusedVariables false
set_option linter.unusedSimpArgs false
namespace Go.V
set_option linter.unusedSectionVars false
variable [Inhabited GivT]
theorem kl_int {P : Program} {d : Nat} {T : TypeId} {q : IntKind} {n : Int} (hu : P.underlying T = some (.int q)) (hw : (Lit.int q n).wf = true) : P.keyLits (d + 1) T [.int q n] = some [.int q n] := by
 simp [Program.keyLits, hu, hw]
theorem kl_two {P : Program} {d : Nat} {T : TypeId} {fs : Array Field} {f0 f1 : Field} {v0 : Value} {r : List Value} {L0 L1 : List Lit} (hu : P.underlying T = some (.struct fs)) (hf : fs.toList = [f0, f1]) (hn : f0.name ≠ "_" ∧ f1.name ≠ "_") (hc : P.cellsOf T = r.length + 1)
  (h0 : f0.offset = 0 ∧ P.cellsOf f0.type = 1) (h1 : f1.offset = 1 ∧ P.cellsOf f1.type = r.length) (k0 : P.keyLits d f0.type [v0] = some L0) (k1 : P.keyLits d f1.type r = some L1) :
  P.keyLits (d + 1) T (v0 :: r) = some (L0 ++ L1) := by
 have hall : fs.all (fun f => f.name != "_") = true := by
  rw [Array.all_eq_true_iff_forall_mem]
  intro f hf'
  have : f ∈ fs.toList := by simpa using hf'
  rw [hf] at this
  rcases List.mem_cons.1 this with rfl | this
  ·simpa using hn.1
  ·have := List.mem_singleton.1 this
   subst this; simpa using hn.2
 simp only [Program.keyLits, hu, List.length_cons, hc, hall, and_self, if_true, hf, List.mapM_cons, List.mapM_nil, h0.1, h0.2, h1.1, h1.2, List.drop_zero, List.take_succ_cons, List.take_zero, List.drop_succ_cons, List.take_length, k0, k1]
 simp
theorem wf_u64 {a : Int} (h : InR .u64 a) : (Lit.int .u64 a).wf = true := by
 simp only [InR, IntKind.min, IntKind.max, IntKind.signed, IntKind.bits] at h
 simp [Lit.wf, IntKind.min, IntKind.max, IntKind.signed, IntKind.bits] at h ⊢
 omega
end Go.V
end
section
set_option linter.unusedVariables false
set_option linter.unusedSimpArgs false
set_option maxHeartbeats 8000000
set_option maxRecDepth 100000
namespace Go.Proofs.YtclkjifgipcamaaGreat
open Go.V
theorem und138 : Program.underlying Tryz.prog 138 = some (.map 99 4) := by kernel_rfl
theorem key99 : Maps.Keyed Tryz.prog 99 := Maps.Keyed.of_law (deep_law_laid (by kernel_rfl) (m := 10) (by decide) (by decide +kernel) (by kernel_rfl) (by kernel_rfl))
abbrev sdV (o x : Nat) : Value := .agg #[.int .u64 (o : Int), .int .u64 (x : Int)]
theorem sdK (a b : Nat) (h0 : a < 64) (h1 : b < 64) : ∃ l, keyOf Tryz.prog 99 (sdV a b) = some l := by
 have hsz : Tryz.prog.types.size + 1 = (Tryz.prog.types.size - 2) + 3 := by
  have : 2 ≤ Tryz.prog.types.size := by decide +kernel
  omega
 have hsz2 : (Tryz.prog.fieldsOf 99).toList.length = 2 := by decide +kernel
 have hu : Program.underlying Tryz.prog 99 = some (.struct (Tryz.prog.fieldsOf 99)) := by kernel_rfl
 obtain ⟨f0, e0⟩ : ∃ f0, f0 = (Tryz.prog.fieldsOf 99).toList[0]'(by rw [hsz2]; decide) := ⟨_, rfl⟩
 obtain ⟨f1, e1⟩ : ∃ f1, f1 = (Tryz.prog.fieldsOf 99).toList[1]'(by rw [hsz2]; decide) := ⟨_, rfl⟩
 have hf : (Tryz.prog.fieldsOf 99).toList = [f0, f1] := by
  rw [e0, e1]
  generalize (Tryz.prog.fieldsOf 99).toList = L at hsz2 ⊢
  match L, hsz2 with
  | [x, y], _ => rfl
 have hn : f0.name ≠ "_" ∧ f1.name ≠ "_" := by
  have h : (Tryz.prog.fieldsOf 99).toList.map (fun f => decide (f.name ≠ "_")) = [true, true] := by decide +kernel
  rw [hf] at h
  simpa using h
 have t0 : f0.type = 90 := by rw [e0]; kernel_rfl
 have t1 : f1.type = 90 := by rw [e1]; kernel_rfl
 have o0 : f0.offset = 0 := by rw [e0]; kernel_rfl
 have o1 : f1.offset = 1 := by rw [e1]; kernel_rfl
 have k0 : Tryz.prog.keyLits (Tryz.prog.types.size - 2 + 2) f0.type [.int .u64 (a : Int)] = some [.int .u64 (a : Int)] := by
  rw [t0]; exact kl_int (by kernel_rfl) (wf_u64 (by simp only [InR_u64]; omega))
 have k1 : Tryz.prog.keyLits (Tryz.prog.types.size - 2 + 2) f1.type [.int .u64 (b : Int)] = some [.int .u64 (b : Int)] := by
  rw [t1]; exact kl_int (by kernel_rfl) (wf_u64 (by simp only [InR_u64]; omega))
 have hk := kl_two hu hf hn (r := [.int .u64 (b : Int)]) (by kernel_rfl) ⟨o0, by rw [t0]; kernel_rfl⟩ ⟨o1, by rw [t1]; kernel_rfl⟩ k0 k1
 unfold keyOf
 rw [hu]
 have hg : (Tryz.prog.keyType 99 && (sdV a b).formed Tryz.prog 99) = true := by kernel_rfl
 simp only [hg, if_true, hsz, Value.cells, List.toList_toArray]
 rw [hk]
 exact ⟨_, rfl⟩
open Classical in
noncomputable def opB (d : Dr) (b : List Int) : Nat := if h : ∃ u, d.dv.Run (bOf b) u ∧ d.dv.Still (bOf b) u then opN (Classical.choose h) d.lim.length else 0
theorem opB_eq {d : Dr} (k : OkD d) {b : List Int} {u : Nat → Int} (h1 : d.dv.Run (bOf b) u) (h2 : d.dv.Still (bOf b) u) : opB d b = opN u d.lim.length := by
 have h : ∃ u, d.dv.Run (bOf b) u ∧ d.dv.Still (bOf b) u := ⟨u, h1, h2⟩
 unfold opB
 rw [dif_pos h]
 have e := Dv.uniq (dv_ok k) (Classical.choose_spec h).1 (Classical.choose_spec h).2 h1 h2
 rw [show Classical.choose h = u from funext e]
theorem opB_lt (d : Dr) (b : List Int) : opB d b < 2 ^ d.lim.length := by
 unfold opB
 split
 ·exact opN_lt _ _
 ·exact Nat.two_pow_pos _
def dlD (d : Dr) (o : Nat) : Nat := dlN (arK d d.be.length) o 6
theorem dlD_lt (d : Dr) (o : Nat) : dlD d o < 64 := dlN_lt _ _ 6
noncomputable def sdK' (d : Dr) (L : List (List Int)) (i : Nat) : List Value := (List.range i).map fun q => sdV (opB d (L.getD q [])) (dlD d (opB d (L.getD q [])))
theorem sdK_succ (d : Dr) (L : List (List Int)) (i : Nat) : sdK' d L (i + 1) = sdK' d L i ++ [sdV (opB d (L.getD i [])) (dlD d (opB d (L.getD i [])))] := by simp [sdK', List.range_succ]
/-- Blows of all lists: how many, how large. -/
theorem bwL_mem {d : Dr} (k : OkD d) : ∀ (n : Nat) (b : List Int), b.length + n = d.lim.length → (∀ i, i < b.length → d.lo i ≤ b.getD i 0 ∧ b.getD i 0 ≤ d.hi i) → ∀ x ∈ bwL d n b, x.length = d.lim.length ∧ ∀ i, i < x.length → d.lo i ≤ x.getD i 0 ∧ x.getD i 0 ≤ d.hi i
 | 0, b, hl, hb, x, hx => by
   simp only [bwL, List.mem_singleton] at hx
   subst hx
   exact ⟨hl, hb⟩
 | n + 1, b, hl, hb, x, hx => by
   simp only [bwL, List.mem_flatMap, List.mem_range] at hx
   obtain ⟨j, hj, hx⟩ := hx
   have kb := k.b b.length (by omega)
   have hcn : (d.cn b.length : Int) = d.hi b.length - d.lo b.length + 1 := Int.toNat_of_nonneg (by show 0 ≤ (d.bl.getD b.length (0, 0)).2 - (d.bl.getD b.length (0, 0)).1 + 1; omega)
   refine bwL_mem k n _ (by simp only [List.length_append, List.length_cons, List.length_nil]; omega) (fun i hi => ?_) x hx
   simp only [List.length_append, List.length_cons, List.length_nil] at hi
   rw [getD_snoc]
   by_cases e : i = b.length
   ·subst e; rw [if_pos rfl]; omega
   ·rw [if_neg e]; exact hb i (by omega)
theorem allB_mem {d : Dr} (k : OkD d) {b : List Int} (h : b ∈ allB d) : b.length = d.lim.length ∧ ∀ i, i < b.length → 0 ≤ b.getD i 0 ∧ b.getD i 0 ≤ 52 := by
 obtain ⟨h1, h2⟩ := bwL_mem k d.lim.length [] (by simp) (fun i hi => absurd hi (Nat.not_lt_zero i)) b h
 refine ⟨h1, fun i hi => ?_⟩
 have := h2 i hi
 have kb := k.b i (by omega)
 have kb' : 0 ≤ d.lo i ∧ d.lo i ≤ d.hi i ∧ d.hi i ≤ 12 := ⟨kb.1, kb.2.1, kb.2.2.1⟩
 omega
theorem bwL_len {d : Dr} (k : OkD d) : ∀ (n : Nat) (b : List Int), b.length + n = d.lim.length → (bwL d n b).length ≤ 3 ^ n ∧ 0 < (bwL d n b).length
 | 0, b, _ => ⟨Nat.le_refl _, Nat.one_pos⟩
 | n + 1, b, hl => by
   have kb := k.b b.length (by omega)
   have hcn : (d.cn b.length : Int) = d.hi b.length - d.lo b.length + 1 := Int.toNat_of_nonneg (by show 0 ≤ (d.bl.getD b.length (0, 0)).2 - (d.bl.getD b.length (0, 0)).1 + 1; omega)
   have kb' : 0 ≤ d.lo b.length ∧ d.lo b.length ≤ d.hi b.length ∧ d.hi b.length ≤ 12 ∧ d.hi b.length - d.lo b.length ≤ 2 := kb
   have key : ∀ c : Nat, ((List.range c).flatMap fun j : Nat => bwL d n (b ++ [d.lo b.length + (j : Int)])).length ≤ c * 3 ^ n ∧ (0 < c → 0 < ((List.range c).flatMap fun j : Nat => bwL d n (b ++ [d.lo b.length + (j : Int)])).length) := fun c => by
    induction c with
    | zero => exact ⟨by simp, fun h => absurd h (Nat.lt_irrefl 0)⟩
    | succ c ih =>
      have := bwL_len k n (b ++ [d.lo b.length + (c : Int)]) (by simp only [List.length_append, List.length_cons, List.length_nil]; omega)
      simp only [List.range_succ, List.flatMap_append, List.flatMap_cons, List.flatMap_nil, List.append_nil, List.length_append]
      rw [Nat.succ_mul]
      exact ⟨by omega, fun _ => by omega⟩
   obtain ⟨h1, h2⟩ := key (d.cn b.length)
   refine ⟨?_, h2 (by omega)⟩
   show ((List.range (d.cn b.length)).flatMap _).length ≤ _
   refine Nat.le_trans h1 ?_
   rw [Nat.pow_succ, Nat.mul_comm (3 ^ n)]
   exact Nat.mul_le_mul_right _ (by omega)
theorem allB_len {d : Dr} (k : OkD d) : (allB d).length ≤ 729 ∧ 0 < (allB d).length := by
 obtain ⟨h1, h2⟩ := bwL_len k d.lim.length [] (by simp)
 have p : 3 ^ d.lim.length ≤ 3 ^ 6 := Nat.pow_le_pow_right (by decide) k.n6
 have h3 : (allB d).length ≤ 3 ^ d.lim.length := h1
 exact ⟨by omega, h2⟩
end Go.Proofs.YtclkjifgipcamaaGreat
end
section
set_option linter.unusedVariables false
set_option linter.unusedSimpArgs false
set_option maxHeartbeats 8000000
set_option maxRecDepth 100000
namespace Go.Proofs.YtclkjifgipcamaaGreat
open Go.V
def sdF (d : Dr) (M : List Nat) : Nat → List AV := fun i => [u64 (M.getD i 0 : Nat), u64 (dlD d (M.getD i 0) : Nat)]
abbrev sdA (d : Dr) (M : List Nat) : AV := .rsl M.length 2 (sdF d M)
theorem sdF_at (d : Dr) (M : List Nat) (i : Nat) : sdF d M i = [u64 (M.getD i 0 : Nat), u64 (dlD d (M.getD i 0) : Nat)] := rfl
theorem scmp_tri (a x b y : Nat) (H : Hp) (ha : a < 64) (hb : b < 64) : PTri Tryz.prog (fnA 76) [.agg [u64 a, u64 x], .agg [u64 b, u64 y]] H (i64 ((a : Int) - b)) := by
 refine tri_v0 (fun _ => false) Tryz.func76 (by kernel_rfl) rfl (by simp only [List.length_append, List.length_cons, List.length_nil, Tryz.ntmps76]; decide) ?_
 simp only [vsAll, binA, binLitA, intA, loadA, loadRow, partA, partOk, fieldAddrA, boxA, boxZ, convA, opA, dstOk, nilSliceOp, resA, argFr, retA.eq_1, Nat.reduceAdd, Nat.reduceLT, Nat.reduceEqDiff, ↓reduceIte, eq_self, wtAll, Tryz.ntmps76, Tryz.results76]
 exact ⟨by simp only [InR_i64]; omega, by simp only [InR_i64]; omega, by simp only [InR_i64]; omega⟩
def sot (a b : Nat) : List Nat := if b < a then [b, a] else [a, b]
theorem sins1_tri (d : Dr) (a : Nat) (id : Nat) (H : Hp) : Tri Tryz.prog (fnA 104) [.sl id 2 1, i64 0, i64 1, fnA 76] H fun r H' => r = .ret (.tuple []) ∧ H' = H := by
 refine tri_vs (m := mset []) Tryz.func104 (by kernel_rfl) rfl (by simp only [List.length_append, List.length_cons, List.length_nil, Tryz.ntmps104]; decide) ?_
 simp only [vsAll, binA, binLitA, intA, opA, dstOk, nilSliceOp, argFr, Nat.reduceLT, Int.reduceAdd, ↓reduceIte, eq_self, Tryz.ntmps104]
 refine ⟨by simp only [InR_i64]; omega, ?_⟩
 refine vs_loop (σ := Unit) (fun _ => True) (fun _ => [(0, .sl id 2 1), (1, i64 0), (2, i64 1), (3, fnA 76), (8, i64 1)]) (fun _ => H) (fun _ => 0) () trivial ?_ HSub_rfl fun _ _ => ?_
 ·simp only [vsAll, argFr, Nat.reduceEqDiff, ↓reduceIte, reduceCtorEq, eq_self]
 ·simp only [vsAll, binA, binLitA, intA, opA, dstOk, Nat.reduceLT, Nat.reduceEqDiff, Int.reduceLT, ↓reduceIte, reduceCtorEq, eq_self]
  refine Ent.ret ⟨rfl, ?_⟩
  simp only [vsAll, resA, retA.eq_2, Tryz.results104]
  exact ⟨_, HSub_rfl, rfl, rfl⟩
theorem sins2_tri (d : Dr) (a b : Nat) (id : Nat) (H : Hp) (ha : a < 64) (hb : b < 64) (ho : H id = some (.row 2 2 (sdF d [a, b]))) : Tri Tryz.prog (fnA 104) [.sl id 2 2, i64 0, i64 2, fnA 76] H fun r H' => r = .ret (.tuple []) ∧ H' = H.set id (.row 2 2 (sdF d (sot a b))) := by
 refine tri_vs (m := mset []) Tryz.func104 (by kernel_rfl) rfl (by simp only [List.length_append, List.length_cons, List.length_nil, Tryz.ntmps104]; decide) ?_
 skip
 simp only [vsAll, binA, binLitA, intA, opA, dstOk, nilSliceOp, argFr, Nat.reduceLT, Int.reduceAdd, ↓reduceIte, eq_self, Tryz.ntmps104]
 refine ⟨by simp only [InR_i64]; ((try clear ho); omega), ?_⟩
 refine vs_loop (σ := Bool) (fun _ => True) (fun y => [(0, .sl id 2 2), (1, i64 0), (2, i64 2), (3, fnA 76), (8, i64 (if y then 2 else 1))]) (fun y => H.set id (.row 2 2 (sdF d (if y then sot a b else [a, b])))) (fun y => if y then 0 else 1) false trivial ?_ (HSub_put_le ho (.refl _) HSub_rfl) fun y _ => ?_
 ·simp only [vsAll, argFr, Nat.reduceEqDiff, ↓reduceIte, reduceCtorEq, eq_self]
 ·cases y
  ·simp only [vsAll, binA, binLitA, intA, opA, dstOk, nilSliceOp, Nat.reduceLT, Nat.reduceEqDiff, Int.reduceLT, ↓reduceIte, reduceCtorEq, eq_self]
   refine vs_loop (σ := Bool) (fun y => y = true → b < a) (fun y => [(0, .sl id 2 2), (1, i64 0), (2, i64 2), (3, fnA 76), (8, i64 1), (9, i64 (if y then 0 else 1))]) (fun y => H.set id (.row 2 2 (sdF d (if y then sot a b else [a, b])))) (fun y => if y then 0 else 1) false (fun h => by cases h) ?_ HSub_rfl fun y hy => ?_
   ·simp only [vsAll, Nat.reduceEqDiff, ↓reduceIte, reduceCtorEq, eq_self]
   ·cases y
    ·simp only [vsAll, ↓reduceIte]
     refine vs_draw2 [0, 0, 0, 0, 0, 0, 0, 0, 0, 0, 0, 0, 0, 0, 0, 0, 0] [] [0, 1, 2, 3, 4, 5, 6, 7, 8, 9, 10, 11, 12, 13, 14, 15, 16] (by decide +kernel) ?_
     simp only [vsAll, binA, binLitA, intA, loadA, loadRow, partA, partOk, indexAddrA, opA, guardV, dstOk, Nat.reduceLT, Nat.reduceEqDiff, Int.reduceSub, Int.reduceLE, Int.reduceLT, Int.reduceToNat, ↓reduceIte, reduceCtorEq, forall_const, eq_self, wtAll, sdF_at]
     refine ⟨by decide, by simp only [InR_i64]; ((try clear ho); omega), by decide, qgcall (i64 ((b : Int) - a)) (fun _ => ⟨by simp only [vsAll, opA, Nat.reduceEqDiff, ↓reduceIte, eq_self], by simp only [vsAll, okAll, opsA, opA, Nat.reduceEqDiff, ↓reduceIte, eq_self], scmp_tri b _ a _ _ hb ha⟩) ?_⟩
     simp only [vsAll, binA, binLitA, intA, pickA, opA, guardV, dstOk, Nat.reduceLT, Nat.reduceEqDiff, ↓reduceIte, implies_true, eq_self]
     refine condD (fun hc => ?_) (fun hc => ?_)
     ·have hba : b < a := by ((try clear ho); omega)
      have es : sot a b = [b, a] := if_pos hba
      simp only [vsAll]
      refine vs_draw2 [0, 0, 0, 0, 0, 0, 0, 0, 0, 0, 0, 0, 0, 0, 0, 1, 2, 3] [([0, 1, 2, 3, 4, 5, 6, 7, 8, 9, 10, 11, 12, 13, 14], [], 15), ([16], [], 17)] [] (by decide +kernel) ?_
      simp only [vsAll, binA, binLitA, intA, loadA, loadRow, partA, partOk, indexAddrA, cellA, opA, newCells, okCells, storeObj, dstOk, nilSliceOp, Nat.reduceAdd, Nat.reduceLT, Nat.reduceEqDiff, Int.reduceSub, Int.reduceLE, Int.reduceToNat, ↓reduceIte, reduceCtorEq, eq_self, wtAll, sdF_at]
      refine ⟨by simp only [InR_i64]; ((try clear ho); omega), by simp only [InR_i64]; ((try clear ho); omega), by decide, by decide, by decide, by decide, by simp only [InR_i64]; ((try clear ho); omega), loop_next true (fun _ => hba) (by decide) (by simp only [vsAll, Nat.reduceEqDiff, ↓reduceIte, reduceCtorEq, eq_self]) ?_⟩
      rw [Hp.set_set, Hp.set_set]
      refine Go.V.HSub.set HSub_rfl (row_ext fun q hq => ?_)
      show _ = sdF d (sot a b) q
      rw [es]
      rcases (by ((try clear ho); omega) : q = 0 ∨ q = 1) with rfl | rfl <;> rfl
     ·have hba : ¬ b < a := by ((try clear ho); omega)
      have es : sot a b = [a, b] := if_neg hba
      simp only [vsAll, binA, binLitA, intA, opA, dstOk, nilSliceOp, Nat.reduceLT, Nat.reduceEqDiff, Int.reduceAdd, ↓reduceIte, reduceCtorEq, eq_self]
      exact ⟨by simp only [InR_i64]; ((try clear ho); omega), loop_next true trivial (by decide) (by simp only [vsAll, Nat.reduceEqDiff, ↓reduceIte, reduceCtorEq, eq_self]) (by show Go.V.HSub _ (H.set id (.row 2 2 (sdF d (sot a b)))); rw [es]; exact HSub_rfl)⟩
    ·simp only [vsAll, ↓reduceIte, eq_self]
     refine vs_draw2 [0, 0, 0, 0, 0, 0, 0, 0, 0, 0, 0, 0, 0, 0, 0, 0, 0] [] [0, 1, 2, 3, 4, 5, 6, 7, 8, 9, 10, 11, 12, 13, 14, 15, 16] (by decide +kernel) ?_
     simp only [vsAll, binA, binLitA, intA, loadA, loadRow, partA, partOk, indexAddrA, opA, guardV, dstOk, Nat.reduceLT, Nat.reduceEqDiff, Int.reduceSub, Int.reduceNeg, Int.reduceLE, Int.reduceLT, Int.reduceToNat, ↓reduceIte, reduceCtorEq, implies_true, eq_self, wtAll, sdF_at]
     refine qgcall (i64 0) (fun g => by cases g) ?_
     simp only [vsAll, binA, binLitA, intA, pickA, opA, guardV, dstOk, nilSliceOp, Nat.reduceLT, Nat.reduceEqDiff, Int.reduceAdd, Int.reduceNeg, Int.reduceLT, ↓reduceIte, reduceCtorEq, eq_self]
     exact ⟨by simp only [InR_i64]; ((try clear ho); omega), loop_next true trivial (by decide) (by simp only [vsAll, Nat.reduceEqDiff, Int.reduceNeg, ↓reduceIte, reduceCtorEq, eq_self]) HSub_rfl⟩
  ·simp only [vsAll, binA, binLitA, intA, opA, dstOk, Nat.reduceLT, Nat.reduceEqDiff, Int.reduceLT, ↓reduceIte, reduceCtorEq, eq_self]
   refine Ent.ret ⟨rfl, ?_⟩
   simp only [vsAll, resA, retA.eq_2, Tryz.results104]
   exact ⟨_, HSub_rfl, rfl, rfl⟩
theorem spdq_tri (n id : Nat) (c : Int) (H : Hp) (hn : 1 ≤ n ∧ n ≤ 2) {G : Hp} (h : Tri Tryz.prog (fnA 104) [.sl id 2 n, i64 0, i64 n, fnA 76] H fun r H' => r = .ret (.tuple []) ∧ H' = G) : Tri Tryz.prog (fnA 92) [.sl id 2 n, i64 0, i64 n, i64 c, fnA 76] H fun r H' => r = .ret (.tuple []) ∧ H' = G := by
 have cd : decide ((n : Int) - 0 ≤ 12) = true := decide_eq_true (by omega)
 have cd2 : decide ((n : Int) ≤ 12) = true := decide_eq_true (by omega)
 refine tri_vs (m := mset []) Tryz.func92 (by kernel_rfl) rfl (by simp only [List.length_append, List.length_cons, List.length_nil, Tryz.ntmps92]; decide) ?_
 simp only [vsAll, opA, dstOk, nilSliceOp, Nat.reduceLT, eq_self, Tryz.ntmps92]
 refine vs_loop (σ := Unit) (fun _ => True) (fun _ => [(0, .sl id 2 n), (1, i64 0), (2, i64 n), (3, i64 c), (4, fnA 76), (10, boo true), (11, boo true)]) (fun _ => H) (fun _ => 0) () trivial ?_ HSub_rfl fun _ _ => ?_
 ·simp only [vsAll, argFr, Nat.reduceEqDiff, ↓reduceIte, reduceCtorEq, eq_self]
 ·simp only [vsAll, binA, binLitA, intA, okAll, stAll, opsA, opA, dstOk, nilSliceOp, Nat.reduceLT, Nat.reduceEqDiff, ↓reduceIte, reduceCtorEq, eq_self, cd2, Int.sub_zero]
  refine ⟨by simp only [InR_i64]; omega, callK h ?_⟩
  rintro r H' ⟨rfl, rfl⟩
  simp only [vsAll]
  refine Ent.ret ⟨rfl, ?_⟩
  simp only [vsAll, resA, retA.eq_2, Tryz.results92]
  exact ⟨_, HSub_rfl, rfl, rfl⟩
theorem ssort_tri (n id : Nat) (H : Hp) (hn : 1 ≤ n ∧ n ≤ 2) {G : Hp} (h : Tri Tryz.prog (fnA 104) [.sl id 2 n, i64 0, i64 n, fnA 76] H fun r H' => r = .ret (.tuple []) ∧ H' = G) : Tri Tryz.prog (fnA 75) [.sl id 2 n, fnA 76] H fun r H' => r = .ret (.tuple []) ∧ H' = G := by
 obtain ⟨c, hc⟩ := len_tri n (by omega)
 refine tri_vs (m := mset []) Tryz.func75 (by kernel_rfl) rfl (by simp only [List.length_append, List.length_cons, List.length_nil, Tryz.ntmps75]; decide) ?_
 simp only [vsAll, lenA, convA, okAll, stAll, opsA, opA, dstOk, nilSliceOp, argFr, Nat.reduceLT, Nat.reduceEqDiff, ↓reduceIte, reduceCtorEq, eq_self, wtAll, Tryz.ntmps75]
 refine ⟨by simp only [InR_u64]; omega, callK_pure (hc _) ?_⟩
 simp only [vsAll, okAll, stAll, opsA, opA, dstOk, argFr, Nat.reduceLT, Nat.reduceEqDiff, ↓reduceIte, eq_self]
 refine callK (spdq_tri n id c _ hn h) ?_
 rintro r H' ⟨rfl, rfl⟩
 simp only [vsAll]
 refine Ent.ret ⟨rfl, ?_⟩
 simp only [vsAll, resA, retA.eq_2, Tryz.results75]
 exact ⟨_, HSub_rfl, rfl, rfl⟩
/-- One set or two, put in order. -/
theorem ssorted_tri (d : Dr) {K M : List Nat} (hp : K.Perm M) (hs : M.Pairwise (· < ·)) (hl : 1 ≤ M.length ∧ M.length ≤ 2) (hM : ∀ m ∈ M, m < 64) (id : Nat) (H : Hp) (ho : H id = some (.row 2 K.length (sdF d K))) :
  Tri Tryz.prog (fnA 75) [.sl id 2 K.length, fnA 76] H fun r H' => r = .ret (.tuple []) ∧ H' = H.set id (.row 2 K.length (sdF d M)) := by
 have hlen := hp.length_eq
 match K, hlen, hp, ho with
 | [], hlen, _, _ => simp at hlen; omega
 | a :: b :: c :: K, hlen, _, _ => simp at hlen; omega
 | [a], hlen, hp, ho =>
   have e : M = [a] := List.perm_singleton.1 hp.symm
   subst e
   refine (ssort_tri 1 id H (by omega) (sins1_tri d a id H)).mono ?_
   rintro r H' ⟨rfl, rfl⟩
   refine ⟨rfl, ?_⟩
   funext q
   simp only [Hp.set]
   split
   ·rename_i e; rw [e]; exact ho
   ·rfl
 | [a, b], hlen, hp, ho =>
   have ha := hM a (hp.subset (by simp))
   have hb := hM b (hp.subset (by simp))
   have e : sot a b = M := by
    match M, hlen, hs, hp with
    | [x, y], _, hs, hp =>
      have hxy : x < y := by simpa using hs
      have hx : x = a ∨ x = b := by simpa using hp.symm.subset (by simp : x ∈ [x, y])
      have hy : y = a ∨ y = b := by simpa using hp.symm.subset (by simp : y ∈ [x, y])
      unfold sot
      rcases hx with rfl | rfl <;> rcases hy with rfl | rfl
      ·omega
      ·rw [if_neg (by omega)]
      ·rw [if_pos (by omega)]
      ·omega
   have := ssort_tri 2 id H (by omega) (sins2_tri d a b id H ha hb ho)
   rw [e] at this
   exact this
end Go.Proofs.YtclkjifgipcamaaGreat
end
section
set_option linter.unusedVariables false
set_option linter.unusedSimpArgs false
set_option maxHeartbeats 8000000
set_option maxRecDepth 100000
namespace Go.Proofs.YtclkjifgipcamaaGreat
open Go.V
theorem azT138 : azT Tryz.prog 138 = some (1, 1, [.map none]) := by kernel_rfl
theorem azT95 : azT Tryz.prog 95 = some (1, 1, [.nilFunc]) := by kernel_rfl
abbrev dfA (d : Dr) (l : List (Nat × Bool)) : AV := .func (.func 39) [.arr 6 1 fun r => List.take 1 (List.drop (4 + r * 1) (rhC d l (arK d d.be.length)))] []
/-- The sets, each of which may be what opened. -/
structure SetsOk (d : Dr) (M : List Nat) : Prop where
 s : M.Pairwise (· < ·)
 l : M.length ≤ 2
 m : ∀ n, n ∈ M ↔ ∃ b ∈ allB d, n = opB d b
def kO : Value → Nat
 | .agg a => match a.toList with
   | .int _ n :: _ => n.toNat
   | _ => 0
 | _ => 0
theorem kO_sd (o x : Nat) : kO (sdV o x) = o := by simp [kO]
theorem skey_of {d : Dr} {M : List Nat} (hM : SetsOk d M) {es : Array MapEntry} (h : MapIs (stF (sdK' d (allB d) (allB d).length)) es) {e : MapEntry} (he : e ∈ es.toList) : kO e.key ∈ M ∧ e.key = sdV (kO e.key) (dlD d (kO e.key)) := by
 obtain ⟨q, hq, hk⟩ := List.mem_map.1 (stF_some.1 (h.here e he)).1
 rw [← hk, kO_sd]
 refine ⟨(hM.m _).2 ⟨_, ?_, rfl⟩, rfl⟩
 have := List.mem_range.1 hq
 rw [List.getD_eq_getElem?_getD, List.getElem?_eq_getElem this]
 exact List.getElem_mem this
theorem skeys_nd {d : Dr} {M : List Nat} (hM : SetsOk d M) {es : Array MapEntry} (h : MapIs (stF (sdK' d (allB d) (allB d).length)) es) {T : List MapEntry} (hT : T.Nodup) (hs : ∀ e ∈ T, e ∈ es.toList) : (T.map fun e => kO e.key).Nodup := by
 refine List.pairwise_map.2 (List.Pairwise.imp_of_mem (fun {a b} ha hb hne => ?_) hT)
 intro e
 apply hne
 have k1 := (skey_of hM h (hs a ha)).2
 have k2 := (skey_of hM h (hs b hb)).2
 have k3 : a.key = b.key := by rw [k1, k2, e]
 have ap := h.apart
 obtain ⟨p, hp, rfl⟩ := List.getElem_of_mem (hs a ha)
 obtain ⟨q, hq, rfl⟩ := List.getElem_of_mem (hs b hb)
 have : p = q := by
  apply Classical.byContradiction
  intro hpq
  rcases Nat.lt_or_ge p q with z | z
  ·exact (List.pairwise_iff_getElem.1 ap) p q hp hq z k3
  ·exact (List.pairwise_iff_getElem.1 ap) q p hq hp (by omega) k3.symm
 subst this; rfl
theorem skeys_le {d : Dr} {M : List Nat} (hM : SetsOk d M) {es : Array MapEntry} (h : MapIs (stF (sdK' d (allB d) (allB d).length)) es) {T : List MapEntry} (hT : T.Nodup) (hs : ∀ e ∈ T, e ∈ es.toList) : T.length ≤ 2 := by
 have h1 : (T.map fun e => kO e.key) ⊆ M := fun x hx => by
  obtain ⟨e, he, rfl⟩ := List.mem_map.1 hx
  exact (skey_of hM h (hs e he)).1
 have := (skeys_nd hM h hT hs).length_le_of_subset h1
 have := hM.l
 simp at *
 omega
theorem skeys_perm {d : Dr} {M : List Nat} (hM : SetsOk d M) {es : Array MapEntry} (h : MapIs (stF (sdK' d (allB d) (allB d).length)) es) {T : List MapEntry} (hT : T.Nodup) (hall : ∀ e, e ∈ T ↔ e ∈ es.toList) : (T.map fun e => kO e.key).Perm M := by
 refine (List.perm_ext_iff_of_nodup (skeys_nd hM h hT fun e he => (hall e).1 he) (hM.s.imp fun h e => by omega)).2 fun n => ?_
 constructor
 ·intro hn
  obtain ⟨e, he, rfl⟩ := List.mem_map.1 hn
  exact (skey_of hM h ((hall e).1 he)).1
 ·intro hn
  obtain ⟨b, hb, rfl⟩ := (hM.m n).1 hn
  obtain ⟨q, hq, rfl⟩ := List.getElem_of_mem hb
  obtain ⟨e, he, h3, _⟩ := h.all _ _ (stF_some.2 ⟨List.mem_map.2 ⟨q, List.mem_range.2 hq, rfl⟩, rfl⟩)
  refine List.mem_map.2 ⟨e, (hall e).2 he, ?_⟩
  rw [h3, kO_sd, List.getD_eq_getElem?_getD, List.getElem?_eq_getElem hq]; rfl
theorem napp (L : List Nat) (x : Nat) {q : Nat} (h : q < L.length) : (L ++ [x]).getD q 0 = L.getD q 0 := by simp [List.getD_eq_getElem?_getD, List.getElem?_append_left h]
theorem nappR (L : List Nat) (x : Nat) : (L ++ [x]).getD L.length 0 = x := by simp [List.getD_eq_getElem?_getD]
theorem df_tri {d : Dr} (l : List (Nat × Bool)) (k : OkD d) (o : Nat) (H : Hp) (ho : o < 64) : PTri Tryz.prog (dfA d l) [u64 o] H (u64 (dlD d o : Nat)) :=
 tri_bound (Tri.args (args' := [.arr 6 1 (arF (arK d d.be.length)), u64 o]) (dull_tri _ o _ (arK_lt k _ (Nat.le_refl _)) ho) rfl fun j hj => by
  match j, hj with
  | 0, _ => exact rh_arr d l _
  | 1, _ => exact .refl _)
theorem sounds_tri {d : Dr} {l : List (Nat × Bool)} (k : OkD d) (kl : OkL d l) {M : List Nat} (hM : SetsOk d M) (H : Hp) : PTri Tryz.prog (fnA 43) [rH d l] H (sdA d M) := by
 have n1 := k.n1
 have n6 := k.n6
 obtain ⟨hBl, hB0⟩ := allB_len k
 have hMl := hM.l
 have hM0 : 1 ≤ M.length := by
  have : opB d (allB d)[0] ∈ M := (hM.m _).2 ⟨_, List.getElem_mem hB0, rfl⟩
  exact List.length_pos_of_mem this
 have hM64 : ∀ m ∈ M, m < 64 := fun m hm => by
  obtain ⟨b, _, rfl⟩ := (hM.m m).1 hm
  have := opB_lt d b
  have p6 : 2 ^ d.lim.length ≤ 2 ^ 6 := Nat.pow_le_pow_right (by decide) n6
  omega
 refine Tri.thawX (R1 := fun r H' => ∃ id, H id = none ∧ r = .ret (.sl id 2 M.length) ∧ H' = H.set id (.row 2 M.length (sdF d M))) ?_ ?_
 rotate_left
 ·rintro r H' ⟨id, hid, rfl, rfl⟩
  exact .inr ⟨_, sdA d M, id, 2, _, sdF d M, rfl, .inr ⟨Hp.set_same _ _ _, .leaf ⟨rfl, sdF d M, fun _ _ => rfl, rfl⟩⟩, rfl, set_delO hid⟩
 refine Tri.drop ?_
 refine tri_wm Tryz.func43 (by kernel_rfl) rfl (by simp only [List.length_append, List.length_cons, List.length_nil, Tryz.ntmps43]; decide) ?_
 refine wps_cutG4 (m := mset [3, 4]) (σ := (Nat × Nat × Nat) × Array MapEntry × Nat) (fun y => H y.1.1 = none ∧ H y.1.2.1 = none ∧ H y.1.2.2 = none ∧ ¬ y.1.2.1 = y.1.1 ∧ ¬ y.1.2.2 = y.1.1 ∧ ¬ y.1.2.2 = y.1.2.1 ∧ MapIs (stF (sdK' d (allB d) (allB d).length)) y.2.1 ∧ BornOk y.2.1 y.2.2) (fun y => [(3, .ref y.1.2.1 0 1 0 0)])
  (fun y => ((H.set y.1.1 (.raw (.map y.2.1 y.2.2))).set y.1.2.1 (.box 1 1 fun _ => [.map y.1.1])).set y.1.2.2 (.raw (.deferred (some [])))) (fun y => [.mark y.1.2.2]) ?_ fun y hy => ?_
 ·simp only [vsAll, loadA, loadRow, partA, partOk, fieldAddrA, nilCheckA, boxA, boxZ, cellA, cellsA, okAll, stAll, opsA, opA, allocA, newCells, okCells, storeObj, nM, dstOk, nilSliceOp, argFr, Nat.reduceAdd, Nat.reduceMul, Nat.reduceLT, Nat.reduceEqDiff, Nat.reduceBEq, ↓reduceIte, eq_self, wtAll, Tryz.ntmps43, azT138, azT95]
  intro im hh_im; (try simp only [Hp.set_none, ite_none] at hh_im); intro i3 hh_i3; (try simp only [ite_none] at hh_i3); intro i4 hh_i4; (try simp only [ite_none] at hh_i4)
  have g : (¬ i3 = im ∧ H im = none ∧ H i3 = none) ∧ ¬ i4 = i3 ∧ ¬ i4 = im ∧ H i4 = none := by
   simp_all
  obtain ⟨⟨a1, a2, a3⟩, b1, b2, b3⟩ := g
  have a1' : ¬ im = i3 := fun e => a1 e.symm
  have b1' : ¬ i3 = i4 := fun e => b1 e.symm
  have b2' : ¬ im = i4 := fun e => b2 e.symm
  skip
  refine callK_pure (blows_tri d l _) ?_
  simp only [vsAll]
  refine vs_rangeE (σ := Array MapEntry × Nat) (caps := [rhB d l]) (ylI (allB d)) (fun i y => i ≤ (allB d).length ∧ MapIs (stF (sdK' d (allB d) i)) y.1 ∧ BornOk y.1 y.2)
   (fun i y => ((H.set im (.raw (.map y.1 y.2))).set i3 (.box 1 1 fun _ => [.map im])).set i4 (.box 1 1 fun _ => [dfA d l])) (#[], 0) Tryz.func90 (by kernel_rfl) rfl (by simp only [vsAll, opA, ↓reduceIte, eq_self]) (by simp only [vsAll, opA, ↓reduceIte, eq_self]) (by decide) (fun v hv => by obtain ⟨q, _, rfl⟩ := List.mem_map.1 hv; rfl)
   (fun yf H K hi => bw1_tri k hi) ⟨Nat.zero_le _, by rw [show sdK' d (allB d) 0 = [] from rfl, stF_nil]; exact MapIs.empty, .empty⟩ ?_ ?_ ?_ ?_
  ·rw [Hp.set_set, Hp.set_set]
   exact HSub_rfl
  ·intro i y _ q
   simp only [Hp.set]
   by_cases e1 : q = i4
   ·rw [if_pos e1, if_pos e1]
   ·by_cases e2 : q = i3
    ·rw [if_neg e1, if_neg e1, if_pos e2, if_pos e2]
    ·by_cases e3 : q = im
     ·rw [if_neg e1, if_neg e1, if_neg e2, if_neg e2, if_pos e3, if_pos e3]; simp
     ·rw [if_neg e1, if_neg e1, if_neg e2, if_neg e2, if_neg e3, if_neg e3]
  ·rintro E i v ⟨es, ck⟩ hv ⟨hi, hes, hbo⟩ ap lid did l' lo h1 h2 h3 e1 e2
   simp only [] at hi hes hbo
   have q1 : E i4 = none := ap.E (by rw [Hp.set_same]; exact Option.some_ne_none _)
   have q2 : E i3 = none := ap.E (by rw [Hp.set_ne _ _ b1', Hp.set_same]; exact Option.some_ne_none _)
   have q3 : E im = none := ap.E (by rw [Hp.set_ne _ _ b2', Hp.set_ne _ _ a1', Hp.set_same]; exact Option.some_ne_none _)
   have x1 : mrg H E im = none := by rw [mrg_none q3]; exact a2
   have x2 : mrg H E i3 = none := by rw [mrg_none q2]; exact a3
   have x3 : mrg H E i4 = none := by rw [mrg_none q1]; exact b3
   simp only [Hp.set_none] at h1 h2
   obtain ⟨⟨f1, f1'⟩, ⟨f2, f2'⟩, ⟨f4, f4'⟩, f3⟩ := h1
   obtain ⟨⟨g1, g1'⟩, ⟨g2, g2'⟩, ⟨g4, g4'⟩, g3⟩ := h2
   have f3' : mrg H E lid = none := by rw [mrg_none e1]; exact f3
   have g3' : mrg H E did = none := by rw [mrg_none e2]; exact g3
   have eM : ∀ es ck, mrg (((H.set im (.raw (.map es ck))).set i3 (.box 1 1 fun _ => [.map im])).set i4 (.box 1 1 fun _ => [dfA d l])) E = (((mrg H E).set im (.raw (.map es ck))).set i3 (.box 1 1 fun _ => [.map im])).set i4 (.box 1 1 fun _ => [dfA d l]) := fun es ck => by rw [mrg_setA q1, mrg_setA q2, mrg_setA q3]
   simp only [eM]
   have h4 : ¬ did = lid := fun e => h3 e.symm
   generalize mrg H E = M0 at *
   obtain ⟨b, hq, rfl⟩ : ∃ b, (allB d)[i]? = some b ∧ v = [intsAV b] := by
    unfold ylI at hv
    rw [List.getElem?_map] at hv
    cases hz : (allB d)[i]? with
    | none => rw [hz] at hv; cases hv
    | some q => rw [hz] at hv; exact ⟨q, rfl, (Option.some.inj hv).symm⟩
   have hil := (List.getElem?_eq_some_iff.1 hq).1
   have hgi : (allB d).getD i [] = b := by rw [List.getD_eq_getElem?_getD, hq]; rfl
   obtain ⟨hbl, hb52⟩ := allB_mem k (List.mem_of_getElem? hq)
   skip
   simp only [vsAll, loadA, loadRow, partA, partOk, fieldAddrA, nilCheckA, okAll, stAll, opsA, opA, dstOk, quietOk, nilSliceOp, Nat.reduceLT, Nat.reduceLeDiff, Nat.reduceEqDiff, Nat.reduceBEq, ↓reduceIte, eq_self, wtAll, AsgE_normal]
   refine callK (settle_tri d b _ k hbl hb52) ?_
   rintro r H' ⟨rfl, u, hr, hst, rfl⟩
   have eo := opB_eq k hr hst
   have hll := lst_len u d.lim.length
   simp only [vsAll, binA, binLitA, intA, extractA, okAll, stAll, opsA, opA, dstOk, quietOk, nilSliceOp, Nat.reduceAdd, Nat.reduceLT, Nat.reduceEqDiff, Nat.reduceBEq, ↓reduceIte, eq_self]
   refine rwant_call (fun _ => ?_) (fun hv => by cases hv)
   simp only [vsAll, lenA, opA, dstOk, quietOk, nilSliceOp, Nat.reduceLT, Nat.reduceEqDiff, Nat.reduceBEq, ↓reduceIte, eq_self, wtAll, hll]
   refine vs_loop (σ := Nat) (fun j => j ≤ d.lim.length) (fun j => [(3, .ref i3 0 1 0 0), (4, .ref i4 0 1 0 0), (9, u64 (opN u j : Nat)), (39, .rsl d.lim.length 1 (intF (lst u d.lim.length))), (40, i64 d.lim.length), (41, i64 j)])
    (fun _ => (((((M0.set im (.raw (.map es ck))).set i3 (.box 1 1 fun _ => [.map im])).set i4 (.box 1 1 fun _ => [dfA d l])).set did (.raw (.deferred (some [])))).set lid (lo .busy none))) (fun j => d.lim.length - j) 0 (Nat.zero_le _) ?_ ?_ fun j hj => ?_
   ·have e0 : opN u 0 = 0 := rfl
    simp only [vsAll, Nat.reduceEqDiff, ↓reduceIte, eq_self, e0, Int.natCast_zero]
   ·rw [Hp.set_set]
    exact HSub_rfl
   ·simp only [vsAll, binA, binLitA, intA, opA, dstOk, quietOk, Nat.reduceLT, Nat.reduceEqDiff, ↓reduceIte, eq_self]
    refine condD (fun hd => ?_) (fun hd => ?_)
    ·have hjl : j < d.lim.length := by ((try clear hh_im hh_i3 hh_i4 a1 a1' a2 a3 b1 b1' b2 b2' b3 h3 h4 f1 f2 f1' f2' g1 g2 g1' g2' f4 f4' g4 g4' x1 x2 x3 f3' g3'); omega)
     have hju := lst_at u hjl
     have l1 := opN_lt u j
     have l2 := opN_lt u (j + 1)
     have p1 : 2 ^ j ≤ 2 ^ 5 := Nat.pow_le_pow_right (by decide) (by ((try clear hh_im hh_i3 hh_i4 a1 a1' a2 a3 b1 b1' b2 b2' b3 h3 h4 f1 f2 f1' f2' g1 g2 g1' g2' f4 f4' g4 g4' x1 x2 x3 f3' g3'); omega))
     have p2 : 2 ^ (j + 1) ≤ 2 ^ 6 := Nat.pow_le_pow_right (by decide) (by ((try clear hh_im hh_i3 hh_i4 a1 a1' a2 a3 b1 b1' b2 b2' b3 h3 h4 f1 f2 f1' f2' g1 g2 g1' g2' f4 f4' g4 g4' x1 x2 x3 f3' g3'); omega))
     have ep : (1 : Int) * 2 ^ j = ((2 ^ j : Nat) : Int) := by rw [Int.one_mul]; simp
     have es2 : opN u (j + 1) = if 0 < u j then opN u j ||| 2 ^ j else opN u j := rfl
     simp only [vsAll, binA, binLitA, intA, loadA, loadRow, partA, partOk, indexAddrA, opA, dstOk, quietOk, nilSliceOp, Nat.reduceLT, Nat.reduceEqDiff, Nat.reduceBEq, ↓reduceIte, eq_self, wtAll, intF_at, hju]
     refine ⟨⟨by ((try clear hh_im hh_i3 hh_i4 a1 a1' a2 a3 b1 b1' b2 b2' b3 h3 h4 f1 f2 f1' f2' g1 g2 g1' g2' f4 f4' g4 g4' x1 x2 x3 f3' g3'); omega), by ((try clear hh_im hh_i3 hh_i4 a1 a1' a2 a3 b1 b1' b2 b2' b3 h3 h4 f1 f2 f1' f2' g1 g2 g1' g2' f4 f4' g4 g4' x1 x2 x3 f3' g3'); omega)⟩, hjl, condD (fun hc => ?_) (fun hc => ?_)⟩
     ·rw [if_pos hc] at es2
      simp only [vsAll, binA, binLitA, intA, cellA, cellsA, okParts, buildSliceA, partIdx, elemsA, lensA, okAll, stAll, opsA, partsA, partsOk, opA, dstOk, quietOk, Nat.reduceAdd, Nat.reduceMul, Nat.reduceLT, Nat.reduceLeDiff, Nat.reduceEqDiff, Nat.reduceBEq, ↓reduceIte, eq_self, wtAll, ep]
      refine ⟨⟨by ((try clear hh_im hh_i3 hh_i4 a1 a1' a2 a3 b1 b1' b2 b2' b3 h3 h4 f1 f2 f1' f2' g1 g2 g1' g2' f4 f4' g4 g4' x1 x2 x3 f3' g3'); omega), by ((try clear hh_im hh_i3 hh_i4 a1 a1' a2 a3 b1 b1' b2 b2' b3 h3 h4 f1 f2 f1' f2' g1 g2 g1' g2' f4 f4' g4 g4' x1 x2 x3 f3' g3'); omega), inrN (by ((try clear hh_im hh_i3 hh_i4 a1 a1' a2 a3 b1 b1' b2 b2' b3 h3 h4 f1 f2 f1' f2' g1 g2 g1' g2' f4 f4' g4 g4' x1 x2 x3 f3' g3'); omega))⟩, callK_pure (union_tri _ _ _ (by ((try clear hh_im hh_i3 hh_i4 a1 a1' a2 a3 b1 b1' b2 b2' b3 h3 h4 f1 f2 f1' f2' g1 g2 g1' g2' f4 f4' g4 g4' x1 x2 x3 f3' g3'); omega)) (by ((try clear hh_im hh_i3 hh_i4 a1 a1' a2 a3 b1 b1' b2 b2' b3 h3 h4 f1 f2 f1' f2' g1 g2 g1' g2' f4 f4' g4 g4' x1 x2 x3 f3' g3'); omega))) ?_⟩
      rw [← es2]
      simp only [vsAll, binA, binLitA, intA, opA, dstOk, quietOk, nilSliceOp, Nat.reduceLT, Nat.reduceEqDiff, Nat.reduceBEq, ↓reduceIte, eq_self]
      refine ⟨by simp only [InR_i64]; ((try clear hh_im hh_i3 hh_i4 a1 a1' a2 a3 b1 b1' b2 b2' b3 h3 h4 f1 f2 f1' f2' g1 g2 g1' g2' f4 f4' g4 g4' x1 x2 x3 f3' g3'); omega), loop_next (j + 1) hjl (by ((try clear hh_im hh_i3 hh_i4 a1 a1' a2 a3 b1 b1' b2 b2' b3 h3 h4 f1 f2 f1' f2' g1 g2 g1' g2' f4 f4' g4 g4' x1 x2 x3 f3' g3'); omega)) ?_ HSub_rfl⟩
      simp only [vsAll, Nat.reduceEqDiff, ↓reduceIte, eq_self, Int.natCast_add, Int.natCast_one]
     ·rw [if_neg hc] at es2
      simp only [vsAll, binA, binLitA, intA, opA, dstOk, quietOk, Nat.reduceLT, Nat.reduceEqDiff, ↓reduceIte, eq_self]
      refine ⟨by simp only [InR_i64]; ((try clear hh_im hh_i3 hh_i4 a1 a1' a2 a3 b1 b1' b2 b2' b3 h3 h4 f1 f2 f1' f2' g1 g2 g1' g2' f4 f4' g4 g4' x1 x2 x3 f3' g3'); omega), loop_next (j + 1) hjl (by ((try clear hh_im hh_i3 hh_i4 a1 a1' a2 a3 b1 b1' b2 b2' b3 h3 h4 f1 f2 f1' f2' g1 g2 g1' g2' f4 f4' g4 g4' x1 x2 x3 f3' g3'); omega)) ?_ HSub_rfl⟩
      simp only [vsAll, Nat.reduceEqDiff, ↓reduceIte, eq_self, es2, Int.natCast_add, Int.natCast_one]
    ·have ej : j = d.lim.length := by ((try clear hh_im hh_i3 hh_i4 a1 a1' a2 a3 b1 b1' b2 b2' b3 h3 h4 f1 f2 f1' f2' g1 g2 g1' g2' f4 f4' g4 g4' x1 x2 x3 f3' g3'); omega)
     subst ej
     rw [← eo]
     have hob : opB d b < 64 := by
      have := opB_lt d b
      have p6 : 2 ^ d.lim.length ≤ 2 ^ 6 := Nat.pow_le_pow_right (by decide) n6
      ((try clear hh_im hh_i3 hh_i4 a1 a1' a2 a3 b1 b1' b2 b2' b3 h3 h4 f1 f2 f1' f2' g1 g2 g1' g2' f4 f4' g4 g4' x1 x2 x3 f3' g3'); omega)
     have hdb := dlD_lt d (opB d b)
     obtain ⟨o, z1, z2, z3, z4, z5⟩ := hes.find und138 key99 (sdK (opB d b) (dlD d (opB d b)) hob hdb) (fun q v hq => by
      obtain ⟨w, hw, rfl⟩ := List.mem_map.1 (stF_some.1 hq).1
      refine sdK _ _ ?_ (dlD_lt d _)
      have := opB_lt d ((allB d).getD w [])
      have p6 : 2 ^ d.lim.length ≤ 2 ^ 6 := Nat.pow_le_pow_right (by decide) n6
      ((try clear hh_im hh_i3 hh_i4 a1 a1' a2 a3 b1 b1' b2 b2' b3 h3 h4 f1 f2 f1' f2' g1 g2 g1' g2' f4 f4' g4 g4' x1 x2 x3 f3' g3'); omega))
     have hi' := z5 (.bool true) ck
     rw [stF_upd, ← hgi, ← sdK_succ, hgi] at hi'
     simp only [vsAll, ↓reduceIte, eq_self]
     refine vs_draw2R [0, 0, 0, 0, 0, 0, 1] [([0, 1, 2, 3, 4, 5], [], 6)] [] (by repeat' constructor) (by decide +kernel) ?_
     simp only [vsAll, loadA, loadRow, partA, partOk, opA, dstOk, Nat.reduceLT, Nat.reduceEqDiff, ↓reduceIte, eq_self, wtAll, hh_i4, f1', f2', g1', g2']
     refine qcall _ ⟨by simp only [vsAll, opA, Nat.reduceEqDiff, ↓reduceIte, eq_self], by simp only [vsAll, okAll, opsA, opA, ↓reduceIte, eq_self], df_tri l k (opB d b) _ hob⟩ ?_
     simp only [vsAll, cellA, cellsA, fillA, okParts, partsA, partsOk, opA, mapUpA, dstOk, Nat.reduceAdd, Nat.reduceLT, Nat.reduceLeDiff, Nat.reduceEqDiff, ↓reduceIte, eq_self, wtAll, hh_i3, hh_i4, f4', g4']
     refine ⟨o, z2, ?_⟩
     simp only [vsAll, ↓reduceIte, eq_self, f4, RndE_normal]
     exact ⟨⟨_, _, rfl⟩, _, ⟨(updM es (sdV (opB d b) (dlD d (opB d b))) (.bool true) ck o, updC ck o), ⟨hil, hi', hbo.upd _ _ o⟩, rfl⟩, by (refine HSub_eqn fun jj => ?_; refine (Classical.em (jj = im)).elim (fun E0 => by rw [E0]; first | (left; simp only [vsAll, ↓reduceIte, reduceCtorEq, eq_self, hh_i3, hh_i4, f4', g4']; done) | (right; simp only [vsAll, ↓reduceIte, eq_self, hh_i3, hh_i4, f4', g4']; done)) (fun E0 => ?_); refine (Classical.em (jj = i3)).elim (fun E1 => by rw [E1]; first | (left; simp only [vsAll, ↓reduceIte, reduceCtorEq, eq_self, hh_i4, f2', g2']; done) | (right; simp only [vsAll, ↓reduceIte, eq_self, hh_i3, hh_i4, f2', g2']; done)) (fun E1 => ?_); refine (Classical.em (jj = i4)).elim (fun E2 => by rw [E2]; first | (left; simp only [vsAll, ↓reduceIte, reduceCtorEq, eq_self, f1', g1']; done) | (right; simp only [vsAll, ↓reduceIte, eq_self, hh_i4, f1', g1']; done)) (fun E2 => ?_); refine (Classical.em (jj = did)).elim (fun E3 => by rw [E3]; first | (left; simp only [vsAll, ↓reduceIte, reduceCtorEq, eq_self, h4]; done) | (right; simp only [vsAll, ↓reduceIte, eq_self, h4, g4]; done)) (fun E3 => ?_); refine (Classical.em (jj = lid)).elim (fun E4 => by rw [E4]; first | (left; simp only [vsAll, ↓reduceIte, reduceCtorEq, eq_self]; done) | (right; simp only [vsAll, ↓reduceIte, eq_self, f4]; done)) (fun E4 => ?_); right; simp only [vsAll, ↓reduceIte, eq_self, E0, E1, E2, E3, E4])⟩
  ·rintro ⟨es, ck⟩ ⟨hi, hes, hbo⟩ lid did lo h1 h2 h3
   simp only [Hp.set_none] at h1 h2
   obtain ⟨⟨f1, f1'⟩, ⟨f2, f2'⟩, ⟨f4, f4'⟩, f3⟩ := h1
   obtain ⟨⟨g1, g1'⟩, ⟨g2, g2'⟩, ⟨g4, g4'⟩, g3⟩ := h2
   have eL : (ylI (allB d)).length = (allB d).length := by simp [ylI]
   rw [eL] at hes
   simp only [] at hes hbo
   have h4 : ¬ did = lid := fun e => h3 e.symm
   skip
   simp only [vsAll]
   exact cutG_of ((im, i3, did), es, ck) ⟨a2, a3, g3, a1, g4, g2, hes, hbo⟩ (by simp only [vsAll, Nat.reduceEqDiff, ↓reduceIte, eq_self]) rfl (by (refine HSub_eqn fun jj => ?_; refine (Classical.em (jj = did)).elim (fun E0 => by rw [E0]; first | (left; simp only [vsAll, ↓reduceIte, reduceCtorEq, eq_self]; done) | (right; simp only [vsAll, ↓reduceIte, eq_self, h4]; done)) (fun E0 => ?_); refine (Classical.em (jj = i4)).elim (fun E1 => by rw [E1]; first | (left; simp only [vsAll, ↓reduceIte, eq_self, hh_i4, g1']; done) | (right; simp only [vsAll, binA, binLitA, intA, aggA, aggV, boolA, nilA2, isConst, unA, loadA, loadRow, partA, partOk, fieldAddrA, indexAddrA, indexA, fieldA, extractA, lenA, nilCheckA, boxA, boxZ, cellA, cellsA, fillA, okParts, buildSliceA, buildMutA, makeSliceA, partIdx, elemsA, lensA, ifaceA, convA, mmA, pickA, okAll, stAll, opsA, partsA, partsOk, opA, allocA, boxMutA, newCells, okCells, storeObj, appendA, guardV, taA, nM, mapUpA, rangeA, nextA, entryA, lookA, sliceA, sliceM, sliceS, boundsA, opO, okO, copyA, dstOk, nilA, quietOk, nilSliceOp, deferV, panA, resA, argFr, retA.eq_1, retA.eq_2, Nat.reduceAdd, Nat.reduceSub, Nat.reduceMul, Nat.reduceLT, Nat.reduceLeDiff, Nat.reduceEqDiff, Nat.reduceBEq, Int.reduceAdd, Int.reduceSub, Int.reduceMul, Int.reduceNeg, Int.reduceLE, Int.reduceLT, Int.reduceEq, Int.reduceNe, Int.reduceToNat, ↓reduceIte, reduceCtorEq, implies_true, forall_const, eq_self, ne_eq, wtAll, Tryz.ntmps43, Tryz.results43, hh_im, hh_i3, hh_i4, a1, a1', a2, a3, b1, b1', b2, b2', b3, h3, h4, f1, f2, f1', f2', g1, g2, g1', g2', f4, f4', g4, g4', f3, g3]; done)) (fun E1 => ?_); refine (Classical.em (jj = i3)).elim (fun E2 => by rw [E2]; first | (left; simp only [vsAll, ↓reduceIte, reduceCtorEq, eq_self, g2']; done) | (right; simp only [vsAll, ↓reduceIte, eq_self, hh_i4, f2', g2']; done)) (fun E2 => ?_); refine (Classical.em (jj = im)).elim (fun E3 => by rw [E3]; first | (left; simp only [vsAll, ↓reduceIte, reduceCtorEq, eq_self, hh_i3, g4']; done) | (right; simp only [vsAll, ↓reduceIte, eq_self, hh_i3, hh_i4, f4', g4']; done)) (fun E3 => ?_); refine (Classical.em (jj = lid)).elim (fun E4 => by rw [E4]; first | (left; simp only [vsAll, ↓reduceIte, eq_self, h3, f2, f4, f3]; done) | (right; simp only [vsAll, binA, binLitA, intA, aggA, aggV, boolA, nilA2, isConst, unA, loadA, loadRow, partA, partOk, fieldAddrA, indexAddrA, indexA, fieldA, extractA, lenA, nilCheckA, boxA, boxZ, cellA, cellsA, fillA, okParts, buildSliceA, buildMutA, makeSliceA, partIdx, elemsA, lensA, ifaceA, convA, mmA, pickA, okAll, stAll, opsA, partsA, partsOk, opA, allocA, boxMutA, newCells, okCells, storeObj, appendA, guardV, taA, nM, mapUpA, rangeA, nextA, entryA, lookA, sliceA, sliceM, sliceS, boundsA, opO, okO, copyA, dstOk, nilA, quietOk, nilSliceOp, deferV, panA, resA, argFr, retA.eq_1, retA.eq_2, Nat.reduceAdd, Nat.reduceSub, Nat.reduceMul, Nat.reduceLT, Nat.reduceLeDiff, Nat.reduceEqDiff, Nat.reduceBEq, Int.reduceAdd, Int.reduceSub, Int.reduceMul, Int.reduceNeg, Int.reduceLE, Int.reduceLT, Int.reduceEq, Int.reduceNe, Int.reduceToNat, ↓reduceIte, reduceCtorEq, implies_true, forall_const, eq_self, ne_eq, wtAll, Tryz.ntmps43, Tryz.results43, hh_im, hh_i3, hh_i4, a1, a1', a2, a3, b1, b1', b2, b2', b3, h3, h4, f1, f2, f1', f2', g1, g2, g1', g2', f4, f4', g4, g4', f3, g3]; done)) (fun E4 => ?_); right; simp only [vsAll, ↓reduceIte, eq_self, E0, E1, E2, E3, E4]))
 ·obtain ⟨⟨im, i3, did⟩, es, ck⟩ := y
  obtain ⟨a2, a3, a4, a1, b2, b3, hes, hbo⟩ := hy
  simp only [] at a2 a3 a4 a1 b2 b3 hes hbo
  refine wps_seq ?_
  refine wps_region_mlenI (m := mset [62, 75]) 1 rfl rfl rfl rfl (by decide) (by kernel_rfl) ?_
  have a1' : ¬ im = i3 := fun e => a1 e.symm
  have b2' : ¬ im = did := fun e => b2 e.symm
  have b3' : ¬ i3 = did := fun e => b3 e.symm
  have hnd : es.toList.Nodup := nodup_of_map hbo.nd
  have hes2 := skeys_le hM hes hnd (fun _ h => h)
  have hes2' : es.size ≤ 2 := by simpa using hes2
  skip
  simp only [vsAll, loadA, loadRow, partA, partOk, makeSliceA, opA, dstOk, nilSliceOp, Nat.reduceAdd, Nat.reduceLT, Nat.reduceBEq, Int.reduceLE, Int.reduceToNat, ↓reduceIte, eq_self, wtAll, Tryz.ntmps43, b3']
  refine ⟨im, es, ck, rfl, by simp only [↓reduceIte, eq_self, a1', b2'], ?_⟩
  refine ⟨by ((try clear a1 a1' a2 a3 a4 b2 b2' b3 b3'); omega), by ((try clear a1 a1' a2 a3 a4 b2 b2' b3 b3'); omega), by ((try clear a1 a1' a2 a3 a4 b2 b2' b3 b3'); omega), ?_⟩
  intro i12 hh_i12; (try simp only [ite_none] at hh_i12)
  simp only [thn_normal]
  refine wps_cutG (m := mset [13, 62]) (σ := Nat × List Nat) (fun y => H y.1 = none ∧ y.2.Perm M) (fun y => [(12, sdA d y.2)]) (fun y => H.set y.1 (.raw (.deferred (some [])))) (fun y => [.mark y.1]) ?_ fun y hy => ?_
  rotate_left
  ·obtain ⟨did, K⟩ := y
   obtain ⟨a4, hK⟩ := hy
   simp only [] at a4 hK
   have hKl := hK.length_eq
   refine wps_vs (m := mset [75]) ?_
   skip
   simp only [vsAll, lenA, makeSliceA, okAll, stAll, opsA, opA, copyA, dstOk, nilSliceOp, Nat.reduceLT, Nat.reduceEqDiff, Nat.reduceBEq, ↓reduceIte, eq_self, wtAll]
   refine ⟨by ((try clear a1 a1' a2 a3 a4 b2 b2' b3 b3' hh_i12); omega), by ((try clear a1 a1' a2 a3 a4 b2 b2' b3 b3' hh_i12); omega), by ((try clear a1 a1' a2 a3 a4 b2 b2' b3 b3' hh_i12); omega), ?_⟩
   intro i14 hh_i14; (try simp only [ite_none] at hh_i14)
   have g : ¬ i14 = did ∧ H i14 = none := by simp_all
   obtain ⟨g1, g2⟩ := g
   have g1' : ¬ did = i14 := fun e => g1 e.symm
   skip
   refine ⟨fun q hq => ⟨rfl, rfl, trivial⟩, ?_⟩
   rw [Hp.set_set]
   have hst := (ssorted_tri d hK hM.s ⟨hM0, hMl⟩ hM64 i14 ((H.set did (.raw (.deferred (some [])))).set i14 (.row 2 K.length (sdF d K))) (Hp.set_same _ _ _)).less (H := ((H.set did (.raw (.deferred (some [])))).set i14 (.row 2 K.length (cpF 0 (min K.length K.length) (fun x => [.lit (.int .u64 0), .lit (.int .u64 0)]) 0 (sdF d K))))) (HSub_set (row_ext fun q hq => by
    simp only [cpF]
    rw [if_pos (by ((try clear a1 a1' a2 a3 a4 b2 b2' b3 b3' hh_i12 hh_i14 g1 g2 g1'); omega))]
    simp))
   refine callK hst ?_
   rintro r H' ⟨rfl, rfl⟩
   simp only [vsAll, opA, dstOk, nilSliceOp, resA, retA.eq_1, Nat.reduceLT, Nat.reduceEqDiff, Nat.reduceBEq, ↓reduceIte, eq_self, Tryz.results43, hh_i14]
   rw [hKl]
   exact ⟨H.set i14 (.row 2 M.length (sdF d M)), by (refine HSub_eqn fun jj => ?_; refine (Classical.em (jj = did)).elim (fun E0 => by rw [E0]; first | (left; simp only [vsAll, ↓reduceIte, eq_self, a4, hh_i14]; done) | (right; simp only [vsAll, binA, binLitA, intA, aggA, aggV, boolA, nilA2, isConst, unA, loadA, loadRow, partA, partOk, fieldAddrA, indexAddrA, indexA, fieldA, extractA, lenA, nilCheckA, boxA, boxZ, cellA, cellsA, fillA, okParts, buildSliceA, buildMutA, makeSliceA, partIdx, elemsA, lensA, ifaceA, convA, mmA, pickA, okAll, stAll, opsA, partsA, partsOk, opA, allocA, boxMutA, newCells, okCells, storeObj, appendA, guardV, taA, nM, mapUpA, rangeA, nextA, entryA, lookA, sliceA, sliceM, sliceS, boundsA, opO, okO, copyA, dstOk, nilA, quietOk, nilSliceOp, deferV, panA, resA, argFr, retA.eq_1, retA.eq_2, Nat.reduceAdd, Nat.reduceSub, Nat.reduceMul, Nat.reduceLT, Nat.reduceLeDiff, Nat.reduceEqDiff, Nat.reduceBEq, Int.reduceAdd, Int.reduceSub, Int.reduceMul, Int.reduceNeg, Int.reduceLE, Int.reduceLT, Int.reduceEq, Int.reduceNe, Int.reduceToNat, ↓reduceIte, reduceCtorEq, implies_true, forall_const, eq_self, ne_eq, wtAll, Tryz.ntmps43, Tryz.results43, a1, a1', a2, a3, a4, b2, b2', b3, b3', hh_i12, a4, hh_i14, g1, g2, g1']; done)) (fun E0 => ?_); refine (Classical.em (jj = i14)).elim (fun E1 => by rw [E1]; first | (left; simp only [vsAll, ↓reduceIte, reduceCtorEq, eq_self]; done) | (right; simp only [vsAll, ↓reduceIte, eq_self, hh_i14]; done)) (fun E1 => ?_); right; simp only [vsAll, ↓reduceIte, eq_self, E0, E1]), i14, g2, rfl, rfl⟩
  have g : ¬ i12 = did ∧ ¬ i12 = i3 ∧ ¬ i12 = im ∧ H i12 = none := by simp_all
  obtain ⟨n1', n2', n3', n4'⟩ := g
  have n1'' : ¬ did = i12 := fun e => n1' e.symm
  have n2'' : ¬ i3 = i12 := fun e => n2' e.symm
  have n3'' : ¬ im = i12 := fun e => n3' e.symm
  skip
  simp only [vsAll, loadA, loadRow, partA, partOk, opA, rangeA, dstOk, Nat.reduceLT, Nat.reduceEqDiff, ↓reduceIte, eq_self, wtAll, a1', b2', b3', hh_i12]
  refine ⟨⟨_, _, und138⟩, fun iid hiid => ?_⟩
  simp only [ite_none] at hiid
  obtain ⟨⟨r1, r1'⟩, ⟨r2, r2'⟩, ⟨r3, r3'⟩, ⟨r4, r4'⟩, r5⟩ := hiid
  skip
  refine vs_loop (σ := List MapEntry) (fun T => Tak es T) (fun T => [(12, .sl i12 2 T.length), (64, .ref iid 0 1 0 0)])
   (fun T => ((((H.set im (.raw (.map es ck))).set i3 (.box 1 1 fun _ => [.map im])).set did (.raw (.deferred (some [])))).set i12 (.row 2 T.length (sdF d (T.map fun e => kO e.key)))).set iid (.iter im ck (T.map (·.born)).toArray ck)) (fun T => es.size - T.length) [] (Tak.nil es) ?_ ?_ fun T hT => ?_
  ·simp only [vsAll, Nat.reduceEqDiff, ↓reduceIte, eq_self]
  ·exact Go.V.HSub.set (Go.V.HSub.set (.refl _) (row_ext fun q hq => absurd hq (Nat.not_lt_zero q))) (.refl _)
  ·have hTn := nodup_of_map hT.nd
   have hT2 := skeys_le hM hes hTn hT.sub
   have hTl := hT.len
   simp only [vsAll, loadA, loadRow, partA, partOk, extractA, cellsA, okParts, buildSliceA, partIdx, elemsA, lensA, partsA, partsOk, opA, allocA, newCells, storeObj, appendA, nextA, entryA, dstOk, nilSliceOp, Nat.reduceAdd, Nat.reduceMul, Nat.reduceLT, Nat.reduceLeDiff, Nat.reduceEqDiff, Nat.reduceBEq, ↓reduceIte, eq_self, wtAll, a1', b2', hh_i12, r1', r4']
   refine ⟨hbo.lt, fun h0 => ?_, fun e he => ?_⟩
   ·have hall := hT.all hbo h0
    have hK := skeys_perm hM hes hTn hall
    have hlT : (T.map fun e => kO e.key).length = T.length := List.length_map _
    refine cutG_ent (Ent.of [(12, .sl i12 2 T.length)] (by simp only [vsAll, Nat.reduceEqDiff, ↓reduceIte, eq_self]) (H' := (H.set did (.raw (.deferred (some [])))).set i12 (.row 2 T.length (sdF d (T.map fun e => kO e.key)))) (by (refine HSub_eqn fun jj => ?_; refine (Classical.em (jj = i12)).elim (fun E0 => by rw [E0]; first | (left; simp only [vsAll, ↓reduceIte, reduceCtorEq, eq_self]; done) | (right; simp only [vsAll, ↓reduceIte, eq_self, r1']; done)) (fun E0 => ?_); refine (Classical.em (jj = iid)).elim (fun E1 => by rw [E1]; first | (left; simp only [vsAll, ↓reduceIte, eq_self, r1, r2, r5]; done) | (right; simp only [vsAll, binA, binLitA, intA, aggA, aggV, boolA, nilA2, isConst, unA, loadA, loadRow, partA, partOk, fieldAddrA, indexAddrA, indexA, fieldA, extractA, lenA, nilCheckA, boxA, boxZ, cellA, cellsA, fillA, okParts, buildSliceA, buildMutA, makeSliceA, partIdx, elemsA, lensA, ifaceA, convA, mmA, pickA, okAll, stAll, opsA, partsA, partsOk, opA, allocA, boxMutA, newCells, okCells, storeObj, appendA, guardV, taA, nM, mapUpA, rangeA, nextA, entryA, lookA, sliceA, sliceM, sliceS, boundsA, opO, okO, copyA, dstOk, nilA, quietOk, nilSliceOp, deferV, panA, resA, argFr, retA.eq_1, retA.eq_2, Nat.reduceAdd, Nat.reduceSub, Nat.reduceMul, Nat.reduceLT, Nat.reduceLeDiff, Nat.reduceEqDiff, Nat.reduceBEq, Int.reduceAdd, Int.reduceSub, Int.reduceMul, Int.reduceNeg, Int.reduceLE, Int.reduceLT, Int.reduceEq, Int.reduceNe, Int.reduceToNat, ↓reduceIte, reduceCtorEq, implies_true, forall_const, eq_self, ne_eq, wtAll, Tryz.ntmps43, Tryz.results43, a1, a1', a2, a3, a4, b2, b2', b3, b3', hh_i12, n1', n2', n3', n4', n1'', n2'', n3'', r1, r1', r2, r2', r3, r3', r4, r4', r5]; done)) (fun E1 => ?_); refine (Classical.em (jj = did)).elim (fun E2 => by rw [E2]; first | (left; simp only [vsAll, ↓reduceIte, reduceCtorEq, eq_self, hh_i12]; done) | (right; simp only [vsAll, ↓reduceIte, eq_self, hh_i12, r2']; done)) (fun E2 => ?_); refine (Classical.em (jj = i3)).elim (fun E3 => by rw [E3]; first | (left; simp only [vsAll, ↓reduceIte, eq_self, a3, b3', hh_i12]; done) | (right; simp only [vsAll, binA, binLitA, intA, aggA, aggV, boolA, nilA2, isConst, unA, loadA, loadRow, partA, partOk, fieldAddrA, indexAddrA, indexA, fieldA, extractA, lenA, nilCheckA, boxA, boxZ, cellA, cellsA, fillA, okParts, buildSliceA, buildMutA, makeSliceA, partIdx, elemsA, lensA, ifaceA, convA, mmA, pickA, okAll, stAll, opsA, partsA, partsOk, opA, allocA, boxMutA, newCells, okCells, storeObj, appendA, guardV, taA, nM, mapUpA, rangeA, nextA, entryA, lookA, sliceA, sliceM, sliceS, boundsA, opO, okO, copyA, dstOk, nilA, quietOk, nilSliceOp, deferV, panA, resA, argFr, retA.eq_1, retA.eq_2, Nat.reduceAdd, Nat.reduceSub, Nat.reduceMul, Nat.reduceLT, Nat.reduceLeDiff, Nat.reduceEqDiff, Nat.reduceBEq, Int.reduceAdd, Int.reduceSub, Int.reduceMul, Int.reduceNeg, Int.reduceLE, Int.reduceLT, Int.reduceEq, Int.reduceNe, Int.reduceToNat, ↓reduceIte, reduceCtorEq, implies_true, forall_const, eq_self, ne_eq, wtAll, Tryz.ntmps43, Tryz.results43, a1, a1', a2, a3, a4, b2, b2', b3, b3', hh_i12, n1', n2', n3', n4', n1'', n2'', n3'', r1, r1', r2, r2', r3, r3', r4, r4', r5]; done)) (fun E3 => ?_); refine (Classical.em (jj = im)).elim (fun E4 => by rw [E4]; first | (left; simp only [vsAll, ↓reduceIte, eq_self, a2, b2', hh_i12]; done) | (right; simp only [vsAll, binA, binLitA, intA, aggA, aggV, boolA, nilA2, isConst, unA, loadA, loadRow, partA, partOk, fieldAddrA, indexAddrA, indexA, fieldA, extractA, lenA, nilCheckA, boxA, boxZ, cellA, cellsA, fillA, okParts, buildSliceA, buildMutA, makeSliceA, partIdx, elemsA, lensA, ifaceA, convA, mmA, pickA, okAll, stAll, opsA, partsA, partsOk, opA, allocA, boxMutA, newCells, okCells, storeObj, appendA, guardV, taA, nM, mapUpA, rangeA, nextA, entryA, lookA, sliceA, sliceM, sliceS, boundsA, opO, okO, copyA, dstOk, nilA, quietOk, nilSliceOp, deferV, panA, resA, argFr, retA.eq_1, retA.eq_2, Nat.reduceAdd, Nat.reduceSub, Nat.reduceMul, Nat.reduceLT, Nat.reduceLeDiff, Nat.reduceEqDiff, Nat.reduceBEq, Int.reduceAdd, Int.reduceSub, Int.reduceMul, Int.reduceNeg, Int.reduceLE, Int.reduceLT, Int.reduceEq, Int.reduceNe, Int.reduceToNat, ↓reduceIte, reduceCtorEq, implies_true, forall_const, eq_self, ne_eq, wtAll, Tryz.ntmps43, Tryz.results43, a1, a1', a2, a3, a4, b2, b2', b3, b3', hh_i12, n1', n2', n3', n4', n1'', n2'', n3'', r1, r1', r2, r2', r3, r3', r4, r4', r5]; done)) (fun E4 => ?_); right; simp only [vsAll, ↓reduceIte, eq_self, E0, E1, E2, E3, E4])) ?_)
    refine cutG_ent (Ent.freeze (id := i12) (st := 2) (n := T.length) (f := sdF d (T.map fun e => kO e.key)) (s' := Fr.of [(12, .rsl T.length 2 (sdF d (T.map fun e => kO e.key)))]) (Hp.set_same _ _ _) (fun t => by
     by_cases e : t = 12
     ·subst e; exact .inr ⟨rfl, rfl⟩
     ·left; simp [Fr.of, e]) ?_)
    rw [set_delO (by simp only [vsAll, ↓reduceIte, eq_self, hh_i12])]
    exact cutG_of (did, T.map fun e => kO e.key) ⟨a4, hK⟩ (by
     have e : sdA d (T.map fun e => kO e.key) = .rsl T.length 2 (sdF d (T.map fun e => kO e.key)) := by show AV.rsl (T.map fun e => kO e.key).length 2 _ = _; rw [hlT]
     rw [e]
     simp only [vsAll, ↓reduceIte, eq_self]) rfl HSub_rfl
   ·obtain ⟨hm, hnb⟩ := Go.V.mem_left.1 he
    obtain ⟨k1, k2⟩ := skey_of hM hes hm
    have hkk : valA e.key = .agg [u64 (kO e.key : Nat), u64 (dlD d (kO e.key) : Nat)] := by rw [k2, kO_sd]; rfl
    refine ⟨e, _, ⟨rfl, hm, hbo.nd⟩, ?_⟩
    have hadd := hT.add he
    have hal := hadd.len
    simp only [List.length_append, List.length_cons, List.length_nil] at hal
    simp only [vsAll, cellA, okCells, Nat.reduceAdd, eq_self, hkk]
    intro i13 hh_i13; (try simp only [ite_none] at hh_i13)
    have g : ¬ i13 = iid ∧ ¬ i13 = i12 ∧ ¬ i13 = did ∧ ¬ i13 = i3 ∧ ¬ i13 = im ∧ H i13 = none := by
     obtain ⟨⟨u1, _⟩, ⟨u2, _⟩, ⟨u3, _⟩, ⟨u4, _⟩, ⟨u5, _⟩, ⟨u6, _⟩, u7⟩ := hh_i13
     exact ⟨u1, u3, u4, u5, u6, u7⟩
    obtain ⟨s1, s2, s3, s4, s5, s6⟩ := g
    have s1' : ¬ iid = i13 := fun e => s1 e.symm
    have s2' : ¬ i12 = i13 := fun e => s2 e.symm
    have s3' : ¬ did = i13 := fun e => s3 e.symm
    have s4' : ¬ i3 = i13 := fun e => s4 e.symm
    have s5' : ¬ im = i13 := fun e => s5 e.symm
    skip
    simp only [vsAll, ↓reduceIte, eq_self, hh_i13]
    have hlT : (T.map fun e => kO e.key).length = T.length := List.length_map _
    have eap : ∀ q, q < T.length + 1 → appF T.length 1 (sdF d (T.map fun e => kO e.key)) (fun i => [[u64 (kO e.key : Nat), u64 (dlD d (kO e.key) : Nat)]].getD i []) q = sdF d ((T ++ [e]).map fun e => kO e.key) q := fun q hq => by
     rw [appF_at (by ((try clear a1 a1' a2 a3 a4 b2 b2' b3 b3' hh_i12 n1' n2' n3' n4' n1'' n2'' n3'' r1 r1' r2 r2' r3 r3' r4 r4' r5 hh_i13 s1 s1' s2 s2' s3 s3' s4 s4' s5 s5' s6); omega)), List.map_append]
     unfold sdF
     by_cases h : q < T.length
     ·rw [if_pos h]
      simp only [List.map_cons, List.map_nil]
      rw [napp _ _ (by rw [hlT]; exact h)]
     ·have hqe : q = (T.map fun e => kO e.key).length := by rw [hlT]; ((try clear a1 a1' a2 a3 a4 b2 b2' b3 b3' hh_i12 n1' n2' n3' n4' n1'' n2'' n3'' r1 r1' r2 r2' r3 r3' r4 r4' r5 hh_i13 s1 s1' s2 s2' s3 s3' s4 s4' s5 s5' s6); omega)
      rw [if_neg (by ((try clear a1 a1' a2 a3 a4 b2 b2' b3 b3' hh_i12 n1' n2' n3' n4' n1'' n2'' n3'' r1 r1' r2 r2' r3 r3' r4 r4' r5 hh_i13 s1 s1' s2 s2' s3 s3' s4 s4' s5 s5' s6); omega))]
      simp only [List.map_cons, List.map_nil]
      rw [hqe, nappR, hlT, Nat.sub_self]; rfl
    refine ⟨fun q hq => ?_, by ((try clear a1 a1' a2 a3 a4 b2 b2' b3 b3' hh_i12 n1' n2' n3' n4' n1'' n2'' n3'' r1 r1' r2 r2' r3 r3' r4 r4' r5 hh_i13 s1 s1' s2 s2' s3 s3' s4 s4' s5 s5' s6); omega), by ((try clear a1 a1' a2 a3 a4 b2 b2' b3 b3' hh_i12 n1' n2' n3' n4' n1'' n2'' n3'' r1 r1' r2 r2' r3 r3' r4 r4' r5 hh_i13 s1 s1' s2 s2' s3 s3' s4 s4' s5 s5' s6); omega), loop_next (T ++ [e]) hadd (by simp only [List.length_append, List.length_cons, List.length_nil]; ((try clear a1 a1' a2 a3 a4 b2 b2' b3 b3' hh_i12 n1' n2' n3' n4' n1'' n2'' n3'' r1 r1' r2 r2' r3 r3' r4 r4' r5 hh_i13 s1 s1' s2 s2' s3 s3' s4 s4' s5 s5' s6); omega)) ?_ ?_⟩
    ·have : q = 0 := by ((try clear a1 a1' a2 a3 a4 b2 b2' b3 b3' hh_i12 n1' n2' n3' n4' n1'' n2'' n3'' r1 r1' r2 r2' r3 r3' r4 r4' r5 hh_i13 s1 s1' s2 s2' s3 s3' s4 s4' s5 s5' s6); omega)
     subst this; exact ⟨rfl, rfl, trivial⟩
    ·simp only [vsAll, Nat.reduceEqDiff, ↓reduceIte, eq_self, List.length_append]
    ·rw [tak_push]
     simp only [List.length_append, List.length_cons, List.length_nil]
     refine Go.V.HSub.trans (Go.V.HSub.set (.refl _) (row_ext fun q hq => eap q hq)) ?_
     (refine HSub_eqn fun jj => ?_; refine (Classical.em (jj = iid)).elim (fun E0 => by rw [E0]; first | (left; simp only [vsAll, ↓reduceIte, reduceCtorEq, eq_self]; done) | (right; simp only [vsAll, ↓reduceIte, eq_self, r1, hh_i13]; done)) (fun E0 => ?_); refine (Classical.em (jj = i12)).elim (fun E1 => by rw [E1]; first | (left; simp only [vsAll, ↓reduceIte, reduceCtorEq, eq_self, r1']; done) | (right; simp only [vsAll, ↓reduceIte, eq_self, r1']; done)) (fun E1 => ?_); refine (Classical.em (jj = i13)).elim (fun E2 => by rw [E2]; first | (left; simp only [vsAll, ↓reduceIte, eq_self, hh_i13]; done) | (right; simp only [vsAll, binA, binLitA, intA, aggA, aggV, boolA, nilA2, isConst, unA, loadA, loadRow, partA, partOk, fieldAddrA, indexAddrA, indexA, fieldA, extractA, lenA, nilCheckA, boxA, boxZ, cellA, cellsA, fillA, okParts, buildSliceA, buildMutA, makeSliceA, partIdx, elemsA, lensA, ifaceA, convA, mmA, pickA, okAll, stAll, opsA, partsA, partsOk, opA, allocA, boxMutA, newCells, okCells, storeObj, appendA, guardV, taA, nM, mapUpA, rangeA, nextA, entryA, lookA, sliceA, sliceM, sliceS, boundsA, opO, okO, copyA, dstOk, nilA, quietOk, nilSliceOp, deferV, panA, resA, argFr, retA.eq_1, retA.eq_2, Nat.reduceAdd, Nat.reduceSub, Nat.reduceMul, Nat.reduceLT, Nat.reduceLeDiff, Nat.reduceEqDiff, Nat.reduceBEq, Int.reduceAdd, Int.reduceSub, Int.reduceMul, Int.reduceNeg, Int.reduceLE, Int.reduceLT, Int.reduceEq, Int.reduceNe, Int.reduceToNat, ↓reduceIte, reduceCtorEq, implies_true, forall_const, eq_self, ne_eq, wtAll, Tryz.ntmps43, Tryz.results43, a1, a1', a2, a3, a4, b2, b2', b3, b3', hh_i12, n1', n2', n3', n4', n1'', n2'', n3'', r1, r1', r2, r2', r3, r3', r4, r4', r5, hh_i13, s1, s1', s2, s2', s3, s3', s4, s4', s5, s5', s6]; done)) (fun E2 => ?_); refine (Classical.em (jj = did)).elim (fun E3 => by rw [E3]; first | (left; simp only [vsAll, ↓reduceIte, reduceCtorEq, eq_self, hh_i12, r2']; done) | (right; simp only [vsAll, ↓reduceIte, eq_self, hh_i12, r2', hh_i13]; done)) (fun E3 => ?_); refine (Classical.em (jj = i3)).elim (fun E4 => by rw [E4]; first | (left; simp only [vsAll, ↓reduceIte, reduceCtorEq, eq_self, b3', hh_i12, r3']; done) | (right; simp only [vsAll, ↓reduceIte, eq_self, b3', hh_i12, r3', hh_i13]; done)) (fun E4 => ?_); refine (Classical.em (jj = im)).elim (fun E5 => by rw [E5]; first | (left; simp only [vsAll, ↓reduceIte, reduceCtorEq, eq_self, a1', b2', hh_i12, r4']; done) | (right; simp only [vsAll, ↓reduceIte, eq_self, a1', b2', hh_i12, r4', hh_i13]; done)) (fun E5 => ?_); right; simp only [vsAll, ↓reduceIte, eq_self, E0, E1, E2, E3, E4, E5])
end Go.Proofs.YtclkjifgipcamaaGreat
end
section
set_option linter.unusedVariables false
set_option linter.unusedSimpArgs false
set_option maxHeartbeats 8000000
set_option maxRecDepth 100000
namespace Go.Proofs.YtclkjifgipcamaaGreat
open Go.V
theorem hevery_tri (d : Dr) (l : List (Nat × Bool)) (H : Hp) (hl : l.length ≤ 6) : PTri Tryz.prog (fnA 49) [rH d l] H (u64 (2 ^ l.length - 1 : Nat)) := by
 refine tri_v0 (fun _ => false) Tryz.func49 (by kernel_rfl) rfl (by simp only [List.length_append, List.length_cons, List.length_nil, Tryz.ntmps49]; decide) ?_
 simp only [vsAll, binA, binLitA, intA, loadA, loadRow, partA, partOk, fieldAddrA, lenA, nilCheckA, opA, dstOk, nilSliceOp, resA, argFr, retA.eq_1, Nat.reduceLT, ↓reduceIte, reduceCtorEq, eq_self, wtAll, Tryz.ntmps49, Tryz.results49]
 rcases (by omega : l.length = 0 ∨ l.length = 1 ∨ l.length = 2 ∨ l.length = 3 ∨ l.length = 4 ∨ l.length = 5 ∨ l.length = 6) with h | h | h | h | h | h | h <;> rw [h] <;> exact ⟨⟨by decide, by decide, by simp only [InR_u64]; decide⟩, by simp only [InR_u64]; decide, rfl⟩
/-- Whether a sound is as was heard. -/
def hrB (d : Dr) (o : Nat) (x : Nat × Bool) : Bool := (dlD d o).testBit x.1 == x.2
theorem nothing_tri (o : Nat) (x : Nat) (H : Hp) : PTri Tryz.prog (fnA 141) [.agg [], .agg [u64 o, u64 x]] H (boo true) := by
 refine tri_v0 (fun _ => false) Tryz.func141 (by kernel_rfl) rfl (by simp only [List.length_append, List.length_cons, List.length_nil, Tryz.ntmps141]; decide) ?_
 simp only [vsAll, boxA, boxZ, opA, dstOk, nilSliceOp, resA, argFr, retA.eq_1, Nat.reduceAdd, Nat.reduceLT, Nat.reduceEqDiff, ↓reduceIte, eq_self, wtAll, Tryz.ntmps141, Tryz.results141]
theorem knock_tri (d : Dr) (o : Nat) (x : Nat × Bool) (H : Hp) (hx : x.1 < 60) : PTri Tryz.prog (fnA 142) [.agg [i64 x.1, boo x.2], .agg [u64 o, u64 (dlD d o : Nat)]] H (boo (hrB d o x)) := by
 refine tri_v0 (fun _ => false) Tryz.func142 (by kernel_rfl) rfl (by simp only [List.length_append, List.length_cons, List.length_nil, Tryz.ntmps142]; decide) ?_
 simp only [vsAll, boxA, boxZ, opA, dstOk, nilSliceOp, argFr, Nat.reduceAdd, Nat.reduceLT, Nat.reduceEqDiff, ↓reduceIte, eq_self, wtAll, Tryz.ntmps142]
 refine vs_draw2 [0, 0, 0, 0, 0, 0, 0, 0, 0, 0, 0, 0, 0, 0, 0, 0, 0] [] [0, 1, 2, 3, 4, 5, 6, 7, 8, 9, 10, 11, 12, 13, 14, 15, 16] (by decide +kernel) ?_
 simp only [vsAll, loadA, loadRow, partA, partOk, fieldAddrA, opA, dstOk, Nat.reduceLT, Nat.reduceLeDiff, Nat.reduceEqDiff, ↓reduceIte, eq_self, wtAll]
 refine qcall _ ⟨trivial, by simp only [vsAll, okAll, opsA, opA, Nat.reduceEqDiff, ↓reduceIte, eq_self], nothing_tri o _ _⟩ ?_
 simp only [vsAll, loadA, loadRow, partA, partOk, fieldAddrA, opA, guardV, dstOk, Nat.reduceLT, Nat.reduceEqDiff, ↓reduceIte, eq_self, wtAll]
 refine qgcall (boo ((dlD d o).testBit x.1)) (fun _ => ⟨by simp only [vsAll, opA], by simp only [vsAll, okAll, opsA, opA, Nat.reduceEqDiff, ↓reduceIte, eq_self], shas_tri _ _ _ (by have := dlD_lt d o; omega) hx⟩) ?_
 simp only [vsAll, binA, binLitA, boolA, loadA, loadRow, partA, partOk, fieldAddrA, pickA, opA, guardV, dstOk, resA, retA.eq_1, Nat.reduceLT, Nat.reduceEqDiff, ↓reduceIte, implies_true, eq_self, wtAll, Tryz.results142]
 rfl
theorem meth163 : methT Tryz.prog 163 "caulkworks/rap.hears" 141 := fun v args w => by kernel_rfl
theorem meth165 : methT Tryz.prog 165 "caulkworks/rap.hears" 142 := fun v args w => by kernel_rfl
def enE : Option (Nat × Bool) → List AV
 | none => [.iface 163 (.agg [])]
 | some x => [.iface 165 (.agg [i64 x.1, boo x.2])]
def hsL (l : List (Nat × Bool)) (m : Nat) : Nat → List (Nat × Bool)
 | 0 => []
 | i + 1 => if m.testBit i then hsL l m i ++ [l.getD i (0, false)] else hsL l m i
def eaL (l : List (Nat × Bool)) (m : Nat) (i : Nat) : List (Option (Nat × Bool)) := none :: (hsL l m i).map some
theorem hsL_len (l : List (Nat × Bool)) (m : Nat) : ∀ i, (hsL l m i).length ≤ i
 | 0 => Nat.le_refl _
 | i + 1 => by
   have := hsL_len l m i
   rw [hsL]; split
   ·simp; omega
   ·omega
theorem eaL_len (l : List (Nat × Bool)) (m : Nat) (i : Nat) : (eaL l m i).length ≤ i + 1 := by
 have := hsL_len l m i
 simp only [eaL, List.length_cons, List.length_map]; omega
abbrev eaAV (L : List (Option (Nat × Bool))) : AV := .rsl L.length 1 (lF enE none L)
theorem hdF_at (l : List (Nat × Bool)) (i : Nat) : hdF l i = [i64 (l.getD i (0, false)).1, boo (l.getD i (0, false)).2] := rfl
theorem ears_tri (d : Dr) (l : List (Nat × Bool)) (m : Nat) (H : Hp) (hl : l.length ≤ 6) (hm : m < 2 ^ 6) : PTri Tryz.prog (fnA 79) [rH d l, u64 m] H (eaAV (eaL l m l.length)) := by
 refine Tri.thawX (R1 := fun r' H' => ∃ id, H id = none ∧ r' = .ret (.sl id 1 (eaL l m l.length).length) ∧ H' = H.set id (.row 1 (eaL l m l.length).length (lF enE none (eaL l m l.length)))) ?_ ?_
 rotate_left
 ·rintro r' H' ⟨id, hid, rfl, rfl⟩
  exact .inr ⟨_, eaAV (eaL l m l.length), id, 1, _, lF enE none (eaL l m l.length), rfl, .inr ⟨Hp.set_same _ _ _, .leaf ⟨rfl, lF enE none (eaL l m l.length), fun _ _ => rfl, rfl⟩⟩, rfl, set_delO hid⟩
 refine Tri.drop ?_
 refine tri_v0 (mset [10]) Tryz.func79 (by kernel_rfl) rfl (by simp only [List.length_append, List.length_cons, List.length_nil, Tryz.ntmps79]; decide) ?_
 simp only [vsAll, loadA, loadRow, partA, partOk, fieldAddrA, lenA, nilCheckA, cellA, cellsA, fillA, okParts, buildMutA, partIdx, elemsA, lensA, ifaceA, partsA, partsOk, opA, dstOk, nilSliceOp, argFr, Nat.reduceMul, Nat.reduceLT, Nat.reduceLeDiff, Nat.reduceBEq, ↓reduceIte, reduceCtorEq, eq_self, wtAll, Tryz.ntmps79]
 intro i10 hh_i10; (try simp only [Hp.set_none, ite_none] at hh_i10)
 refine vs_loop (σ := Nat) (fun i => i ≤ l.length) (fun i => [(1, u64 m), (5, .sl i10 1 (eaL l m i).length), (15, hdAV l), (16, i64 (l.length : Nat)), (17, i64 i)]) (fun i => H.set i10 (.row 1 (eaL l m i).length (lF enE none (eaL l m i)))) (fun i => l.length - i) 0 (Nat.zero_le _) ?_ ?_ fun i hi => ?_
 ·simp only [vsAll, argFr, Nat.reduceEqDiff, ↓reduceIte, eq_self, Int.natCast_zero]
  exact .refl _
 ·exact HSub_set (row_ext fun q hq => by
   have : q = 0 := by simp [] at hq; ((try clear hh_i10); omega)
   subst this; rfl)
 ·have hle := eaL_len l m i
  simp only [vsAll, binA, binLitA, intA, opA, dstOk, Nat.reduceLT, Nat.reduceEqDiff, ↓reduceIte, eq_self]
  refine condD (fun hd => ?_) (fun hd => ?_)
  ·have hil : i < l.length := by ((try clear hh_i10); omega)
   have eS : ∀ z : Int, shB IntKind.u64 z = 64 := fun _ => rfl
   have es : eaL l m (i + 1) = if m.testBit i then eaL l m i ++ [some (l.getD i (0, false))] else eaL l m i := by
    simp only [eaL, hsL]; split <;> simp
   simp only [vsAll, binA, binLitA, intA, loadA, loadRow, partA, partOk, indexAddrA, cellA, opA, allocA, newCells, okCells, storeObj, dstOk, nilSliceOp, Nat.reduceAdd, Nat.reduceLT, Nat.reduceEqDiff, Nat.reduceBEq, Int.reduceLE, Int.reduceToNat, ↓reduceIte, eq_self, wtAll, hdF_at, eS, bit_eq]
   refine ⟨⟨by ((try clear hh_i10); omega), by ((try clear hh_i10); omega)⟩, hil, ?_⟩
   intro i7 hh_i7; (try simp only [ite_none] at hh_i7)
   have g7 : ¬ i7 = i10 ∧ H i7 = none := by simp_all
   obtain ⟨g1, g2⟩ := g7
   have g1' : ¬ i10 = i7 := fun e => g1 e.symm
   skip
   have h1 : (m : Int) / 2 ^ i = ((m / 2 ^ i : Nat) : Int) := by simp
   have h2 : m / 2 ^ i ≤ m := Nat.div_le_self _ _
   refine ⟨⟨by ((try clear hh_i10 hh_i7 g1 g1' g2); omega), by ((try clear hh_i10 hh_i7 g1 g1' g2); omega)⟩, ⟨by rw [h1]; exact Int.natCast_nonneg _, by rw [h1]; exact inrN (by ((try clear hh_i10 hh_i7 g1 g1' g2); omega)), by simp only [InR_u64]; decide⟩, ?_⟩
   refine condV (fun hc => ?_) (fun hc => ?_)
   ·rw [if_pos hc] at es
    simp only [vsAll, binA, binLitA, intA, loadA, loadRow, partA, partOk, cellA, cellsA, fillA, okParts, buildSliceA, partIdx, elemsA, lensA, ifaceA, partsA, partsOk, opA, appendA, dstOk, nilSliceOp, Nat.reduceAdd, Nat.reduceMul, Nat.reduceLT, Nat.reduceLeDiff, Nat.reduceEqDiff, Nat.reduceBEq, ↓reduceIte, eq_self, wtAll, hh_i7]
    have ea := app_lF enE none (eaL l m i) (some (l.getD i (0, false))) (fun i_1 => [[AV.iface 165 (.agg [i64 (l.getD i (0, false)).1, boo (l.getD i (0, false)).2])]].getD i_1 []) rfl
    refine ⟨fun q hq => by (have : q = 0 := by ((try clear hh_i10 hh_i7 g1 g1' g2); omega)); subst this; exact ⟨rfl, trivial⟩, by ((try clear hh_i10 hh_i7 g1 g1' g2); omega), by ((try clear hh_i10 hh_i7 g1 g1' g2); omega), by simp only [InR_i64]; ((try clear hh_i10 hh_i7 g1 g1' g2); omega), loop_next (i + 1) hil (by ((try clear hh_i10 hh_i7 g1 g1' g2); omega)) ?_ ?_⟩
    ·simp only [vsAll, Nat.reduceEqDiff, ↓reduceIte, eq_self, es, List.length_append, Int.natCast_add, Int.natCast_one]
    ·rw [ea, es, List.length_append]; simp only [List.length_cons, List.length_nil]; (refine HSub_eqn fun jj => ?_; refine (Classical.em (jj = i10)).elim (fun E0 => by rw [E0]; first | (left; simp only [vsAll, ↓reduceIte, reduceCtorEq, eq_self]; done) | (right; simp only [vsAll, ↓reduceIte, eq_self]; done)) (fun E0 => ?_); refine (Classical.em (jj = i7)).elim (fun E1 => by rw [E1]; first | (left; simp only [vsAll, ↓reduceIte, eq_self, hh_i7]; done) | (right; simp only [vsAll, binA, binLitA, intA, aggA, aggV, boolA, nilA2, isConst, unA, loadA, loadRow, partA, partOk, fieldAddrA, indexAddrA, indexA, fieldA, extractA, lenA, nilCheckA, boxA, boxZ, cellA, cellsA, fillA, okParts, buildSliceA, buildMutA, makeSliceA, partIdx, elemsA, lensA, ifaceA, convA, mmA, pickA, okAll, stAll, opsA, partsA, partsOk, opA, allocA, boxMutA, newCells, okCells, storeObj, appendA, guardV, taA, nM, mapUpA, rangeA, nextA, entryA, lookA, sliceA, sliceM, sliceS, boundsA, opO, okO, copyA, dstOk, nilA, quietOk, nilSliceOp, deferV, panA, resA, argFr, retA.eq_1, retA.eq_2, Nat.reduceAdd, Nat.reduceSub, Nat.reduceMul, Nat.reduceLT, Nat.reduceLeDiff, Nat.reduceEqDiff, Nat.reduceBEq, Int.reduceAdd, Int.reduceSub, Int.reduceMul, Int.reduceNeg, Int.reduceLE, Int.reduceLT, Int.reduceEq, Int.reduceNe, Int.reduceToNat, ↓reduceIte, reduceCtorEq, implies_true, forall_const, eq_self, ne_eq, wtAll, Tryz.ntmps79, Tryz.results79, hh_i10, hh_i7, g1, g1', g2]; done)) (fun E1 => ?_); right; simp only [vsAll, ↓reduceIte, eq_self, E0, E1])
   ·rw [if_neg (by simp [hc])] at es
    simp only [vsAll, binA, binLitA, intA, opA, dstOk, Nat.reduceLT, Nat.reduceEqDiff, ↓reduceIte, eq_self]
    refine ⟨by simp only [InR_i64]; ((try clear hh_i10 hh_i7 g1 g1' g2); omega), loop_next (i + 1) hil (by ((try clear hh_i10 hh_i7 g1 g1' g2); omega)) ?_ ?_⟩
    ·simp only [vsAll, Nat.reduceEqDiff, ↓reduceIte, eq_self, es, Int.natCast_add, Int.natCast_one]
    ·rw [es]; (repeat (first | exact HSub_rfl | refine HSub_put_eq (by simp only [vsAll, ↓reduceIte, eq_self, hh_i7]) ?_ | refine HSub_drop2 (by simp only [eq_self, hh_i10, hh_i7]) ?_ | refine HSub_keep_eq (by simp only [vsAll, binA, binLitA, intA, aggA, aggV, boolA, nilA2, isConst, unA, loadA, loadRow, partA, partOk, fieldAddrA, indexAddrA, indexA, fieldA, extractA, lenA, nilCheckA, boxA, boxZ, cellA, cellsA, fillA, okParts, buildSliceA, buildMutA, makeSliceA, partIdx, elemsA, lensA, ifaceA, convA, mmA, pickA, okAll, stAll, opsA, partsA, partsOk, opA, allocA, boxMutA, newCells, okCells, storeObj, appendA, guardV, taA, nM, mapUpA, rangeA, nextA, entryA, lookA, sliceA, sliceM, sliceS, boundsA, opO, okO, copyA, dstOk, nilA, quietOk, nilSliceOp, deferV, panA, resA, argFr, retA.eq_1, retA.eq_2, Nat.reduceAdd, Nat.reduceSub, Nat.reduceMul, Nat.reduceLT, Nat.reduceLeDiff, Nat.reduceEqDiff, Nat.reduceBEq, Int.reduceAdd, Int.reduceSub, Int.reduceMul, Int.reduceNeg, Int.reduceLE, Int.reduceLT, Int.reduceEq, Int.reduceNe, Int.reduceToNat, ↓reduceIte, reduceCtorEq, implies_true, forall_const, eq_self, ne_eq, wtAll, Tryz.ntmps79, Tryz.results79, hh_i10, hh_i7, g1, g1', g2]) ?_))
  ·have ei : i = l.length := by ((try clear hh_i10); omega)
   subst ei
   simp only [vsAll, opA, dstOk, nilSliceOp, resA, retA.eq_1, Nat.reduceLT, Nat.reduceEqDiff, Nat.reduceBEq, ↓reduceIte, eq_self, Tryz.results79]
   exact ⟨_, HSub_rfl, i10, hh_i10, rfl, rfl⟩
/-- What of some sounds was heard. -/
def heL (d : Dr) (l : List (Nat × Bool)) (m : Nat) (K : List Nat) : List Nat := K.filter fun s => (hsL l m l.length).all (hrB d s)
def eaB (d : Dr) (s : Nat) : Option (Nat × Bool) → Bool
 | none => true
 | some x => hrB d s x
theorem hears_tri (d : Dr) (s : Nat) (e : Option (Nat × Bool)) (H : Hp) (he : ∀ x, e = some x → x.1 < 60) : PTri Tryz.prog (.func (.method "caulkworks/rap.hears") [] []) [(enE e).getD 0 .any, .agg [u64 s, u64 (dlD d s : Nat)]] H (boo (eaB d s e)) := by
 cases e with
 | none => exact tri_inv meth163 (nothing_tri _ _ _)
 | some x => exact tri_inv meth165 (knock_tri d s x _ (he x rfl))
theorem heL_take {d : Dr} {l : List (Nat × Bool)} {m : Nat} {K : List Nat} {i : Nat} (hi : i < K.length) : heL d l m (K.take (i + 1)) = heL d l m (K.take i) ++ (if (hsL l m l.length).all (hrB d (K.getD i 0)) then [K.getD i 0] else []) := by
 unfold heL
 rw [List.take_add_one, List.getElem?_eq_getElem hi, List.filter_append, List.getD_eq_getElem?_getD, List.getElem?_eq_getElem hi]
 congr 1
 simp only [Option.toList_some, Option.getD_some]
 by_cases h : (hsL l m l.length).all (hrB d K[i]) = true
 ·simp [h]
 ·simp [h]
theorem ea_all (d : Dr) (l : List (Nat × Bool)) (m s : Nat) : (eaL l m l.length).all (eaB d s) = (hsL l m l.length).all (hrB d s) := by
 simp only [eaL, List.all_cons, List.all_map, eaB, Bool.true_and]
 rfl
theorem hsL_sub {l : List (Nat × Bool)} {m : Nat} {P : Nat × Bool → Prop} (h : ∀ i, i < l.length → P (l.getD i (0, false))) : ∀ i, i ≤ l.length → ∀ x ∈ hsL l m i, P x
 | 0, _, x, hx => by simp [hsL] at hx
 | i + 1, hi, x, hx => by
   have ih := hsL_sub (m := m) h i (by omega)
   rw [hsL] at hx
   split at hx
   ·rcases List.mem_append.1 hx with hx | hx
    ·exact ih x hx
    ·simp only [List.mem_singleton] at hx; rw [hx]; exact h i (by omega)
   ·exact ih x hx
theorem heard_tri (d : Dr) (l : List (Nat × Bool)) (m : Nat) (K : List Nat) (H : Hp) (hl : l.length ≤ 6) (hL : ∀ i, i < l.length → (l.getD i (0, false)).1 < 60) (hm : m < 2 ^ 6) (hK : K.length ≤ 64) : PTri Tryz.prog (fnA 48) [rH d l, sdA d K, u64 m] H (sdA d (heL d l m K)) := by
 refine Tri.thawX (R1 := fun r' H' => ∃ id, H id = none ∧ r' = .ret (.sl id 2 (heL d l m K).length) ∧ H' = H.set id (.row 2 (heL d l m K).length (sdF d (heL d l m K)))) ?_ ?_
 rotate_left
 ·rintro r' H' ⟨id, hid, rfl, rfl⟩
  exact .inr ⟨_, sdA d (heL d l m K), id, 2, _, sdF d (heL d l m K), rfl, .inr ⟨Hp.set_same _ _ _, .leaf ⟨rfl, sdF d (heL d l m K), fun _ _ => rfl, rfl⟩⟩, rfl, set_delO hid⟩
 refine Tri.drop ?_
 refine tri_v0 (mset [6]) Tryz.func48 (by kernel_rfl) rfl (by simp only [List.length_append, List.length_cons, List.length_nil, Tryz.ntmps48]; decide) ?_
 simp only [vsAll, okAll, stAll, opsA, opA, dstOk, nilA, argFr, Nat.reduceLT, Nat.reduceEqDiff, Nat.reduceBEq, ↓reduceIte, reduceCtorEq, eq_self, wtAll, Tryz.ntmps48]
 intro i6 hh_i6; (try simp only [Hp.set_none, ite_none] at hh_i6)
 refine callK_pure (ears_tri d l m _ hl hm) ?_
 simp only [vsAll, lenA, opA, dstOk, nilSliceOp, argFr, Nat.reduceLT, Nat.reduceEqDiff, Nat.reduceBEq, ↓reduceIte, eq_self, wtAll]
 refine vs_loop (σ := Nat) (fun i => i ≤ K.length) (fun i => [(6, .sl i6 2 (heL d l m (K.take i)).length), (7, eaAV (eaL l m l.length)), (15, sdA d K), (16, i64 (K.length : Nat)), (17, i64 i)]) (fun i => H.set i6 (.row 2 (heL d l m (K.take i)).length (sdF d (heL d l m (K.take i))))) (fun i => K.length - i) 0 (Nat.zero_le _) ?_ ?_ fun i hi => ?_
 ·simp only [vsAll, Nat.reduceEqDiff, ↓reduceIte, eq_self, Int.natCast_zero]
  exact .refl _
 ·exact HSub_set (row_ext fun q' hq => absurd hq (Nat.not_lt_zero q'))
 ·have hle : (heL d l m (K.take i)).length ≤ i := by
   have h1 : (heL d l m (K.take i)).length ≤ (K.take i).length := List.length_filter_le _ _
   rw [List.length_take] at h1; ((try clear hh_i6); omega)
  have hel := eaL_len l m l.length
  simp only [vsAll, binA, binLitA, intA, opA, dstOk, Nat.reduceLT, Nat.reduceEqDiff, ↓reduceIte, eq_self]
  refine condD (fun hd => ?_) (fun hd => ?_)
  ·have hil : i < K.length := by ((try clear hh_i6); omega)
   have es := heL_take (d := d) (l := l) (m := m) hil
   simp only [vsAll, loadA, loadRow, partA, partOk, indexAddrA, lenA, cellA, opA, allocA, newCells, okCells, storeObj, dstOk, Nat.reduceAdd, Nat.reduceLT, Nat.reduceEqDiff, ↓reduceIte, eq_self, wtAll, sdF_at]
   refine ⟨⟨by ((try clear hh_i6); omega), by ((try clear hh_i6); omega)⟩, hil, ?_⟩
   intro i9 hh_i9; (try simp only [ite_none] at hh_i9)
   have g7 : ¬ i9 = i6 ∧ H i9 = none := by simp_all
   obtain ⟨g1, g2⟩ := g7
   have g1' : ¬ i6 = i9 := fun e => g1 e.symm
   skip
   have hE : ∀ j, j < (eaL l m l.length).length → ∀ x, (eaL l m l.length).getD j none = some x → x.1 < 60 := fun j hj x hx => by
    have hmem : some x ∈ eaL l m l.length := by
     rw [← hx, List.getD_eq_getElem?_getD, List.getElem?_eq_getElem hj]; exact List.getElem_mem hj
    rcases List.mem_cons.1 hmem with h | h
    ·cases h
    ·obtain ⟨y, hy, hyx⟩ := List.mem_map.1 h
     cases hyx
     exact hsL_sub (P := fun x => x.1 < 60) hL l.length (Nat.le_refl _) x hy
   refine vs_loop (σ := Nat) (fun j => j ≤ (eaL l m l.length).length ∧ ∀ q, q < j → eaB d (K.getD i 0) ((eaL l m l.length).getD q none) = true) (fun j => [(6, .sl i6 2 (heL d l m (K.take i)).length), (7, eaAV (eaL l m l.length)), (9, .ref i9 0 2 0 0), (15, sdA d K), (16, i64 (K.length : Nat)), (17, i64 i), (21, eaAV (eaL l m l.length)), (22, i64 ((eaL l m l.length).length : Nat)), (23, i64 j)])
    (fun _ => (H.set i6 (.row 2 (heL d l m (K.take i)).length (sdF d (heL d l m (K.take i))))).set i9 (.box 2 1 fun _ => [u64 (K.getD i 0 : Nat), u64 (dlD d (K.getD i 0) : Nat)])) (fun j => (eaL l m l.length).length - j) 0 ⟨Nat.zero_le _, fun q hq => absurd hq (Nat.not_lt_zero q)⟩ ?_ ?_ fun j hj => ?_
   ·simp only [vsAll, Nat.reduceEqDiff, ↓reduceIte, eq_self, Int.natCast_zero]
   ·rw [Hp.set_set]; exact HSub_rfl
   ·obtain ⟨hj, hall⟩ := hj
    simp only [vsAll, binA, binLitA, intA, opA, dstOk, Nat.reduceLT, Nat.reduceEqDiff, ↓reduceIte, eq_self]
    refine condD (fun hd2 => ?_) (fun hd2 => ?_)
    ·have hjl : j < (eaL l m l.length).length := by ((try clear hh_i6 hh_i9 g1 g1' g2); omega)
     have ht := fun H' => hears_tri d (K.getD i 0) _ H' (hE j hjl)
     have hev := hE j hjl
     have hbe : eaB d (K.getD i 0) ((eaL l m l.length).getD j none) = eaB d (K.getD i 0) ((eaL l m l.length).getD j none) := rfl
     obtain ⟨T, w, eI⟩ : ∃ T w, enE ((eaL l m l.length).getD j none) = [.iface T w] := by cases (eaL l m l.length).getD j none <;> exact ⟨_, _, rfl⟩
     rw [eI] at ht
     simp only [vsAll, loadA, loadRow, partA, partOk, indexAddrA, okAll, stAll, opsA, opA, dstOk, nilSliceOp, Nat.reduceLT, Nat.reduceEqDiff, Nat.reduceBEq, ↓reduceIte, eq_self, wtAll, lF_at, eI]
     refine ⟨⟨by ((try clear hh_i6 hh_i9 g1 g1' g2); omega), by ((try clear hh_i6 hh_i9 g1 g1' g2); omega)⟩, hjl, callK_pure (ht _) ?_⟩
     simp only [vsAll, unA, opA, dstOk, Nat.reduceLT, ↓reduceIte, eq_self]
     refine condV (fun hc => ?_) (fun hc => ?_)
     ·simp only [Bool.not_eq_true'] at hc
      have hb : (hsL l m l.length).all (hrB d (K.getD i 0)) = false := by
       rw [← ea_all, List.all_eq_false]
       refine ⟨(eaL l m l.length).getD j none, ?_, by rw [hc]; decide⟩
       rw [List.getD_eq_getElem?_getD, List.getElem?_eq_getElem hjl]; exact List.getElem_mem hjl
      rw [hb] at es
      simp only [Bool.false_eq_true, if_false, List.append_nil] at es
      simp only [vsAll, binA, binLitA, intA, opA, dstOk, Nat.reduceLT, Nat.reduceEqDiff, ↓reduceIte, eq_self]
      refine ⟨by simp only [InR_i64]; ((try clear hh_i6 hh_i9 g1 g1' g2); omega), loop_next (i + 1) hil (by ((try clear hh_i6 hh_i9 g1 g1' g2); omega)) ?_ ?_⟩
      ·simp only [vsAll, Nat.reduceEqDiff, ↓reduceIte, eq_self, es, Int.natCast_add, Int.natCast_one]
      ·rw [es]; (repeat (first | exact HSub_rfl | refine HSub_put_eq (by simp only [vsAll, ↓reduceIte, eq_self, hh_i9]) ?_ | refine HSub_drop2 (by simp only [eq_self, hh_i6, hh_i9]) ?_ | refine HSub_keep_eq (by simp only [vsAll, binA, binLitA, intA, aggA, aggV, boolA, nilA2, isConst, unA, loadA, loadRow, partA, partOk, fieldAddrA, indexAddrA, indexA, fieldA, extractA, lenA, nilCheckA, boxA, boxZ, cellA, cellsA, fillA, okParts, buildSliceA, buildMutA, makeSliceA, partIdx, elemsA, lensA, ifaceA, convA, mmA, pickA, okAll, stAll, opsA, partsA, partsOk, opA, allocA, boxMutA, newCells, okCells, storeObj, appendA, guardV, taA, nM, mapUpA, rangeA, nextA, entryA, lookA, sliceA, sliceM, sliceS, boundsA, opO, okO, copyA, dstOk, nilA, quietOk, nilSliceOp, deferV, panA, resA, argFr, retA.eq_1, retA.eq_2, Nat.reduceAdd, Nat.reduceSub, Nat.reduceMul, Nat.reduceLT, Nat.reduceLeDiff, Nat.reduceEqDiff, Nat.reduceBEq, Int.reduceAdd, Int.reduceSub, Int.reduceMul, Int.reduceNeg, Int.reduceLE, Int.reduceLT, Int.reduceEq, Int.reduceNe, Int.reduceToNat, ↓reduceIte, reduceCtorEq, implies_true, forall_const, eq_self, ne_eq, wtAll, Tryz.ntmps48, Tryz.results48, hh_i6, hh_i9, g1, g1', g2]) ?_))
     ·simp only [Bool.not_eq_false'] at hc
      simp only [vsAll, binA, binLitA, intA, opA, dstOk, Nat.reduceLT, Nat.reduceEqDiff, ↓reduceIte, eq_self]
      refine ⟨by simp only [InR_i64]; ((try clear hh_i6 hh_i9 g1 g1' g2); omega), loop_next (j + 1) ⟨hjl, fun q hq => ?_⟩ (by ((try clear hh_i6 hh_i9 g1 g1' g2); omega)) ?_ HSub_rfl⟩
      ·by_cases e : q = j
       ·rw [e]; exact hc
       ·exact hall q (by ((try clear hh_i6 hh_i9 g1 g1' g2); omega))
      ·simp only [vsAll, Nat.reduceEqDiff, ↓reduceIte, eq_self, Int.natCast_add, Int.natCast_one]
    ·have ej : j = (eaL l m l.length).length := by ((try clear hh_i6 hh_i9 g1 g1' g2); omega)
     have hb : (hsL l m l.length).all (hrB d (K.getD i 0)) = true := by
      rw [← ea_all, List.all_eq_true]
      intro x hx
      obtain ⟨q, hq, e⟩ := getD_mem none hx
      rw [← e]; exact hall q (by ((try clear hh_i6 hh_i9 g1 g1' g2); omega))
     rw [if_pos hb] at es
     simp only [vsAll, binA, binLitA, intA, loadA, loadRow, partA, partOk, cellsA, okParts, buildSliceA, partIdx, elemsA, lensA, partsA, partsOk, opA, appendA, dstOk, nilSliceOp, Nat.reduceAdd, Nat.reduceMul, Nat.reduceLT, Nat.reduceLeDiff, Nat.reduceEqDiff, Nat.reduceBEq, ↓reduceIte, eq_self, wtAll, hh_i9]
     have ea : appF (heL d l m (K.take i)).length 1 (sdF d (heL d l m (K.take i))) (fun i_1 => [[u64 (K.getD i 0 : Nat), u64 (dlD d (K.getD i 0) : Nat)]].getD i_1 []) = sdF d (heL d l m (K.take i) ++ [K.getD i 0]) := app_lF (fun s : Nat => [u64 (s : Nat), u64 (dlD d s : Nat)]) 0 _ _ _ rfl
     refine ⟨fun q hq => by (have : q = 0 := by ((try clear hh_i6 hh_i9 g1 g1' g2); omega)); subst this; exact ⟨rfl, rfl, trivial⟩, by ((try clear hh_i6 hh_i9 g1 g1' g2); omega), by ((try clear hh_i6 hh_i9 g1 g1' g2); omega), by simp only [InR_i64]; ((try clear hh_i6 hh_i9 g1 g1' g2); omega), loop_next (i + 1) hil (by ((try clear hh_i6 hh_i9 g1 g1' g2); omega)) ?_ ?_⟩
     ·simp only [vsAll, Nat.reduceEqDiff, ↓reduceIte, eq_self, es, List.length_append, Int.natCast_add, Int.natCast_one]
     ·rw [ea, es, List.length_append]; simp only [List.length_cons, List.length_nil]; (refine HSub_eqn fun jj => ?_; refine (Classical.em (jj = i6)).elim (fun E0 => by rw [E0]; first | (left; simp only [vsAll, ↓reduceIte, reduceCtorEq, eq_self]; done) | (right; simp only [vsAll, ↓reduceIte, eq_self]; done)) (fun E0 => ?_); refine (Classical.em (jj = i9)).elim (fun E1 => by rw [E1]; first | (left; simp only [vsAll, ↓reduceIte, eq_self, hh_i9]; done) | (right; simp only [vsAll, binA, binLitA, intA, aggA, aggV, boolA, nilA2, isConst, unA, loadA, loadRow, partA, partOk, fieldAddrA, indexAddrA, indexA, fieldA, extractA, lenA, nilCheckA, boxA, boxZ, cellA, cellsA, fillA, okParts, buildSliceA, buildMutA, makeSliceA, partIdx, elemsA, lensA, ifaceA, convA, mmA, pickA, okAll, stAll, opsA, partsA, partsOk, opA, allocA, boxMutA, newCells, okCells, storeObj, appendA, guardV, taA, nM, mapUpA, rangeA, nextA, entryA, lookA, sliceA, sliceM, sliceS, boundsA, opO, okO, copyA, dstOk, nilA, quietOk, nilSliceOp, deferV, panA, resA, argFr, retA.eq_1, retA.eq_2, Nat.reduceAdd, Nat.reduceSub, Nat.reduceMul, Nat.reduceLT, Nat.reduceLeDiff, Nat.reduceEqDiff, Nat.reduceBEq, Int.reduceAdd, Int.reduceSub, Int.reduceMul, Int.reduceNeg, Int.reduceLE, Int.reduceLT, Int.reduceEq, Int.reduceNe, Int.reduceToNat, ↓reduceIte, reduceCtorEq, implies_true, forall_const, eq_self, ne_eq, wtAll, Tryz.ntmps48, Tryz.results48, hh_i6, hh_i9, g1, g1', g2]; done)) (fun E1 => ?_); right; simp only [vsAll, ↓reduceIte, eq_self, E0, E1])
  ·have ei : i = K.length := by ((try clear hh_i6); omega)
   subst ei
   rw [List.take_length]
   simp only [vsAll, opA, dstOk, nilSliceOp, resA, retA.eq_1, Nat.reduceLT, Nat.reduceEqDiff, Nat.reduceBEq, ↓reduceIte, eq_self, Tryz.results48]
   exact ⟨_, HSub_rfl, i6, hh_i6, rfl, rfl⟩
end Go.Proofs.YtclkjifgipcamaaGreat
end
section
set_option linter.unusedVariables false
set_option linter.unusedSimpArgs false
set_option maxHeartbeats 8000000
set_option maxRecDepth 100000
namespace Go.Proofs.YtclkjifgipcamaaGreat
open Go.V
abbrev caL (d : Dr) (l : List (Nat × Bool)) (M : List Nat) : List Nat := heL d l (2 ^ l.length - 1) M
theorem p2_6 {n : Nat} (h : n ≤ 6) : 2 ^ n ≤ 64 := Nat.pow_le_pow_right (n := 2) (by decide) h
theorem caL_len (d : Dr) (l : List (Nat × Bool)) (M : List Nat) : (caL d l M).length ≤ M.length := List.length_filter_le _ _
theorem rcan_tri {d : Dr} {l : List (Nat × Bool)} (k : OkD d) (kl : OkL d l) {M : List Nat} (hM : SetsOk d M) (h0 : 0 < (caL d l M).length) (H : Hp) : PTri Tryz.prog (fnA 41) [rH d l] H (sdA d (caL d l M)) := by
 have n6 := k.n6
 have hl6 := kl.n
 have hp := p2_6 hl6
 have hMl := hM.l
 refine tri_v0 (fun _ => false) Tryz.func41 (by kernel_rfl) rfl (by simp only [List.length_append, List.length_cons, List.length_nil, Tryz.ntmps41]; decide) ?_
 simp only [vsAll, okAll, stAll, opsA, opA, dstOk, nilSliceOp, argFr, Nat.reduceLT, ↓reduceIte, reduceCtorEq, eq_self, Tryz.ntmps41]
 refine callK_pure (sounds_tri k kl hM _) ?_
 simp only [vsAll, okAll, stAll, opsA, opA, dstOk, argFr, Nat.reduceLT, ↓reduceIte, reduceCtorEq, eq_self]
 refine callK_pure (hevery_tri d l _ hl6) ?_
 simp only [vsAll, okAll, stAll, opsA, opA, dstOk, Nat.reduceLT, Nat.reduceEqDiff, ↓reduceIte, eq_self]
 refine callK_pure (heard_tri d l _ M _ hl6 (fun i hi => by have := kl.k i hi; omega) (by omega) (by omega)) ?_
 simp only [vsAll, binA, binLitA, intA, lenA, okAll, stAll, opsA, opA, dstOk, nilSliceOp, Nat.reduceLT, ↓reduceIte, eq_self, wtAll]
 refine rwant_call (fun _ => ?_) (fun hv => absurd hv (by rw [decide_eq_true (by show ((caL d l M).length : Int) > 0; omega)]; decide))
 simp only [vsAll, opA, dstOk, nilSliceOp, resA, retA.eq_1, Nat.reduceLT, Nat.reduceEqDiff, ↓reduceIte, eq_self, Tryz.results41]
theorem caL_lt {d : Dr} {l : List (Nat × Bool)} (k : OkD d) {M : List Nat} (hM : SetsOk d M) {i : Nat} (hi : i < (caL d l M).length) : (caL d l M).getD i 0 < 64 := by
 have h1 : (caL d l M).getD i 0 ∈ caL d l M := by rw [List.getD_eq_getElem?_getD, List.getElem?_eq_getElem hi]; exact List.getElem_mem hi
 obtain ⟨b, _, e⟩ := (hM.m _).1 (List.mem_filter.1 h1).1
 have := opB_lt d b
 have p6 := p2_6 k.n6
 omega
theorem sets_tri {d : Dr} {l : List (Nat × Bool)} (k : OkD d) (kl : OkL d l) {M : List Nat} (hM : SetsOk d M) (h0 : 0 < (caL d l M).length) (H : Hp) : PTri Tryz.prog (fnA 11) [.agg (rpC d l)] H (.tuple [intsAV ((caL d l M).map fun s : Nat => (s : Int)), i64 0]) := by
 have hMl := hM.l
 have hcl := caL_len d l M
 have hlt := fun i => caL_lt (l := l) k hM (i := i)
 have eL : ((caL d l M).map fun s : Nat => (s : Int)).length = (caL d l M).length := List.length_map _
 refine Tri.thawD (R1 := fun r H' => ∃ id, H id = none ∧ r = .ret (.tuple [.sl id 1 (caL d l M).length, i64 0]) ∧ H' = H.set id (.row 1 (caL d l M).length (intF ((caL d l M).map fun s : Nat => (s : Int))))) ?_ ?_
 rotate_left
 ·rintro r H' ⟨id, hid, rfl, rfl⟩
  exact .inr ⟨_, .tuple [intsAV ((caL d l M).map fun s : Nat => (s : Int)), i64 0], id, 1, _, intF ((caL d l M).map fun s : Nat => (s : Int)), rfl, Hp.set_same _ _ _, .tuple rfl fun q hq => (match q, hq with
   | 0, _ => by
     show FrzD _ _ _ _ (.sl id 1 _) (.rsl _ 1 _)
     rw [eL]; exact .hit fun _ _ => rfl
   | 1, _ => .same _), rfl, set_delO hid⟩
 refine Tri.drop ?_
 refine tri_a (m := mset [4]) ans40 Tryz.func11 (by kernel_rfl) rfl (by simp only [List.length_append, List.length_cons, List.length_nil, Tryz.ntmps11]; decide) ?_
 simp only [vsAll, loadA, loadRow, partA, partOk, boxA, boxZ, okAll, stAll, opsA, opA, allocA, dstOk, nilA, nilSliceOp, deferV, argFr, Nat.reduceAdd, Nat.reduceLT, Nat.reduceEqDiff, Nat.reduceBEq, ↓reduceIte, eq_self, wtAll, Tryz.ntmps11]
 intro i3 hh_i3; (try simp only [Hp.set_none, ite_none] at hh_i3); intro i4 hh_i4; (try simp only [ite_none] at hh_i4)
 have g : ¬ i4 = i3 ∧ H i3 = none ∧ H i4 = none := by simp_all
 obtain ⟨g1, g2, g3⟩ := g
 have g1' : ¬ i3 = i4 := fun e => g1 e.symm
 skip
 refine ⟨_, ropenH_tri d l true _ k kl, ?_⟩
 rintro r H' ⟨rfl, rfl⟩
 simp only [vsAll, okAll, stAll, opsA, opA, dstOk, Nat.reduceLT, ↓reduceIte, eq_self]
 refine callK_pure (rcan_tri k kl hM h0 _) ?_
 generalize hC : caL d l M = C at *
 simp only [vsAll, lenA, opA, dstOk, Nat.reduceLT, ↓reduceIte, eq_self, wtAll]
 refine vs_loop (σ := Nat) (fun i => i ≤ C.length) (fun i => [(3, .ref i3 0 1 0 0), (4, .sl i4 1 i), (10, sdA d C), (11, i64 (C.length : Nat)), (12, i64 i)]) (fun i => (H.set i3 (.box 1 1 fun _ => [i64 0])).set i4 (.row 1 i (intF (C.map fun s : Nat => (s : Int))))) (fun i => C.length - i) 0 (Nat.zero_le _) ?_ ?_ fun i hi => ?_
 ·simp only [vsAll, Nat.reduceEqDiff, ↓reduceIte, eq_self, Int.natCast_zero]
 ·exact Go.V.HSub.set (.refl _) (row_ext fun q hq => absurd hq (Nat.not_lt_zero q))
 ·simp only [vsAll, binA, binLitA, intA, opA, dstOk, Nat.reduceLT, Nat.reduceEqDiff, ↓reduceIte, eq_self]
  refine condD (fun hd => ?_) (fun hd => ?_)
  ·have hil : i < C.length := by ((try clear hh_i3 hh_i4 g1 g1' g2 g3); omega)
   have hz := hlt i hil
   simp only [vsAll, binA, binLitA, intA, loadA, loadRow, partA, partOk, fieldAddrA, indexAddrA, cellA, cellsA, okParts, buildSliceA, partIdx, elemsA, lensA, convA, partsA, partsOk, opA, allocA, newCells, okCells, storeObj, appendA, dstOk, nilSliceOp, Nat.reduceAdd, Nat.reduceMul, Nat.reduceLT, Nat.reduceLeDiff, Nat.reduceEqDiff, Nat.reduceBEq, ↓reduceIte, eq_self, wtAll, sdF_at]
   refine ⟨⟨by ((try clear hh_i3 hh_i4 g1 g1' g2 g3); omega), by ((try clear hh_i3 hh_i4 g1 g1' g2 g3); omega)⟩, hil, ?_⟩
   intro i6 hh_i6; (try simp only [ite_none] at hh_i6)
   have g6 : ¬ i6 = i4 ∧ ¬ i6 = i3 ∧ H i6 = none := by simp_all
   obtain ⟨k4, k3, k0⟩ := g6
   have k4' : ¬ i4 = i6 := fun e => k4 e.symm
   have k3' : ¬ i3 = i6 := fun e => k3 e.symm
   skip
   simp only [vsAll, ↓reduceIte, eq_self, hh_i6]
   have hgi : (C.map fun s : Nat => (s : Int)).getD i 0 = ((C.getD i 0 : Nat) : Int) := by simp [List.getD_eq_getElem?_getD, hil]
   have eap : ∀ q', q' < i + 1 → appF i 1 (intF (C.map fun s : Nat => (s : Int))) (fun i_1 => [[AV.lit (Value.int IntKind.i64 (C.getD i 0 : Nat))]].getD i_1 []) q' = intF (C.map fun s : Nat => (s : Int)) q' := fun q' hq' => by
    rw [appF_at (by ((try clear hh_i3 hh_i4 g1 g1' g2 g3 hh_i6 k4 k4' k3 k3' k0); omega))]
    by_cases e : q' < i
    ·rw [if_pos e]
    ·have : q' = i := by ((try clear hh_i3 hh_i4 g1 g1' g2 g3 hh_i6 k4 k4' k3 k3' k0); omega)
     subst this
     rw [if_neg (by ((try clear hh_i3 hh_i4 g1 g1' g2 g3 hh_i6 k4 k4' k3 k3' k0); omega)), Nat.sub_self, intF_at, hgi]
     rfl
   refine ⟨by simp only [InR_i64]; ((try clear hh_i3 hh_i4 g1 g1' g2 g3 hh_i6 k4 k4' k3 k3' k0); omega), fun q hq => by (have : q = 0 := by ((try clear hh_i3 hh_i4 g1 g1' g2 g3 hh_i6 k4 k4' k3 k3' k0); omega)); subst this; exact ⟨rfl, trivial⟩, by ((try clear hh_i3 hh_i4 g1 g1' g2 g3 hh_i6 k4 k4' k3 k3' k0); omega), by ((try clear hh_i3 hh_i4 g1 g1' g2 g3 hh_i6 k4 k4' k3 k3' k0); omega), by simp only [InR_i64]; ((try clear hh_i3 hh_i4 g1 g1' g2 g3 hh_i6 k4 k4' k3 k3' k0); omega), loop_next (i + 1) hil (by ((try clear hh_i3 hh_i4 g1 g1' g2 g3 hh_i6 k4 k4' k3 k3' k0); omega)) ?_ ?_⟩
   ·simp only [vsAll, Nat.reduceEqDiff, ↓reduceIte, eq_self, Int.natCast_add, Int.natCast_one]
   ·refine Go.V.HSub.trans (Go.V.HSub.set (.refl _) (row_ext eap)) ?_
    (refine HSub_eqn fun jj => ?_; refine (Classical.em (jj = i4)).elim (fun E0 => by rw [E0]; first | (left; simp only [vsAll, ↓reduceIte, reduceCtorEq, eq_self]; done) | (right; simp only [vsAll, ↓reduceIte, eq_self]; done)) (fun E0 => ?_); refine (Classical.em (jj = i6)).elim (fun E1 => by rw [E1]; first | (left; simp only [vsAll, ↓reduceIte, eq_self, hh_i6]; done) | (right; simp only [vsAll, binA, binLitA, intA, aggA, aggV, boolA, nilA2, isConst, unA, loadA, loadRow, partA, partOk, fieldAddrA, indexAddrA, indexA, fieldA, extractA, lenA, nilCheckA, boxA, boxZ, cellA, cellsA, fillA, okParts, buildSliceA, buildMutA, makeSliceA, partIdx, elemsA, lensA, ifaceA, convA, mmA, pickA, okAll, stAll, opsA, partsA, partsOk, opA, allocA, boxMutA, newCells, okCells, storeObj, appendA, guardV, taA, nM, mapUpA, rangeA, nextA, entryA, lookA, sliceA, sliceM, sliceS, boundsA, opO, okO, copyA, dstOk, nilA, quietOk, nilSliceOp, deferV, panA, resA, argFr, retA.eq_1, retA.eq_2, Nat.reduceAdd, Nat.reduceSub, Nat.reduceMul, Nat.reduceLT, Nat.reduceLeDiff, Nat.reduceEqDiff, Nat.reduceBEq, Int.reduceAdd, Int.reduceSub, Int.reduceMul, Int.reduceNeg, Int.reduceLE, Int.reduceLT, Int.reduceEq, Int.reduceNe, Int.reduceToNat, ↓reduceIte, reduceCtorEq, implies_true, forall_const, eq_self, ne_eq, wtAll, Tryz.ntmps11, Tryz.results11, hh_i3, hh_i4, g1, g1', g2, g3, hh_i6, k4, k4', k3, k3', k0]; done)) (fun E1 => ?_); refine (Classical.em (jj = i3)).elim (fun E2 => by rw [E2]; first | (left; simp only [vsAll, ↓reduceIte, reduceCtorEq, eq_self, hh_i4]; done) | (right; simp only [vsAll, ↓reduceIte, eq_self, hh_i4, hh_i6]; done)) (fun E2 => ?_); right; simp only [vsAll, ↓reduceIte, eq_self, E0, E1, E2])
  ·have ei : i = C.length := by ((try clear hh_i3 hh_i4 g1 g1' g2 g3); omega)
   subst ei
   simp only [vsAll, cellA, cellsA, opA, newCells, okCells, storeObj, dstOk, nilSliceOp, Nat.reduceLT, Nat.reduceEqDiff, Nat.reduceBEq, ↓reduceIte, eq_self, wtAll, hh_i4]
   refine Ent.ret ⟨i3, _, rfl, by simp only [vsAll, ↓reduceIte, eq_self]; try rfl, ?_⟩
   simp only [vsAll, loadA, loadRow, partA, partOk, resA, retA.eq_2, Nat.reduceLT, Nat.reduceEqDiff, ↓reduceIte, eq_self, wtAll, Tryz.results11]
   exact ⟨H.set i4 (.row 1 C.length (intF (C.map fun s : Nat => (s : Int)))), by (refine HSub_eqn fun jj => ?_; refine (Classical.em (jj = i4)).elim (fun E0 => by rw [E0]; first | (left; simp only [vsAll, ↓reduceIte, reduceCtorEq, eq_self]; done) | (right; simp only [vsAll, ↓reduceIte, eq_self, hh_i4]; done)) (fun E0 => ?_); refine (Classical.em (jj = i3)).elim (fun E1 => by rw [E1]; first | (left; simp only [vsAll, ↓reduceIte, eq_self, hh_i3, hh_i4]; done) | (right; simp only [vsAll, binA, binLitA, intA, aggA, aggV, boolA, nilA2, isConst, unA, loadA, loadRow, partA, partOk, fieldAddrA, indexAddrA, indexA, fieldA, extractA, lenA, nilCheckA, boxA, boxZ, cellA, cellsA, fillA, okParts, buildSliceA, buildMutA, makeSliceA, partIdx, elemsA, lensA, ifaceA, convA, mmA, pickA, okAll, stAll, opsA, partsA, partsOk, opA, allocA, boxMutA, newCells, okCells, storeObj, appendA, guardV, taA, nM, mapUpA, rangeA, nextA, entryA, lookA, sliceA, sliceM, sliceS, boundsA, opO, okO, copyA, dstOk, nilA, quietOk, nilSliceOp, deferV, panA, resA, argFr, retA.eq_1, retA.eq_2, Nat.reduceAdd, Nat.reduceSub, Nat.reduceMul, Nat.reduceLT, Nat.reduceLeDiff, Nat.reduceEqDiff, Nat.reduceBEq, Int.reduceAdd, Int.reduceSub, Int.reduceMul, Int.reduceNeg, Int.reduceLE, Int.reduceLT, Int.reduceEq, Int.reduceNe, Int.reduceToNat, ↓reduceIte, reduceCtorEq, implies_true, forall_const, eq_self, ne_eq, wtAll, Tryz.ntmps11, Tryz.results11, hh_i3, hh_i4, g1, g1', g2, g3]; done)) (fun E1 => ?_); right; simp only [vsAll, ↓reduceIte, eq_self, E0, E1]), i4, g3, rfl, rfl⟩
theorem sound_tri {d : Dr} {l : List (Nat × Bool)} (k : OkD d) (kl : OkL d l) {M : List Nat} (hM : SetsOk d M) (h0 : 0 < (caL d l M).length) (H : Hp) : PTri Tryz.prog (fnA 13) [.agg (rpC d l)] H (.tuple [i64 (if (caL d l M).getD 0 0 ≠ 0 then 0 else if (caL d l M).length = 1 then 2 else 1), i64 0]) := by
 have hMl := hM.l
 have hcl := caL_len d l M
 refine Tri.drop ?_
 refine tri_a (m := mset [3]) ans51 Tryz.func13 (by kernel_rfl) rfl (by simp only [List.length_append, List.length_cons, List.length_nil, Tryz.ntmps13]; decide) ?_
 simp only [vsAll, loadA, loadRow, partA, partOk, boxA, boxZ, okAll, stAll, opsA, opA, allocA, dstOk, nilSliceOp, deferV, argFr, Nat.reduceAdd, Nat.reduceLT, Nat.reduceEqDiff, Nat.reduceBEq, ↓reduceIte, eq_self, ne_eq, wtAll, Tryz.ntmps13]
 intro i3 hh_i3; (try simp only [Hp.set_none, ite_none] at hh_i3)
 refine ⟨_, ropenH_tri d l true _ k kl, ?_⟩
 rintro r H' ⟨rfl, rfl⟩
 simp only [vsAll, okAll, stAll, opsA, opA, dstOk, Nat.reduceLT, ↓reduceIte, eq_self]
 refine callK_pure (rcan_tri k kl hM h0 _) ?_
 have hz := caL_lt k hM h0
 have eC : ∀ z : Nat, decide ((z : Int) = 0) = decide (z = 0) := fun z => decide_eq_decide.2 (by ((try clear hh_i3); omega))
 simp only [vsAll, binA, binLitA, intA, loadA, loadRow, partA, partOk, fieldAddrA, indexAddrA, opA, dstOk, nilSliceOp, Nat.reduceLT, Nat.reduceBEq, Int.reduceLE, Int.reduceToNat, ↓reduceIte, eq_self, wtAll, sdF_at]
 refine ⟨by ((try clear hh_i3); omega), h0, ?_⟩
 generalize caL d l M = C at *
 refine condV (fun hc => ?_) (fun hc => ?_)
 ·have hc' : C.getD 0 0 ≠ 0 := by simpa using hc
  rw [if_pos hc']
  simp only [vsAll, cellA, cellsA, opA, newCells, okCells, storeObj, dstOk, nilSliceOp, Nat.reduceLT, Nat.reduceEqDiff, Nat.reduceBEq, ↓reduceIte, eq_self, wtAll]
  refine Ent.ret ⟨i3, _, rfl, by simp only [vsAll, ↓reduceIte, eq_self]; try rfl, ?_⟩
  simp only [vsAll, loadA, loadRow, partA, partOk, resA, retA.eq_2, Nat.reduceLT, Nat.reduceEqDiff, ↓reduceIte, eq_self, wtAll, Tryz.results13]
  exact ⟨H, by (repeat (first | exact HSub_rfl | refine HSub_put_eq (by simp only [vsAll, binA, binLitA, intA, aggA, aggV, boolA, nilA2, isConst, unA, loadA, loadRow, partA, partOk, fieldAddrA, indexAddrA, indexA, fieldA, extractA, lenA, nilCheckA, boxA, boxZ, cellA, cellsA, fillA, okParts, buildSliceA, buildMutA, makeSliceA, partIdx, elemsA, lensA, ifaceA, convA, mmA, pickA, okAll, stAll, opsA, partsA, partsOk, opA, allocA, boxMutA, newCells, okCells, storeObj, appendA, guardV, taA, nM, mapUpA, rangeA, nextA, entryA, lookA, sliceA, sliceM, sliceS, boundsA, opO, okO, copyA, dstOk, nilA, quietOk, nilSliceOp, deferV, panA, resA, argFr, retA.eq_1, retA.eq_2, Nat.reduceAdd, Nat.reduceSub, Nat.reduceMul, Nat.reduceLT, Nat.reduceLeDiff, Nat.reduceEqDiff, Nat.reduceBEq, Int.reduceAdd, Int.reduceSub, Int.reduceMul, Int.reduceNeg, Int.reduceLE, Int.reduceLT, Int.reduceEq, Int.reduceNe, Int.reduceToNat, ↓reduceIte, reduceCtorEq, implies_true, forall_const, eq_self, ne_eq, wtAll, Tryz.ntmps13, Tryz.results13, hh_i3]) ?_ | refine HSub_drop2 (by simp only [eq_self, hh_i3]) ?_ | refine HSub_keep_eq (by simp only [vsAll, binA, binLitA, intA, aggA, aggV, boolA, nilA2, isConst, unA, loadA, loadRow, partA, partOk, fieldAddrA, indexAddrA, indexA, fieldA, extractA, lenA, nilCheckA, boxA, boxZ, cellA, cellsA, fillA, okParts, buildSliceA, buildMutA, makeSliceA, partIdx, elemsA, lensA, ifaceA, convA, mmA, pickA, okAll, stAll, opsA, partsA, partsOk, opA, allocA, boxMutA, newCells, okCells, storeObj, appendA, guardV, taA, nM, mapUpA, rangeA, nextA, entryA, lookA, sliceA, sliceM, sliceS, boundsA, opO, okO, copyA, dstOk, nilA, quietOk, nilSliceOp, deferV, panA, resA, argFr, retA.eq_1, retA.eq_2, Nat.reduceAdd, Nat.reduceSub, Nat.reduceMul, Nat.reduceLT, Nat.reduceLeDiff, Nat.reduceEqDiff, Nat.reduceBEq, Int.reduceAdd, Int.reduceSub, Int.reduceMul, Int.reduceNeg, Int.reduceLE, Int.reduceLT, Int.reduceEq, Int.reduceNe, Int.reduceToNat, ↓reduceIte, reduceCtorEq, implies_true, forall_const, eq_self, ne_eq, wtAll, Tryz.ntmps13, Tryz.results13, hh_i3]) ?_)), rfl, rfl⟩
 ·have hc' : ¬ (C.getD 0 0 ≠ 0) := by simpa using hc
  rw [if_neg hc']
  simp only [vsAll, binA, binLitA, intA, lenA, opA, dstOk, nilSliceOp, Nat.reduceLT, Nat.reduceEqDiff, Nat.reduceBEq, ↓reduceIte, eq_self, wtAll]
  refine condV (fun hd => ?_) (fun hd => ?_)
  ·have hd' : C.length = 1 := by have := of_decide_eq_true hd; ((try clear hh_i3); omega)
   rw [if_pos hd']
   simp only [vsAll, cellA, cellsA, opA, newCells, okCells, storeObj, dstOk, nilSliceOp, Nat.reduceLT, Nat.reduceEqDiff, Nat.reduceBEq, ↓reduceIte, eq_self, wtAll]
   refine Ent.ret ⟨i3, _, rfl, by simp only [vsAll, ↓reduceIte, eq_self]; try rfl, ?_⟩
   simp only [vsAll, loadA, loadRow, partA, partOk, resA, retA.eq_2, Nat.reduceLT, Nat.reduceEqDiff, ↓reduceIte, eq_self, wtAll, Tryz.results13]
   exact ⟨H, by (repeat (first | exact HSub_rfl | refine HSub_put_eq (by simp only [vsAll, binA, binLitA, intA, aggA, aggV, boolA, nilA2, isConst, unA, loadA, loadRow, partA, partOk, fieldAddrA, indexAddrA, indexA, fieldA, extractA, lenA, nilCheckA, boxA, boxZ, cellA, cellsA, fillA, okParts, buildSliceA, buildMutA, makeSliceA, partIdx, elemsA, lensA, ifaceA, convA, mmA, pickA, okAll, stAll, opsA, partsA, partsOk, opA, allocA, boxMutA, newCells, okCells, storeObj, appendA, guardV, taA, nM, mapUpA, rangeA, nextA, entryA, lookA, sliceA, sliceM, sliceS, boundsA, opO, okO, copyA, dstOk, nilA, quietOk, nilSliceOp, deferV, panA, resA, argFr, retA.eq_1, retA.eq_2, Nat.reduceAdd, Nat.reduceSub, Nat.reduceMul, Nat.reduceLT, Nat.reduceLeDiff, Nat.reduceEqDiff, Nat.reduceBEq, Int.reduceAdd, Int.reduceSub, Int.reduceMul, Int.reduceNeg, Int.reduceLE, Int.reduceLT, Int.reduceEq, Int.reduceNe, Int.reduceToNat, ↓reduceIte, reduceCtorEq, implies_true, forall_const, eq_self, ne_eq, wtAll, Tryz.ntmps13, Tryz.results13, hh_i3]) ?_ | refine HSub_drop2 (by simp only [eq_self, hh_i3]) ?_ | refine HSub_keep_eq (by simp only [vsAll, binA, binLitA, intA, aggA, aggV, boolA, nilA2, isConst, unA, loadA, loadRow, partA, partOk, fieldAddrA, indexAddrA, indexA, fieldA, extractA, lenA, nilCheckA, boxA, boxZ, cellA, cellsA, fillA, okParts, buildSliceA, buildMutA, makeSliceA, partIdx, elemsA, lensA, ifaceA, convA, mmA, pickA, okAll, stAll, opsA, partsA, partsOk, opA, allocA, boxMutA, newCells, okCells, storeObj, appendA, guardV, taA, nM, mapUpA, rangeA, nextA, entryA, lookA, sliceA, sliceM, sliceS, boundsA, opO, okO, copyA, dstOk, nilA, quietOk, nilSliceOp, deferV, panA, resA, argFr, retA.eq_1, retA.eq_2, Nat.reduceAdd, Nat.reduceSub, Nat.reduceMul, Nat.reduceLT, Nat.reduceLeDiff, Nat.reduceEqDiff, Nat.reduceBEq, Int.reduceAdd, Int.reduceSub, Int.reduceMul, Int.reduceNeg, Int.reduceLE, Int.reduceLT, Int.reduceEq, Int.reduceNe, Int.reduceToNat, ↓reduceIte, reduceCtorEq, implies_true, forall_const, eq_self, ne_eq, wtAll, Tryz.ntmps13, Tryz.results13, hh_i3]) ?_)), rfl, rfl⟩
  ·have hd' : ¬ C.length = 1 := by simp only [decide_eq_false_iff_not] at hd; ((try clear hh_i3); omega)
   rw [if_neg hd']
   simp only [vsAll, cellA, cellsA, opA, newCells, okCells, storeObj, dstOk, nilSliceOp, Nat.reduceLT, Nat.reduceEqDiff, Nat.reduceBEq, ↓reduceIte, eq_self, wtAll]
   refine Ent.ret ⟨i3, _, rfl, by simp only [vsAll, ↓reduceIte, eq_self]; try rfl, ?_⟩
   simp only [vsAll, loadA, loadRow, partA, partOk, resA, retA.eq_2, Nat.reduceLT, Nat.reduceEqDiff, ↓reduceIte, eq_self, wtAll, Tryz.results13]
   exact ⟨H, by (repeat (first | exact HSub_rfl | refine HSub_put_eq (by simp only [vsAll, binA, binLitA, intA, aggA, aggV, boolA, nilA2, isConst, unA, loadA, loadRow, partA, partOk, fieldAddrA, indexAddrA, indexA, fieldA, extractA, lenA, nilCheckA, boxA, boxZ, cellA, cellsA, fillA, okParts, buildSliceA, buildMutA, makeSliceA, partIdx, elemsA, lensA, ifaceA, convA, mmA, pickA, okAll, stAll, opsA, partsA, partsOk, opA, allocA, boxMutA, newCells, okCells, storeObj, appendA, guardV, taA, nM, mapUpA, rangeA, nextA, entryA, lookA, sliceA, sliceM, sliceS, boundsA, opO, okO, copyA, dstOk, nilA, quietOk, nilSliceOp, deferV, panA, resA, argFr, retA.eq_1, retA.eq_2, Nat.reduceAdd, Nat.reduceSub, Nat.reduceMul, Nat.reduceLT, Nat.reduceLeDiff, Nat.reduceEqDiff, Nat.reduceBEq, Int.reduceAdd, Int.reduceSub, Int.reduceMul, Int.reduceNeg, Int.reduceLE, Int.reduceLT, Int.reduceEq, Int.reduceNe, Int.reduceToNat, ↓reduceIte, reduceCtorEq, implies_true, forall_const, eq_self, ne_eq, wtAll, Tryz.ntmps13, Tryz.results13, hh_i3]) ?_ | refine HSub_drop2 (by simp only [eq_self, hh_i3]) ?_ | refine HSub_keep_eq (by simp only [vsAll, binA, binLitA, intA, aggA, aggV, boolA, nilA2, isConst, unA, loadA, loadRow, partA, partOk, fieldAddrA, indexAddrA, indexA, fieldA, extractA, lenA, nilCheckA, boxA, boxZ, cellA, cellsA, fillA, okParts, buildSliceA, buildMutA, makeSliceA, partIdx, elemsA, lensA, ifaceA, convA, mmA, pickA, okAll, stAll, opsA, partsA, partsOk, opA, allocA, boxMutA, newCells, okCells, storeObj, appendA, guardV, taA, nM, mapUpA, rangeA, nextA, entryA, lookA, sliceA, sliceM, sliceS, boundsA, opO, okO, copyA, dstOk, nilA, quietOk, nilSliceOp, deferV, panA, resA, argFr, retA.eq_1, retA.eq_2, Nat.reduceAdd, Nat.reduceSub, Nat.reduceMul, Nat.reduceLT, Nat.reduceLeDiff, Nat.reduceEqDiff, Nat.reduceBEq, Int.reduceAdd, Int.reduceSub, Int.reduceMul, Int.reduceNeg, Int.reduceLE, Int.reduceLT, Int.reduceEq, Int.reduceNe, Int.reduceToNat, ↓reduceIte, reduceCtorEq, implies_true, forall_const, eq_self, ne_eq, wtAll, Tryz.ntmps13, Tryz.results13, hh_i3]) ?_)), rfl, rfl⟩
end Go.Proofs.YtclkjifgipcamaaGreat
end
section
set_option linter.unusedVariables false
set_option linter.unusedSimpArgs false
set_option maxHeartbeats 8000000
set_option maxRecDepth 100000
namespace Go.Proofs.YtclkjifgipcamaaGreat
open Go.V
/-- The ones of a number, counted as the library does. -/
def ones1 (s : Nat) : Nat := ((s >>> 1) &&& 6148914691236517205) + (s &&& 6148914691236517205)
def ones2 (s : Nat) : Nat := ((s >>> 2) &&& 3689348814741910323) + (s &&& 3689348814741910323)
def ones3 (s : Nat) : Nat := ((s >>> 4) + s) &&& 1085102592571150095
def ones4 (s : Nat) : Nat := s + (s >>> 8)
def ones5 (s : Nat) : Nat := s + (s >>> 16)
def ones6 (s : Nat) : Nat := s + (s >>> 32)
def ones (s : Nat) : Nat := ones6 (ones5 (ones4 (ones3 (ones2 (ones1 s))))) &&& 127

theorem shr_int (s k : Nat) : ((s : Int) / 2 ^ k) = ((s >>> k : Nat) : Int) := by
 rw [Nat.shiftRight_eq_div_pow]; simp
theorem bits64 (b : Int) : (Go.V.shB IntKind.u64 b = 64) = True := eq_true rfl
theorem ones1_le (s : Nat) : ones1 s ≤ 12297829382473034410 := by
 have h1 := @Nat.and_le_right (s >>> 1) 6148914691236517205
 have h2 := @Nat.and_le_right s 6148914691236517205
 unfold ones1; omega
theorem ones2_le (s : Nat) : ones2 s ≤ 7378697629483820646 := by
 have h1 := @Nat.and_le_right (s >>> 2) 3689348814741910323
 have h2 := @Nat.and_le_right s 3689348814741910323
 unfold ones2; omega
theorem ones3_le (s : Nat) : ones3 s ≤ 1085102592571150095 := Nat.and_le_right
theorem shr_le (s k : Nat) : s >>> k ≤ s := by rw [Nat.shiftRight_eq_div_pow]; exact Nat.div_le_self _ _

theorem ones64_tri (s : Nat) (H : Hp) (hs : s < 2 ^ 64) : PTri Tryz.prog (fnA 78) [u64 s] H (i64 (ones s)) := by
 refine tri_w0 Tryz.func78 (by kernel_rfl) rfl (by simp only [List.length_append, List.length_cons, List.length_nil, Tryz.ntmps78]; decide) ?_
 refine wps_cut (m := fun _ => false) [(0, u64 s)] H [] (by simp only [vsAll, opA, dstOk, nilSliceOp, argFr, Nat.reduceLT, ↓reduceIte, reduceCtorEq, eq_self, Tryz.ntmps78]) ?_
 refine wps_cut (m := fun _ => false) [(0, u64 (ones1 s))] H [] ?_ ?_
 ·have h1 := ones1_le s
  have h2 := shr_le s 1
  have e : ((s >>> 1 &&& 6148914691236517205 : Nat) : Int) + ((s &&& 6148914691236517205 : Nat) : Int) = (ones1 s : Int) := by simp only [ones1]; omega
  simp only [vsAll, binA, binLitA, intA, opA, dstOk, nilSliceOp, Nat.reduceLT, Nat.reduceEqDiff, Int.reduceLE, Int.reduceLT, Int.reduceToNat, ↓reduceIte, reduceCtorEq, eq_self, Tryz.ntmps78, shr_int, bits64, InR_u64, e]
  omega
 have hs1 := ones1_le s
 generalize es1 : ones1 s = s1 at *
 refine wps_cut (m := fun _ => false) [(0, u64 (ones2 s1))] H [] ?_ ?_
 ·have h1 := ones2_le s1
  have h2 := shr_le s1 2
  have e : ((s1 >>> 2 &&& 3689348814741910323 : Nat) : Int) + ((s1 &&& 3689348814741910323 : Nat) : Int) = (ones2 s1 : Int) := by simp only [ones2]; omega
  simp only [vsAll, binA, binLitA, intA, opA, dstOk, nilSliceOp, Nat.reduceLT, Nat.reduceEqDiff, Int.reduceLE, Int.reduceLT, Int.reduceToNat, ↓reduceIte, reduceCtorEq, eq_self, Tryz.ntmps78, shr_int, bits64, InR_u64, e]
  omega
 have hs2 := ones2_le s1
 generalize es2 : ones2 s1 = s2 at *
 refine wps_cut (m := fun _ => false) [(0, u64 (ones3 s2))] H [] ?_ ?_
 ·have h1 := ones3_le s2
  have h2 := shr_le s2 4
  have e0 : ((s2 >>> 4 : Nat) : Int) + (s2 : Int) = ((s2 >>> 4 + s2 : Nat) : Int) := by omega
  have e : (((s2 >>> 4 + s2) &&& 1085102592571150095 : Nat) : Int) = (ones3 s2 : Int) := rfl
  simp only [vsAll, binA, binLitA, intA, opA, dstOk, nilSliceOp, Nat.reduceLT, Nat.reduceEqDiff, Int.reduceLE, Int.reduceLT, Int.reduceToNat, ↓reduceIte, reduceCtorEq, eq_self, Tryz.ntmps78, shr_int, bits64, InR_u64, e0, e]
  omega
 have hs3 := ones3_le s2
 generalize es3 : ones3 s2 = s3 at *
 refine wps_cut (m := fun _ => false) [(0, u64 (ones4 s3))] H [] ?_ ?_
 ·have h2 := shr_le s3 8
  have e0 : (s3 : Int) + ((s3 >>> 8 : Nat) : Int) = (ones4 s3 : Int) := by simp only [ones4]; omega
  simp only [vsAll, binA, binLitA, intA, opA, dstOk, nilSliceOp, Nat.reduceLT, Nat.reduceEqDiff, Int.reduceLE, Int.reduceLT, Int.reduceToNat, ↓reduceIte, reduceCtorEq, eq_self, Tryz.ntmps78, shr_int, bits64, InR_u64, e0]
  simp only [ones4]; omega
 have hs4 : ones4 s3 ≤ 2 * 1085102592571150095 := by have := shr_le s3 8; simp only [ones4]; omega
 generalize es4 : ones4 s3 = s4 at *
 refine wps_cut (m := fun _ => false) [(0, u64 (ones5 s4))] H [] ?_ ?_
 ·have h2 := shr_le s4 16
  have e0 : (s4 : Int) + ((s4 >>> 16 : Nat) : Int) = (ones5 s4 : Int) := by simp only [ones5]; omega
  simp only [vsAll, binA, binLitA, intA, opA, dstOk, nilSliceOp, Nat.reduceLT, Nat.reduceEqDiff, Int.reduceLE, Int.reduceLT, Int.reduceToNat, ↓reduceIte, reduceCtorEq, eq_self, Tryz.ntmps78, shr_int, bits64, InR_u64, e0]
  simp only [ones5]; omega
 have hs5 : ones5 s4 ≤ 4 * 1085102592571150095 := by have := shr_le s4 16; simp only [ones5]; omega
 generalize es5 : ones5 s4 = s5 at *
 refine wps_cut (m := fun _ => false) [(0, u64 (ones6 s5))] H [] ?_ ?_
 ·have h2 := shr_le s5 32
  have e0 : (s5 : Int) + ((s5 >>> 32 : Nat) : Int) = (ones6 s5 : Int) := by simp only [ones6]; omega
  simp only [vsAll, binA, binLitA, intA, opA, dstOk, nilSliceOp, Nat.reduceLT, Nat.reduceEqDiff, Int.reduceLE, Int.reduceLT, Int.reduceToNat, ↓reduceIte, reduceCtorEq, eq_self, Tryz.ntmps78, shr_int, bits64, InR_u64, e0]
  simp only [ones6]; omega
 have hs6 : ones6 s5 ≤ 8 * 1085102592571150095 := by have := shr_le s5 32; simp only [ones6]; omega
 generalize es6 : ones6 s5 = s6 at *
 refine wps_vs (m := fun _ => false) ?_
 simp only [vsAll, binA, binLitA, intA, convA, opA, dstOk, nilSliceOp, resA, retA.eq_1, Nat.reduceLT, Int.reduceLE, Int.reduceToNat, ↓reduceIte, eq_self, wtAll, Tryz.ntmps78, Tryz.results78]
 refine ⟨by simp only [InR_i64]; omega, by simp only [InR_i64]; omega, ?_⟩
 simp only [ones, es1, es2, es3, es4, es5, es6]

theorem onesCount_tri (s : Nat) (H : Hp) (hs : s < 64) : PTri Tryz.prog (fnA 47) [u64 s] H (i64 (ones s)) := by
 refine tri_v0 (fun _ => false) Tryz.func47 (by kernel_rfl) rfl (by simp only [List.length_append, List.length_cons, List.length_nil, Tryz.ntmps47]; decide) ?_
 simp only [vsAll, okAll, stAll, opsA, opA, dstOk, nilSliceOp, argFr, Nat.reduceLT, ↓reduceIte, reduceCtorEq, eq_self, Tryz.ntmps47]
 refine callK_pure (ones64_tri s H (by omega)) ?_
 simp only [vsAll, opA, dstOk, nilSliceOp, resA, retA.eq_1, Nat.reduceLT, ↓reduceIte, eq_self, Tryz.results47]
theorem ones_le {s : Nat} (hs : s < 64) : ones s ≤ 6 := by revert s; decide +kernel
theorem ones_zero {s : Nat} (hs : s < 64) : ones s = 0 ↔ s = 0 := by revert s; decide +kernel

abbrev upL' (N : Nat) : List Int := (List.range N).map fun i : Nat => (i : Int)
theorem upL'_len (N : Nat) : (upL' N).length = N := by simp
theorem upL'_at {N i : Nat} (hi : i < N) : (upL' N).getD i 0 = (i : Int) := by simp [List.getD_eq_getElem?_getD, hi]
theorem upTo_tri (N : Nat) (H : Hp) (hN : N ≤ 64) : PTri Tryz.prog (fnA 45) [i64 N] H (intsAV (upL' N)) := by
 refine Tri.thawX (R1 := fun r' H' => ∃ id, H id = none ∧ r' = .ret (.sl id 1 N) ∧ H' = H.set id (.row 1 N (intF (upL' N)))) ?_ ?_
 rotate_left
 ·rintro r' H' ⟨id, hid, rfl, rfl⟩
  exact .inr ⟨_, intsAV (upL' N), id, 1, N, intF (upL' N), rfl, .inr ⟨Hp.set_same _ _ _, .leaf ⟨rfl, intF (upL' N), fun _ _ => rfl, by show AV.rsl _ 1 _ = _; rw [upL'_len]⟩⟩, rfl, set_delO hid⟩
 refine Tri.drop ?_
 refine tri_v0 (mset [2]) Tryz.func45 (by kernel_rfl) rfl (by simp only [List.length_append, List.length_cons, List.length_nil, Tryz.ntmps45]; decide) ?_
 simp only [vsAll, opA, dstOk, nilA, argFr, Nat.reduceLT, Nat.reduceBEq, ↓reduceIte, reduceCtorEq, eq_self, wtAll, Tryz.ntmps45]
 intro i2 hh_i2; (try simp only [Hp.set_none, ite_none] at hh_i2)
 refine vs_loop (σ := Nat) (fun i => i ≤ N) (fun i => [(2, .sl i2 1 i), (4, i64 (N : Nat)), (5, i64 i)]) (fun i => H.set i2 (.row 1 i (intF (upL' N)))) (fun i => N - i) 0 (Nat.zero_le _) ?_ ?_ fun i hi => ?_
 ·simp only [vsAll, Nat.reduceEqDiff, ↓reduceIte, eq_self, Int.natCast_zero]
 ·exact HSub_set (row_ext fun q' hq => absurd hq (Nat.not_lt_zero q'))
 ·simp only [vsAll, binA, binLitA, intA, opA, dstOk, Nat.reduceLT, Nat.reduceEqDiff, ↓reduceIte, eq_self]
  refine condD (fun hd => ?_) (fun hd => ?_)
  ·have hil : i < N := by ((try clear hh_i2); omega)
   have hgi := upL'_at hil
   simp only [vsAll, binA, binLitA, intA, cellA, cellsA, okParts, buildSliceA, partIdx, elemsA, lensA, partsA, partsOk, opA, appendA, dstOk, nilSliceOp, Nat.reduceMul, Nat.reduceLT, Nat.reduceLeDiff, Nat.reduceEqDiff, Nat.reduceBEq, ↓reduceIte, eq_self, wtAll]
   have eap : ∀ q', q' < i + 1 → appF i 1 (intF (upL' N)) (fun i_1 => [[AV.lit (Value.int IntKind.i64 (i : Nat))]].getD i_1 []) q' = intF (upL' N) q' := fun q' hq' => by
    rw [appF_at (by ((try clear hh_i2); omega))]
    by_cases e : q' < i
    ·rw [if_pos e]
    ·have : q' = i := by ((try clear hh_i2); omega)
     subst this
     rw [if_neg (by ((try clear hh_i2); omega)), Nat.sub_self, intF_at, hgi]
     rfl
   refine ⟨fun q hq => by (have : q = 0 := by ((try clear hh_i2); omega)); subst this; exact ⟨rfl, trivial⟩, by ((try clear hh_i2); omega), by ((try clear hh_i2); omega), by simp only [InR_i64]; ((try clear hh_i2); omega), loop_next (i + 1) hil (by ((try clear hh_i2); omega)) ?_ ?_⟩
   ·simp only [vsAll, Nat.reduceEqDiff, ↓reduceIte, eq_self, Int.natCast_add, Int.natCast_one]
   ·rw [Hp.set_set]; exact HSub_set (row_ext eap)
  ·have ei : i = N := by ((try clear hh_i2); omega)
   subst ei
   simp only [vsAll, opA, dstOk, nilSliceOp, resA, retA.eq_1, Nat.reduceLT, Nat.reduceEqDiff, Nat.reduceBEq, ↓reduceIte, eq_self, Tryz.results45]
   exact ⟨_, HSub_rfl, i2, hh_i2, rfl, rfl⟩
/-- The first of those that can be of which a number is least. -/
def bsF (F : Nat → Int) (g : Nat → Bool) : Nat → Nat × Int × Bool
 | 0 => (0, 0, false)
 | i + 1 => if g i && (!(bsF F g i).2.2 || decide (F i < (bsF F g i).2.1)) then (i, F i, true) else bsF F g i
theorem best_tri {fv : AV} {N : Nat} {F : Nat → Int} {g : Nat → Bool} (hok : fv.ok) (hst : fv.st = fv) (H : Hp) (hN : N ≤ 64) (hf : ∀ y, y < N → PTri Tryz.prog fv [i64 y] H (.tuple [i64 (F y), boo (g y)])) :
  PTri Tryz.prog (fnA 44) [intsAV (upL' N), .agg [fv]] H (.tuple [i64 (bsF F g N).1, i64 (bsF F g N).2.1, boo (bsF F g N).2.2]) := by
 have hl := upL'_len N
 refine tri_v0 (fun _ => false) Tryz.func44 (by kernel_rfl) rfl (by simp only [List.length_append, List.length_cons, List.length_nil, Tryz.ntmps44]; decide) ?_
 simp only [vsAll, lenA, boxA, boxZ, opA, dstOk, nilSliceOp, argFr, Nat.reduceLT, ↓reduceIte, reduceCtorEq, eq_self, wtAll, Tryz.ntmps44]
 refine vs_loop (σ := Nat) (fun i => i ≤ N) (fun i => [(3, .rptr 1 1 (fun _ => [fv]) 0 0), (4, i64 (bsF F g i).1), (5, i64 (bsF F g i).2.1), (6, boo (bsF F g i).2.2), (11, intsAV (upL' N)), (12, i64 (N : Nat)), (13, i64 i)]) (fun _ => H) (fun i => N - i) 0 (Nat.zero_le _) ?_ HSub_rfl fun i hi => ?_
 ·simp only [vsAll, Nat.reduceEqDiff, ↓reduceIte, eq_self, Int.natCast_zero, hl]
  (repeat' apply And.intro) <;> first | exact AV.Le.refl _ | (show AV.Le _ (.rsl (upL' N).length 1 _); rw [hl]; exact AV.Le.refl _)
 ·simp only [vsAll, binA, binLitA, intA, opA, dstOk, Nat.reduceLT, Nat.reduceEqDiff, ↓reduceIte, eq_self]
  refine condD (fun hd => ?_) (fun hd => ?_)
  ·have hil : i < N := by omega
   have hgi := upL'_at hil
   simp only [vsAll, loadA, loadRow, partA, partOk, fieldAddrA, indexAddrA, okAll, stAll, opsA, opA, dstOk, nilSliceOp, Nat.reduceLT, Nat.reduceEqDiff, ↓reduceIte, eq_self, wtAll, intF_at, hgi, hok, hst]
   refine ⟨⟨by omega, by omega⟩, by omega, callK_pure (hf i hil) ?_⟩
   have es : bsF F g (i + 1) = if g i && (!(bsF F g i).2.2 || decide (F i < (bsF F g i).2.1)) then (i, F i, true) else bsF F g i := rfl
   generalize bsF F g i = y at *
   obtain ⟨x, n, s⟩ := y
   simp only [] at es
   simp only [vsAll, binA, binLitA, intA, unA, extractA, pickA, opA, guardV, dstOk, nilSliceOp, Nat.reduceAdd, Nat.reduceLT, Nat.reduceEqDiff, ↓reduceIte, implies_true, eq_self]
   refine ⟨fun h1 => ⟨h1, fun h2 => by rw [h1, h2]; rfl⟩, ?_⟩
   refine condV (fun hc => ?_) (fun hc => ?_)
   ·rw [if_pos hc] at es
    simp only [vsAll, binA, binLitA, intA, opA, dstOk, nilSliceOp, Nat.reduceLT, Nat.reduceEqDiff, ↓reduceIte, eq_self]
    refine ⟨by simp only [InR_i64]; omega, loop_next (i + 1) hil (by omega) ?_ HSub_rfl⟩
    simp only [vsAll, Nat.reduceEqDiff, ↓reduceIte, eq_self, es, Int.natCast_add, Int.natCast_one]
   ·rw [if_neg (by simp [hc])] at es
    simp only [vsAll, binA, binLitA, intA, opA, dstOk, Nat.reduceLT, Nat.reduceEqDiff, ↓reduceIte, eq_self]
    refine ⟨by simp only [InR_i64]; omega, loop_next (i + 1) hil (by omega) ?_ HSub_rfl⟩
    simp only [vsAll, Nat.reduceEqDiff, ↓reduceIte, eq_self, es, Int.natCast_add, Int.natCast_one]
  ·have ei : i = N := by omega
   subst ei
   simp only [vsAll, opA, dstOk, nilSliceOp, resA, retA.eq_2, Nat.reduceLT, Nat.reduceEqDiff, ↓reduceIte, eq_self, Tryz.results44]
end Go.Proofs.YtclkjifgipcamaaGreat
end
section
set_option linter.unusedVariables false
set_option linter.unusedSimpArgs false
set_option maxHeartbeats 8000000
set_option maxRecDepth 100000
namespace Go.Proofs.YtclkjifgipcamaaGreat
open Go.V
abbrev wrF (i4 i5 : Nat) : AV := .func (.func 46) [] [.ref i4 0 1 0 0, .ref i5 0 1 0 0]
def wmN (n y : Nat) : Nat := (2 ^ n - 1) ^^^ ((2 ^ n - 1) &&& y)
theorem wmN_zero (n : Nat) : wmN n 0 = 2 ^ n - 1 := by simp [wmN]
theorem wmN_lt {n : Nat} (y : Nat) (hn : n ≤ 6) : wmN n y < 2 ^ 6 := by
 have := p2_6 hn
 have h1 : 2 ^ n - 1 < 2 ^ 6 := by have := Nat.two_pow_pos n; omega
 exact Nat.xor_lt_two_pow h1 (Nat.lt_of_le_of_lt Nat.and_le_left h1)
theorem wr2_tri {d : Dr} {l : List (Nat × Bool)} (k : OkD d) (kl : OkL d l) {M : List Nat} (hM : SetsOk d M) {i4 i5 : Nat} {H : Hp} (h4 : H i4 = some (.box 1 1 fun _ => [rH d l])) (h5 : H i5 = some (.box 1 1 fun _ => [sdA d M])) {y : Nat} (hy : y < 2 ^ l.length) :
  PTri Tryz.prog (wrF i4 i5) [i64 y] H (.tuple [i64 (ones y : Nat), boo (decide (0 < (heL d l (wmN l.length y) M).length))]) := by
 have n6 := k.n6
 have hl6 := kl.n
 have hp := p2_6 hl6
 have hMl := hM.l
 refine tri_v0 (fun _ => false) Tryz.func46 (by kernel_rfl) rfl (by simp only [List.length_append, List.length_cons, List.length_nil, Tryz.ntmps46]; decide) ?_
 skip
 simp only [vsAll, opA, dstOk, nilSliceOp, Nat.reduceLT, eq_self, Tryz.ntmps46]
 refine vs_draw2 [0, 0, 0, 0, 0, 0, 0, 0, 0, 0, 0, 0, 0, 0, 0] [] [0, 1, 2, 3, 4, 5, 6, 7, 8, 9, 10, 11, 12, 13, 14] (by decide +kernel) ?_
 simp only [vsAll, convA, opA, dstOk, argFr, Nat.reduceLT, ↓reduceIte, reduceCtorEq, eq_self, wtAll]
 refine ⟨by simp only [InR_u64]; ((try clear h4 h5); omega), qcall _ ⟨by simp only [vsAll, opA], by simp only [vsAll, okAll, opsA, opA, ↓reduceIte, eq_self], onesCount_tri y _ (by ((try clear h4 h5); omega))⟩ ?_⟩
 simp only [vsAll, loadA, loadRow, partA, partOk, opA, dstOk, argFr, Nat.reduceLT, Nat.reduceEqDiff, ↓reduceIte, eq_self, wtAll, h4, h5]
 refine qcall _ ⟨by simp only [vsAll, opA], by simp only [vsAll, okAll, opsA, opA, ↓reduceIte, eq_self], hevery_tri d l _ hl6⟩ ?_
 have em : (((2 ^ l.length - 1 : Nat) ^^^ ((2 ^ l.length - 1 : Nat) &&& y) : Nat) : Int) = ((wmN l.length y : Nat) : Int) := rfl
 have hw := wmN_lt y hl6
 have hhl : (heL d l (wmN l.length y) M).length ≤ M.length := List.length_filter_le _ _
 have eP : ∀ z : Nat, decide ((0 : Int) < (z : Int)) = decide (0 < z) := fun z => decide_eq_decide.2 (by ((try clear h4 h5); omega))
 simp only [vsAll, binA, binLitA, intA, convA, opA, dstOk, argFr, Nat.reduceLT, Nat.reduceEqDiff, ↓reduceIte, reduceCtorEq, eq_self, wtAll, em]
 refine ⟨by simp only [InR_u64]; ((try clear h4 h5); omega), ⟨by ((try clear h4 h5); omega), by ((try clear h4 h5); omega), by simp only [InR_u64]; ((try clear h4 h5); omega), by simp only [InR_u64]; ((try clear h4 h5); omega)⟩, qcall _ ⟨by simp only [vsAll, opA], by simp only [vsAll, okAll, opsA, opA, Nat.reduceEqDiff, ↓reduceIte, eq_self], heard_tri d l _ M _ hl6 (fun i hi => by have := kl.k i hi; ((try clear h4 h5); omega)) hw (by ((try clear h4 h5); omega))⟩ ?_⟩
 simp only [vsAll, binA, binLitA, intA, lenA, opA, dstOk, resA, retA.eq_2, Nat.reduceLT, Nat.reduceEqDiff, ↓reduceIte, eq_self, wtAll, Tryz.results46, eP]
theorem bsF_zero {F : Nat → Int} {g : Nat → Bool} (h0 : g 0 = true) (hF : F 0 = 0) (hp : ∀ y, 0 ≤ F y) : ∀ n, bsF F g (n + 1) = (0, 0, true)
 | 0 => by
   show (if g 0 && (!false || decide (F 0 < 0)) then _ else _) = _
   rw [h0, hF]; rfl
 | n + 1 => by
   rw [bsF, bsF_zero h0 hF hp n]
   have := hp (n + 1)
   rw [if_neg]
   simp only [Bool.not_true, Bool.false_or, Bool.and_eq_true, decide_eq_true_eq]
   omega
theorem wrong_tri {d : Dr} {l : List (Nat × Bool)} (k : OkD d) (kl : OkL d l) {M : List Nat} (hM : SetsOk d M) (h0 : 0 < (caL d l M).length) (H : Hp) : PTri Tryz.prog (fnA 12) [.agg (rpC d l)] H (.tuple [i64 0, i64 4]) := by
 have n6 := k.n6
 have hl6 := kl.n
 have hp := p2_6 hl6
 have hMl := hM.l
 refine Tri.drop ?_
 refine tri_a (m := mset []) ans42 Tryz.func12 (by kernel_rfl) rfl (by simp only [List.length_append, List.length_cons, List.length_nil, Tryz.ntmps12]; decide) ?_
 simp only [vsAll, loadA, loadRow, partA, partOk, boxA, boxZ, okAll, stAll, opsA, opA, allocA, dstOk, nilSliceOp, deferV, argFr, Nat.reduceAdd, Nat.reduceLT, Nat.reduceEqDiff, ↓reduceIte, eq_self, wtAll, Tryz.ntmps12]
 intro i3 hh_i3; (try simp only [Hp.set_none, ite_none] at hh_i3)
 refine ⟨_, ropenH_tri d l true _ k kl, ?_⟩
 rintro r H' ⟨rfl, rfl⟩
 simp only [vsAll, loadA, loadRow, partA, partOk, cellA, cellsA, okAll, stAll, opsA, opA, allocA, newCells, okCells, storeObj, dstOk, Nat.reduceLT, Nat.reduceEqDiff, ↓reduceIte, eq_self, wtAll]
 intro i4 hh_i4; (try simp only [ite_none] at hh_i4)
 refine callK_pure (sounds_tri k kl hM _) ?_
 simp only [vsAll, binA, binLitA, intA, loadA, loadRow, partA, partOk, fieldAddrA, lenA, cellA, cellsA, okAll, stAll, opsA, opA, allocA, newCells, okCells, storeObj, dstOk, Nat.reduceLT, Nat.reduceEqDiff, ↓reduceIte, eq_self, wtAll]
 intro i5 hh_i5; (try simp only [ite_none] at hh_i5)
 have g : ¬ i4 = i3 ∧ ¬ i5 = i3 ∧ ¬ i5 = i4 ∧ H i3 = none ∧ H i4 = none ∧ H i5 = none := by simp_all
 obtain ⟨c43, c53, c54, z3, z4, z5⟩ := g
 have c43' : ¬ i3 = i4 := fun e => c43 e.symm
 have c53' : ¬ i3 = i5 := fun e => c53 e.symm
 have c54' : ¬ i4 = i5 := fun e => c54 e.symm
 skip
 rw [shl1 l.length]
 refine ⟨⟨by ((try clear hh_i3 hh_i4 hh_i5 c43 c53 c54 z3 z4 z5 c43' c53' c54'); omega), by ((try clear hh_i3 hh_i4 hh_i5 c43 c53 c54 z3 z4 z5 c43' c53' c54'); omega), by rw [InR_i64]; have := Int.natCast_nonneg (2 ^ l.length); ((try clear hh_i3 hh_i4 hh_i5 c43 c53 c54 z3 z4 z5 c43' c53' c54'); omega)⟩, callK_pure (upTo_tri (2 ^ l.length) _ hp) ?_⟩
 simp only [vsAll, cellA, cellsA, fillA, okParts, okAll, stAll, opsA, partsA, partsOk, opA, dstOk, Nat.reduceLT, Nat.reduceEqDiff, ↓reduceIte, eq_self, wtAll]
 refine callK_pure (best_tri (fv := wrF i4 i5) (F := fun y => (ones y : Nat)) (g := fun y => decide (0 < (heL d l (wmN l.length y) M).length)) (by simp only [vsAll]) rfl _ hp fun y hy => wr2_tri k kl hM (by simp only [vsAll, ↓reduceIte, eq_self, hh_i5]) (by simp only [vsAll, ↓reduceIte, eq_self]) hy) ?_
 obtain ⟨N, hN⟩ : ∃ N, 2 ^ l.length = N + 1 := ⟨2 ^ l.length - 1, by have := Nat.two_pow_pos l.length; ((try clear hh_i3 hh_i4 hh_i5 c43 c53 c54 z3 z4 z5 c43' c53' c54'); omega)⟩
 rw [hN, bsF_zero (by show decide (0 < (heL d l (wmN l.length 0) M).length) = true; rw [wmN_zero]; exact decide_eq_true h0) (by show ((ones 0 : Nat) : Int) = 0; rfl) (fun y => Int.natCast_nonneg _)]
 simp only [vsAll, binA, binLitA, intA, extractA, pickA, okAll, stAll, opsA, opA, guardV, dstOk, nilSliceOp, Nat.reduceAdd, Nat.reduceLT, Nat.reduceEqDiff, ↓reduceIte, implies_true, eq_self]
 refine rwant_call (fun hv => ?_) (fun hv => ?_)
 ·exact absurd hv (by decide)
 ·simp only [vsAll]
  refine ⟨4, i3, _, rfl, rfl, by simp only [vsAll, ↓reduceIte, eq_self, hh_i4, hh_i5]; try rfl, ?_⟩
  simp only [vsAll, loadA, loadRow, partA, partOk, resA, retA.eq_2, Nat.reduceLT, Nat.reduceEqDiff, ↓reduceIte, eq_self, wtAll, Tryz.results12]
  exact ⟨H, by (repeat (first | exact HSub_rfl | refine HSub_put_eq (by simp only [vsAll, binA, binLitA, intA, aggA, aggV, boolA, nilA2, isConst, unA, loadA, loadRow, partA, partOk, fieldAddrA, indexAddrA, indexA, fieldA, extractA, lenA, nilCheckA, boxA, boxZ, cellA, cellsA, fillA, okParts, buildSliceA, buildMutA, makeSliceA, partIdx, elemsA, lensA, ifaceA, convA, mmA, pickA, okAll, stAll, opsA, partsA, partsOk, opA, allocA, boxMutA, newCells, okCells, storeObj, appendA, guardV, taA, nM, mapUpA, rangeA, nextA, entryA, lookA, sliceA, sliceM, sliceS, boundsA, opO, okO, copyA, dstOk, nilA, quietOk, nilSliceOp, deferV, panA, resA, argFr, retA.eq_1, retA.eq_2, Nat.reduceAdd, Nat.reduceSub, Nat.reduceMul, Nat.reduceLT, Nat.reduceLeDiff, Nat.reduceEqDiff, Nat.reduceBEq, Int.reduceAdd, Int.reduceSub, Int.reduceMul, Int.reduceNeg, Int.reduceLE, Int.reduceLT, Int.reduceEq, Int.reduceNe, Int.reduceToNat, ↓reduceIte, reduceCtorEq, implies_true, forall_const, eq_self, ne_eq, wtAll, Tryz.ntmps12, Tryz.results12, hh_i3, hh_i4, hh_i5, c43, c53, c54, z3, z4, z5, c43', c53', c54']) ?_ | refine HSub_drop2 (by simp only [eq_self, hh_i3, hh_i4, hh_i5]) ?_ | refine HSub_keep_eq (by simp only [vsAll, binA, binLitA, intA, aggA, aggV, boolA, nilA2, isConst, unA, loadA, loadRow, partA, partOk, fieldAddrA, indexAddrA, indexA, fieldA, extractA, lenA, nilCheckA, boxA, boxZ, cellA, cellsA, fillA, okParts, buildSliceA, buildMutA, makeSliceA, partIdx, elemsA, lensA, ifaceA, convA, mmA, pickA, okAll, stAll, opsA, partsA, partsOk, opA, allocA, boxMutA, newCells, okCells, storeObj, appendA, guardV, taA, nM, mapUpA, rangeA, nextA, entryA, lookA, sliceA, sliceM, sliceS, boundsA, opO, okO, copyA, dstOk, nilA, quietOk, nilSliceOp, deferV, panA, resA, argFr, retA.eq_1, retA.eq_2, Nat.reduceAdd, Nat.reduceSub, Nat.reduceMul, Nat.reduceLT, Nat.reduceLeDiff, Nat.reduceEqDiff, Nat.reduceBEq, Int.reduceAdd, Int.reduceSub, Int.reduceMul, Int.reduceNeg, Int.reduceLE, Int.reduceLT, Int.reduceEq, Int.reduceNe, Int.reduceToNat, ↓reduceIte, reduceCtorEq, implies_true, forall_const, eq_self, ne_eq, wtAll, Tryz.ntmps12, Tryz.results12, hh_i3, hh_i4, hh_i5, c43, c53, c54, z3, z4, z5, c43', c53', c54']) ?_)), rfl, rfl⟩
end Go.Proofs.YtclkjifgipcamaaGreat
end
section
set_option linter.unusedVariables false
set_option linter.unusedSimpArgs false
set_option maxHeartbeats 8000000
set_option maxRecDepth 100000
namespace Go.Proofs.YtclkjifgipcamaaGreat
open Go.V
def fwB (d : Dr) (y s : Nat) : Bool := decide (s ≠ 0) && decide (dlD d s &&& y = 0)
abbrev fwF (y : Nat) : AV := .func (.func 56) [] [.rptr 1 1 (fun _ => [i64 (y : Nat)]) 0 0]
theorem fw1_tri (d : Dr) (y s : Nat) (H : Hp) (hy : y < 64) (hs : s < 64) : PTri Tryz.prog (fwF y) [.agg [u64 s, u64 (dlD d s : Nat)]] H (boo (fwB d y s)) := by
 have hd := dlD_lt d s
 refine tri_v0 (fun _ => false) Tryz.func56 (by kernel_rfl) rfl (by simp only [List.length_append, List.length_cons, List.length_nil, Tryz.ntmps56]; decide) ?_
 simp only [vsAll, binA, binLitA, intA, loadA, loadRow, partA, partOk, fieldAddrA, boxA, boxZ, convA, pickA, opA, guardV, dstOk, nilSliceOp, resA, argFr, retA.eq_1, Nat.reduceAdd, Nat.reduceLT, Nat.reduceEqDiff, ↓reduceIte, implies_true, eq_self, wtAll, Tryz.ntmps56, Tryz.results56]
 have eC : ∀ z : Nat, decide ((z : Int) = 0) = decide (z = 0) := fun z => decide_eq_decide.2 (by omega)
 simp only [eC]
 refine ⟨fun h => ⟨h, by simp only [InR_u64]; omega⟩, fun h => ⟨h, h, by omega, by omega, by simp only [InR_u64]; omega, by simp only [InR_u64]; omega⟩, ?_⟩
 simp [fwB]
theorem fwIx_tri {d : Dr} {C : List Nat} {G : Nat → Bool} {fv : AV} (hok : fv.ok) (hst : fv.st = fv) (H : Hp) (hC : C.length ≤ 64) (hf : ∀ i, i < C.length → PTri Tryz.prog fv [.agg [u64 (C.getD i 0 : Nat), u64 (dlD d (C.getD i 0) : Nat)]] H (boo (G (C.getD i 0)))) :
  Tri Tryz.prog (fnA 80) [sdA d C, fv] H fun r H' => H' = H ∧ ∃ z : Int, r = .ret (i64 z) ∧ decide (z ≥ 0) = C.any G := by
 refine tri_v0 (fun _ => false) Tryz.func80 (by kernel_rfl) rfl (by simp only [List.length_append, List.length_cons, List.length_nil, Tryz.ntmps80]; decide) ?_
 simp only [vsAll, lenA, opA, dstOk, nilSliceOp, argFr, Nat.reduceLT, Int.reduceNeg, ↓reduceIte, reduceCtorEq, eq_self, wtAll, Tryz.ntmps80]
 refine vs_loop (σ := Nat) (fun i => i ≤ C.length ∧ ∀ q, q < i → G (C.getD q 0) = false) (fun i => [(0, sdA d C), (1, fv), (6, sdA d C), (7, i64 (C.length : Nat)), (8, i64 i)]) (fun _ => H) (fun i => C.length - i) 0 ⟨Nat.zero_le _, fun q hq => absurd hq (Nat.not_lt_zero q)⟩ ?_ HSub_rfl fun i hi => ?_
 ·simp only [vsAll, argFr, Nat.reduceEqDiff, ↓reduceIte, reduceCtorEq, eq_self, Int.natCast_zero]
 ·obtain ⟨hi, hall⟩ := hi
  simp only [vsAll, binA, binLitA, intA, opA, dstOk, Nat.reduceLT, Nat.reduceEqDiff, Int.reduceNeg, ↓reduceIte, reduceCtorEq, eq_self]
  refine condD (fun hd => ?_) (fun hd => ?_)
  ·have hil : i < C.length := by omega
   simp only [vsAll, loadA, loadRow, partA, partOk, indexAddrA, okAll, stAll, opsA, opA, dstOk, nilSliceOp, Nat.reduceLT, Nat.reduceEqDiff, Int.reduceNeg, ↓reduceIte, reduceCtorEq, eq_self, wtAll, sdF_at, hok, hst]
   refine ⟨⟨by omega, by omega⟩, hil, callK_pure (hf i hil) ?_⟩
   simp only [vsAll, opA, Int.reduceNeg, ↓reduceIte, eq_self]
   refine condV (fun hc => ?_) (fun hc => ?_)
   ·have hn : C.any G = true := List.any_eq_true.2 ⟨C.getD i 0, by rw [List.getD_eq_getElem?_getD, List.getElem?_eq_getElem hil]; exact List.getElem_mem hil, hc⟩
    simp only [vsAll, opA, dstOk, nilSliceOp, resA, retA.eq_1, Nat.reduceLT, Nat.reduceEqDiff, Int.reduceNeg, ↓reduceIte, eq_self, Tryz.results80]
    exact ⟨_, rfl, by rw [hn]; exact decide_eq_true (by omega)⟩
   ·simp only [vsAll, binA, binLitA, intA, opA, dstOk, Nat.reduceLT, Nat.reduceEqDiff, Int.reduceNeg, ↓reduceIte, reduceCtorEq, eq_self]
    refine ⟨by simp only [InR_i64]; omega, loop_next (i + 1) ⟨hil, fun q hq => ?_⟩ (by omega) ?_ HSub_rfl⟩
    ·by_cases e : q = i
     ·rw [e]; exact hc
     ·exact hall q (by omega)
    ·simp only [vsAll, Nat.reduceEqDiff, ↓reduceIte, reduceCtorEq, eq_self, Int.natCast_add, Int.natCast_one]
  ·have ei : i = C.length := by omega
   have hn : C.any G = false := by
    rw [List.any_eq_false]
    intro x hx
    obtain ⟨q, hq, e⟩ := getD_mem 0 hx
    rw [← e, hall q (by omega)]; decide
   simp only [vsAll, opA, dstOk, nilSliceOp, resA, retA.eq_1, Nat.reduceLT, Int.reduceNeg, ↓reduceIte, eq_self, Tryz.results80]
   exact ⟨_, rfl, by rw [hn]; rfl⟩
theorem fwCt_tri {d : Dr} {C : List Nat} {G : Nat → Bool} {fv : AV} (hok : fv.ok) (hst : fv.st = fv) (H : Hp) (hC : C.length ≤ 64) (hf : ∀ i, i < C.length → PTri Tryz.prog fv [.agg [u64 (C.getD i 0 : Nat), u64 (dlD d (C.getD i 0) : Nat)]] H (boo (G (C.getD i 0)))) :
  PTri Tryz.prog (fnA 55) [sdA d C, fv] H (boo (C.any G)) := by
 refine tri_v0 (fun _ => false) Tryz.func55 (by kernel_rfl) rfl (by simp only [List.length_append, List.length_cons, List.length_nil, Tryz.ntmps55]; decide) ?_
 simp only [vsAll, okAll, stAll, opsA, opA, dstOk, nilSliceOp, argFr, Nat.reduceLT, Nat.reduceEqDiff, ↓reduceIte, reduceCtorEq, eq_self, Tryz.ntmps55, hok, hst]
 refine callK (fwIx_tri hok hst H hC hf) ?_
 rintro r H' ⟨rfl, z, rfl, hz⟩
 simp only [vsAll, binA, binLitA, intA, opA, dstOk, nilSliceOp, resA, retA.eq_1, Nat.reduceLT, ↓reduceIte, eq_self, Tryz.results55, hz]
abbrev fwA (i6 : Nat) : AV := .func (.func 54) [] [.ref i6 0 1 0 0]
theorem fw2_tri {d : Dr} {C : List Nat} (hC : C.length ≤ 64) (hlt : ∀ i, i < C.length → C.getD i 0 < 64) {i6 : Nat} {H : Hp} (h6 : H i6 = some (.box 1 1 fun _ => [sdA d C])) {y : Nat} (hy : y < 64) :
  PTri Tryz.prog (fwA i6) [i64 y] H (.tuple [i64 (ones y : Nat), boo (!C.any (fwB d y))]) := by
 refine tri_v0 (fun _ => false) Tryz.func54 (by kernel_rfl) rfl (by simp only [List.length_append, List.length_cons, List.length_nil, Tryz.ntmps54]; decide) ?_
 skip
 simp only [vsAll, boxA, boxZ, cellA, opA, dstOk, nilSliceOp, argFr, Nat.reduceLT, eq_self, wtAll, Tryz.ntmps54]
 refine vs_draw2 [0, 0, 0, 0, 0, 0, 0, 0, 0] [] [0, 1, 2, 3, 4, 5, 6, 7, 8] (by decide +kernel) ?_
 simp only [vsAll, loadA, loadRow, partA, partOk, convA, opA, dstOk, Nat.reduceLT, Nat.reduceEqDiff, ↓reduceIte, eq_self, wtAll]
 refine ⟨by simp only [InR_u64]; ((try clear h6); omega), qcall _ ⟨by simp only [vsAll, opA], by simp only [vsAll, okAll, opsA, opA, ↓reduceIte, eq_self], onesCount_tri y _ hy⟩ ?_⟩
 simp only [vsAll, loadA, loadRow, partA, partOk, okAll, stAll, opsA, opA, dstOk, argFr, Nat.reduceLT, Nat.reduceEqDiff, ↓reduceIte, eq_self, wtAll, h6]
 refine qcall _ ⟨by simp only [vsAll, opA], by simp only [vsAll, okAll, opsA, opA, Nat.reduceEqDiff, ↓reduceIte, eq_self], fwCt_tri (fv := fwF y) (by simp only [vsAll]) rfl _ hC fun i hi => fw1_tri d y _ _ hy (hlt i hi)⟩ ?_
 simp only [vsAll, unA, opA, dstOk, resA, retA.eq_2, Nat.reduceLT, Nat.reduceEqDiff, ↓reduceIte, eq_self, Tryz.results54]
abbrev fwR (d : Dr) (C : List Nat) (N : Nat) : Nat × Int × Bool := bsF (fun y => (ones y : Nat)) (fun y => !C.any (fwB d y)) (2 ^ N)
theorem fewest_tri {d : Dr} {l : List (Nat × Bool)} (k : OkD d) (kl : OkL d l) {M : List Nat} (hM : SetsOk d M) (h0 : 0 < (caL d l M).length) (hs : (fwR d (caL d l M) d.lim.length).2.2 = true) (H : Hp) : PTri Tryz.prog (fnA 14) [.agg (rpC d l)] H (.tuple [i64 (fwR d (caL d l M) d.lim.length).2.1, i64 (fwR d (caL d l M) d.lim.length).1, i64 0]) := by
 have n6 := k.n6
 have hp := p2_6 n6
 have hMl := hM.l
 have hcl := caL_len d l M
 have hlt := fun i => caL_lt (l := l) k hM (i := i)
 unfold fwR at hs ⊢
 refine Tri.drop ?_
 refine tri_a (m := mset []) ans52 Tryz.func14 (by kernel_rfl) rfl (by simp only [List.length_append, List.length_cons, List.length_nil, Tryz.ntmps14]; decide) ?_
 simp only [vsAll, loadA, loadRow, partA, partOk, boxA, boxZ, okAll, stAll, opsA, opA, allocA, dstOk, nilSliceOp, deferV, argFr, Nat.reduceAdd, Nat.reduceLT, Nat.reduceEqDiff, ↓reduceIte, eq_self, wtAll, Tryz.ntmps14]
 intro i3 hh_i3; (try simp only [Hp.set_none, ite_none] at hh_i3)
 refine ⟨_, ropenH_tri d l true _ k kl, ?_⟩
 rintro r H' ⟨rfl, rfl⟩
 simp only [vsAll, okAll, stAll, opsA, opA, dstOk, nilSliceOp, Nat.reduceLT, ↓reduceIte, eq_self]
 refine callK_pure (rcan_tri k kl hM h0 _) ?_
 generalize caL d l M = C at *
 simp only [vsAll, cellA, cellsA, okAll, stAll, opsA, opA, allocA, newCells, okCells, storeObj, dstOk, Nat.reduceLT, Nat.reduceEqDiff, ↓reduceIte, eq_self, wtAll]
 intro i6 hh_i6; (try simp only [ite_none] at hh_i6)
 have g : ¬ i6 = i3 ∧ H i3 = none ∧ H i6 = none := by simp_all
 obtain ⟨c1, z3, z6⟩ := g
 have c1' : ¬ i3 = i6 := fun e => c1 e.symm
 skip
 refine callK_pure (hseams_tri d l _) ?_
 simp only [vsAll, binA, binLitA, intA, okAll, stAll, opsA, opA, dstOk, Nat.reduceLT, ↓reduceIte, eq_self]
 rw [shl1 d.lim.length]
 refine ⟨⟨by ((try clear hh_i3 hh_i6 c1 c1' z3 z6); omega), by ((try clear hh_i3 hh_i6 c1 c1' z3 z6); omega), by rw [InR_i64]; have := Int.natCast_nonneg (2 ^ d.lim.length); ((try clear hh_i3 hh_i6 c1 c1' z3 z6); omega)⟩, callK_pure (upTo_tri (2 ^ d.lim.length) _ hp) ?_⟩
 simp only [vsAll, cellA, cellsA, fillA, okParts, okAll, stAll, opsA, partsA, partsOk, opA, dstOk, Nat.reduceLT, Nat.reduceEqDiff, ↓reduceIte, eq_self, wtAll]
 refine callK_pure (best_tri (fv := fwA i6) (F := fun y => (ones y : Nat)) (g := fun y => !C.any (fwB d y)) (by simp only [vsAll]) rfl _ hp fun y hy => fw2_tri (by ((try clear hh_i3 hh_i6 c1 c1' z3 z6); omega)) hlt (by simp only [vsAll, ↓reduceIte, eq_self]) (by ((try clear hh_i3 hh_i6 c1 c1' z3 z6); omega))) ?_
 generalize bsF (fun y => ((ones y : Nat) : Int)) (fun y => !C.any (fwB d y)) (2 ^ d.lim.length) = y at *
 obtain ⟨x, n, s⟩ := y
 simp only [] at hs
 subst hs
 simp only [vsAll, extractA, okAll, stAll, opsA, opA, dstOk, nilSliceOp, Nat.reduceAdd, Nat.reduceLT, Nat.reduceEqDiff, ↓reduceIte, eq_self]
 refine rwant_call (fun _ => ?_) (fun hv => by cases hv)
 simp only [vsAll, cellA, cellsA, opA, newCells, okCells, storeObj, dstOk, nilSliceOp, Nat.reduceLT, Nat.reduceEqDiff, ↓reduceIte, eq_self, wtAll, hh_i6]
 refine Ent.ret ⟨i3, _, rfl, by simp only [vsAll, ↓reduceIte, eq_self]; try rfl, ?_⟩
 simp only [vsAll, loadA, loadRow, partA, partOk, resA, retA.eq_2, Nat.reduceLT, Nat.reduceEqDiff, ↓reduceIte, eq_self, wtAll, Tryz.results14]
 exact ⟨H, by (repeat (first | exact HSub_rfl | refine HSub_put_eq (by simp only [vsAll, binA, binLitA, intA, aggA, aggV, boolA, nilA2, isConst, unA, loadA, loadRow, partA, partOk, fieldAddrA, indexAddrA, indexA, fieldA, extractA, lenA, nilCheckA, boxA, boxZ, cellA, cellsA, fillA, okParts, buildSliceA, buildMutA, makeSliceA, partIdx, elemsA, lensA, ifaceA, convA, mmA, pickA, okAll, stAll, opsA, partsA, partsOk, opA, allocA, boxMutA, newCells, okCells, storeObj, appendA, guardV, taA, nM, mapUpA, rangeA, nextA, entryA, lookA, sliceA, sliceM, sliceS, boundsA, opO, okO, copyA, dstOk, nilA, quietOk, nilSliceOp, deferV, panA, resA, argFr, retA.eq_1, retA.eq_2, Nat.reduceAdd, Nat.reduceSub, Nat.reduceMul, Nat.reduceLT, Nat.reduceLeDiff, Nat.reduceEqDiff, Nat.reduceBEq, Int.reduceAdd, Int.reduceSub, Int.reduceMul, Int.reduceNeg, Int.reduceLE, Int.reduceLT, Int.reduceEq, Int.reduceNe, Int.reduceToNat, ↓reduceIte, reduceCtorEq, implies_true, forall_const, eq_self, ne_eq, wtAll, Tryz.ntmps14, Tryz.results14, hh_i3, hh_i6, c1, c1', z3, z6]) ?_ | refine HSub_drop2 (by simp only [eq_self, hh_i3, hh_i6]) ?_ | refine HSub_keep_eq (by simp only [vsAll, binA, binLitA, intA, aggA, aggV, boolA, nilA2, isConst, unA, loadA, loadRow, partA, partOk, fieldAddrA, indexAddrA, indexA, fieldA, extractA, lenA, nilCheckA, boxA, boxZ, cellA, cellsA, fillA, okParts, buildSliceA, buildMutA, makeSliceA, partIdx, elemsA, lensA, ifaceA, convA, mmA, pickA, okAll, stAll, opsA, partsA, partsOk, opA, allocA, boxMutA, newCells, okCells, storeObj, appendA, guardV, taA, nM, mapUpA, rangeA, nextA, entryA, lookA, sliceA, sliceM, sliceS, boundsA, opO, okO, copyA, dstOk, nilA, quietOk, nilSliceOp, deferV, panA, resA, argFr, retA.eq_1, retA.eq_2, Nat.reduceAdd, Nat.reduceSub, Nat.reduceMul, Nat.reduceLT, Nat.reduceLeDiff, Nat.reduceEqDiff, Nat.reduceBEq, Int.reduceAdd, Int.reduceSub, Int.reduceMul, Int.reduceNeg, Int.reduceLE, Int.reduceLT, Int.reduceEq, Int.reduceNe, Int.reduceToNat, ↓reduceIte, reduceCtorEq, implies_true, forall_const, eq_self, ne_eq, wtAll, Tryz.ntmps14, Tryz.results14, hh_i3, hh_i6, c1, c1', z3, z6]) ?_)), rfl, rfl⟩
end Go.Proofs.YtclkjifgipcamaaGreat
end
section
set_option linter.unusedVariables false
set_option linter.unusedSimpArgs false
set_option maxHeartbeats 8000000
set_option maxRecDepth 100000
namespace Go.Proofs.YtclkjifgipcamaaGreat
open Go.V
abbrev u16 (n : Int) : AV := .lit (.int .u16 n)
def byF (b : Nat → Int) : Nat → List AV := fun i => [u16 (b i)]
theorem byF_at (b : Nat → Int) (i : Nat) : byF b i = [u16 (b i)] := rfl
abbrev dwAV (i3 N : Nat) (b : Nat → Int) : AV := .func (.func 22) [] [.ref i3 0 1 0 0, .rptr 1 1 (fun _ => [.rsl N 1 (byF b)]) 0 0]
def dwR (i3 a : Nat) (n : Int) (H : Hp) : Res → Hp → Prop := fun r H' => ∃ v : Int, (0 ≤ v ∧ v < n) ∧ r = .ret (i64 v) ∧ H' = H.set i3 (.box 1 1 fun _ => [i64 ((a + 1 : Nat) : Int)])
structure OkB (N : Nat) (b : Nat → Int) : Prop where
 n : N ≤ 9223372036854775807
 b : ∀ i, i < N → 0 ≤ b i ∧ b i ≤ 65535
theorem dw_tri {N : Nat} {b : Nat → Int} (kb : OkB N b) (i3 a : Nat) (n : Int) (H : Hp) (hn : 1 ≤ n ∧ n ≤ 1000) (ha : a ≤ 1000) (ho : H i3 = some (.box 1 1 fun _ => [i64 a])) :
  Tri Tryz.prog (dwAV i3 N b) [i64 n] H (dwR i3 a n H) := by
 have hN := kb.n
 have hb := kb.b
 refine Tri.drop ?_
 refine tri_v0 (fun _ => false) Tryz.func22 (by kernel_rfl) rfl (by simp only [List.length_append, List.length_cons, List.length_nil, Tryz.ntmps22]; decide) ?_
 skip
 simp only [vsAll, binA, binLitA, intA, loadA, loadRow, partA, partOk, lenA, cellA, cellsA, opA, newCells, okCells, storeObj, dstOk, nilSliceOp, argFr, Nat.reduceLT, Nat.reduceEqDiff, ↓reduceIte, eq_self, wtAll, Tryz.ntmps22, ho]
 refine ⟨by simp only [InR_i64]; ((try clear ho); omega), ?_⟩
 have hset : (H.set i3 (.box 1 1 fun _ => [i64 ((a : Int) + 1)])) i3 = some (.box 1 1 fun _ => [i64 ((a : Int) + 1)]) := Hp.set_same _ _ _
 refine condD (fun hd => ?_) (fun hd => ?_)
 ·simp only [vsAll, binA, binLitA, intA, loadA, loadRow, partA, partOk, opA, dstOk, nilSliceOp, resA, argFr, retA.eq_1, Nat.reduceLT, Nat.reduceEqDiff, ↓reduceIte, reduceCtorEq, eq_self, ne_eq, wtAll, Tryz.results22]
  have hv : 0 ≤ ((a : Int) + 1).tmod n ∧ ((a : Int) + 1).tmod n < n := by
   rw [Int.tmod_eq_emod_of_nonneg (by ((try clear ho); omega))]
   exact ⟨Int.emod_nonneg _ (by ((try clear ho); omega)), Int.emod_lt_of_pos _ (by ((try clear ho); omega))⟩
  refine ⟨by ((try clear ho); omega), ?_⟩
  exact ⟨_, HSub_rfl, _, hv, rfl, by rw [Int.natCast_add, Int.natCast_one]⟩
 ·have hq : 0 ≤ ((a : Int) + 1).tmod N ∧ ((a : Int) + 1).tmod N < N := by
   rw [Int.tmod_eq_emod_of_nonneg (by ((try clear ho); omega))]
   exact ⟨Int.emod_nonneg _ (by ((try clear ho); omega)), Int.emod_lt_of_pos _ (by ((try clear ho); omega))⟩
  simp only [vsAll]
  refine vs_draw 14 (by decide +kernel) ?_
  simp only [vsAll, binA, binLitA, intA, loadA, loadRow, partA, partOk, indexAddrA, lenA, convA, opA, dstOk, resA, argFr, retA.eq_1, Nat.reduceLT, Nat.reduceEqDiff, ↓reduceIte, reduceCtorEq, eq_self, ne_eq, wtAll, Tryz.results22, byF_at]
  have hb2 := hb (((a : Int) + 1).tmod N).toNat (by ((try clear ho); omega))
  generalize b (((a : Int) + 1).tmod N).toNat = B at *
  have hv : 0 ≤ (B + 61 * ((a : Int) + 1)).tmod n ∧ (B + 61 * ((a : Int) + 1)).tmod n < n := by
   rw [Int.tmod_eq_emod_of_nonneg (by ((try clear ho); omega))]
   exact ⟨Int.emod_nonneg _ (by ((try clear ho); omega)), Int.emod_lt_of_pos _ (by ((try clear ho); omega))⟩
  simp only [InR_i64]
  exact ⟨by ((try clear ho); omega), hq, by ((try clear ho); omega), by ((try clear ho); omega), by ((try clear ho); omega), by ((try clear ho); omega), by ((try clear ho); omega), _, HSub_rfl, _, hv, rfl, by rw [Int.natCast_add, Int.natCast_one]⟩
theorem dws_tri (N : Nat) (b : Nat → Int) (H : Hp) : Tri Tryz.prog (fnA 6) [.rsl N 1 (byF b)] H fun r H' => ∃ i3, H i3 = none ∧ r = .ret (dwAV i3 N b) ∧ H' = H.set i3 (.box 1 1 fun _ => [i64 0]) := by
 refine Tri.drop ?_
 refine tri_v0 (mset []) Tryz.func6 (by kernel_rfl) rfl (by simp only [List.length_append, List.length_cons, List.length_nil, Tryz.ntmps6]; decide) ?_
 simp only [vsAll, boxA, boxZ, cellA, cellsA, okAll, stAll, opsA, opA, allocA, newCells, okCells, storeObj, dstOk, nilSliceOp, resA, argFr, retA.eq_1, Nat.reduceLT, Nat.reduceEqDiff, ↓reduceIte, eq_self, wtAll, Tryz.ntmps6, Tryz.results6]
 intro i3 hh_i3; (try simp only [Hp.set_none, ite_none] at hh_i3)
 exact ⟨_, by rw [Hp.set_set]; exact HSub_rfl, i3, hh_i3, rfl, rfl⟩
theorem span_tri (a b : Int) (H : Hp) : PTri Tryz.prog (fnA 7) [i64 a, i64 b] H (.agg [i64 a, i64 b]) := by
 refine Tri.drop ?_
 refine tri_v0 (mset [4]) Tryz.func7 (by kernel_rfl) rfl (by simp only [List.length_append, List.length_cons, List.length_nil, Tryz.ntmps7]; decide) ?_
 simp only [vsAll, loadA, loadRow, partA, partOk, cellA, cellsA, fillA, okParts, partsA, partsOk, opA, allocA, newCells, okCells, storeObj, dstOk, resA, argFr, retA.eq_1, Nat.reduceAdd, Nat.reduceLT, Nat.reduceLeDiff, Nat.reduceEqDiff, ↓reduceIte, reduceCtorEq, eq_self, wtAll, Tryz.ntmps7, Tryz.results7]
 intro i4 hh_i4; (try simp only [Hp.set_none, ite_none] at hh_i4)
 exact dropR_pure rfl (by (repeat (first | exact HSub_rfl | refine HSub_put_eq (by simp only [vsAll, binA, binLitA, intA, aggA, aggV, boolA, nilA2, isConst, unA, loadA, loadRow, partA, partOk, fieldAddrA, indexAddrA, indexA, fieldA, extractA, lenA, nilCheckA, boxA, boxZ, cellA, cellsA, fillA, okParts, buildSliceA, buildMutA, makeSliceA, partIdx, elemsA, lensA, ifaceA, convA, mmA, pickA, okAll, stAll, opsA, partsA, partsOk, opA, allocA, boxMutA, newCells, okCells, storeObj, appendA, guardV, taA, nM, mapUpA, rangeA, nextA, entryA, lookA, sliceA, sliceM, sliceS, boundsA, opO, okO, copyA, dstOk, nilA, quietOk, nilSliceOp, deferV, panA, resA, argFr, retA.eq_1, retA.eq_2, Nat.reduceAdd, Nat.reduceSub, Nat.reduceMul, Nat.reduceLT, Nat.reduceLeDiff, Nat.reduceEqDiff, Nat.reduceBEq, Int.reduceAdd, Int.reduceSub, Int.reduceMul, Int.reduceNeg, Int.reduceLE, Int.reduceLT, Int.reduceEq, Int.reduceNe, Int.reduceToNat, ↓reduceIte, reduceCtorEq, implies_true, forall_const, eq_self, ne_eq, wtAll, Tryz.ntmps7, Tryz.results7, hh_i4]) ?_ | refine HSub_drop2 (by simp only [eq_self, hh_i4]) ?_ | refine HSub_keep_eq (by simp only [vsAll, binA, binLitA, intA, aggA, aggV, boolA, nilA2, isConst, unA, loadA, loadRow, partA, partOk, fieldAddrA, indexAddrA, indexA, fieldA, extractA, lenA, nilCheckA, boxA, boxZ, cellA, cellsA, fillA, okParts, buildSliceA, buildMutA, makeSliceA, partIdx, elemsA, lensA, ifaceA, convA, mmA, pickA, okAll, stAll, opsA, partsA, partsOk, opA, allocA, boxMutA, newCells, okCells, storeObj, appendA, guardV, taA, nM, mapUpA, rangeA, nextA, entryA, lookA, sliceA, sliceM, sliceS, boundsA, opO, okO, copyA, dstOk, nilA, quietOk, nilSliceOp, deferV, panA, resA, argFr, retA.eq_1, retA.eq_2, Nat.reduceAdd, Nat.reduceSub, Nat.reduceMul, Nat.reduceLT, Nat.reduceLeDiff, Nat.reduceEqDiff, Nat.reduceBEq, Int.reduceAdd, Int.reduceSub, Int.reduceMul, Int.reduceNeg, Int.reduceLE, Int.reduceLT, Int.reduceEq, Int.reduceNe, Int.reduceToNat, ↓reduceIte, reduceCtorEq, implies_true, forall_const, eq_self, ne_eq, wtAll, Tryz.ntmps7, Tryz.results7, hh_i4]) ?_)))

theorem ints_tri (a b : List Int) (H : Hp) (ha : a.length ≤ 1000) (hb : b.length ≤ 1000) : PTri Tryz.prog (fnA 15) [intsAV a, intsAV b] H (boo (decide (a = b))) := by
 refine tri_v0 (fun _ => false) Tryz.func15 (by kernel_rfl) rfl (by simp only [List.length_append, List.length_cons, List.length_nil, Tryz.ntmps15]; decide) ?_
 simp only [vsAll, binA, binLitA, intA, lenA, opA, dstOk, nilSliceOp, argFr, Nat.reduceLT, Nat.reduceEqDiff, ↓reduceIte, reduceCtorEq, eq_self, wtAll, Tryz.ntmps15]
 refine condV (fun hd => ?_) (fun hd => ?_)
 ·have : ¬ a = b := fun e => by rw [e] at hd; simp at hd
  rw [decide_eq_false this]
  simp only [vsAll, opA, dstOk, nilSliceOp, resA, retA.eq_1, Nat.reduceLT, ↓reduceIte, eq_self, Tryz.results15]
 ·have hl : a.length = b.length := by simp only [Bool.not_eq_false', decide_eq_true_eq] at hd; omega
  simp only [vsAll, opA, dstOk, nilSliceOp, Nat.reduceLT, eq_self]
  refine vs_loop (σ := Nat) (fun i => i ≤ a.length ∧ ∀ q, q < i → a.getD q 0 = b.getD q 0) (fun i => [(0, intsAV a), (1, intsAV b), (5, i64 i)]) (fun _ => H) (fun i => a.length - i) 0 ⟨Nat.zero_le _, fun q hq => absurd hq (Nat.not_lt_zero q)⟩ ?_ HSub_rfl fun i hi => ?_
  ·simp only [vsAll, argFr, Nat.reduceEqDiff, ↓reduceIte, reduceCtorEq, eq_self, Int.natCast_zero]
  ·obtain ⟨hi, hall⟩ := hi
   simp only [vsAll, binA, binLitA, intA, lenA, opA, dstOk, Nat.reduceLT, Nat.reduceEqDiff, ↓reduceIte, reduceCtorEq, eq_self, wtAll]
   refine condD (fun hd2 => ?_) (fun hd2 => ?_)
   ·have hil : i < a.length := by omega
    simp only [vsAll]
    refine vs_draw2 [0, 0, 0, 0, 0, 0, 0, 0, 0] [] [0, 1, 2, 3, 4, 5, 6, 7, 8] (by decide +kernel) ?_
    simp only [vsAll, binA, binLitA, intA, loadA, loadRow, partA, partOk, indexAddrA, opA, dstOk, Nat.reduceLT, Nat.reduceEqDiff, ↓reduceIte, reduceCtorEq, eq_self, wtAll, intF_at]
    refine ⟨⟨by omega, by omega⟩, hil, ⟨by omega, by omega⟩, by omega, ?_⟩
    refine condV (fun hc => ?_) (fun hc => ?_)
    ·simp only [Bool.not_eq_true', decide_eq_false_iff_not] at hc
     have : ¬ a = b := fun e => hc (by rw [e])
     rw [decide_eq_false this]
     simp only [vsAll, opA, dstOk, nilSliceOp, resA, retA.eq_1, Nat.reduceLT, ↓reduceIte, eq_self, Tryz.results15]
    ·simp only [Bool.not_eq_false', decide_eq_true_eq] at hc
     simp only [vsAll, binA, binLitA, intA, opA, dstOk, nilSliceOp, Nat.reduceLT, Nat.reduceEqDiff, ↓reduceIte, reduceCtorEq, eq_self]
     refine ⟨by simp only [InR_i64]; omega, loop_next (i + 1) ⟨hil, fun q hq => ?_⟩ (by omega) ?_ HSub_rfl⟩
     ·by_cases e : q = i
      ·rw [e]; exact hc
      ·exact hall q (by omega)
     ·simp only [vsAll, Nat.reduceEqDiff, ↓reduceIte, reduceCtorEq, eq_self, Int.natCast_add, Int.natCast_one]
   ·have e : a = b := by
     refine List.ext_getElem hl fun q h1 h2 => ?_
     have := hall q (by omega)
     rw [List.getD_eq_getElem?_getD, List.getD_eq_getElem?_getD, List.getElem?_eq_getElem h1, List.getElem?_eq_getElem h2] at this
     exact this
    rw [decide_eq_true e]
    simp only [vsAll, opA, dstOk, nilSliceOp, resA, retA.eq_1, Nat.reduceLT, ↓reduceIte, eq_self, Tryz.results15]
theorem ones_half {a : Nat} (ha : a < 64) : ones a = a % 2 + ones (a / 2) := by revert a; decide +kernel
theorem size_tri (s : Nat) (H : Hp) (hs : s < 64) : PTri Tryz.prog (fnA 16) [i64 s] H (i64 (ones s : Nat)) := by
 refine tri_v0 (fun _ => false) Tryz.func16 (by kernel_rfl) rfl (by simp only [List.length_append, List.length_cons, List.length_nil, Tryz.ntmps16]; decide) ?_
 simp only [vsAll, opA, dstOk, nilSliceOp, Nat.reduceLT, eq_self, Tryz.ntmps16]
 refine vs_loop (σ := Nat × Nat) (fun y => y.1 < 64 ∧ y.2 ≤ 6 ∧ y.2 + ones y.1 = ones s) (fun y => [(0, i64 (y.1 : Nat)), (3, i64 (y.2 : Nat))]) (fun _ => H) (fun y => y.1) (s, 0) ⟨hs, by omega, Nat.zero_add _⟩ ?_ HSub_rfl fun y hy => ?_
 ·simp only [vsAll, argFr, ↓reduceIte, reduceCtorEq, eq_self, Int.natCast_zero]
 ·obtain ⟨a, n⟩ := y
  obtain ⟨ha, hn, he⟩ := hy
  simp only [] at ha hn he
  simp only [vsAll, binA, binLitA, intA, opA, dstOk, Nat.reduceLT, ↓reduceIte, eq_self]
  refine condD (fun hd => ?_) (fun hd => ?_)
  ·have h2 := ones_half ha
   have h3 := ones_le hs
   have e1 : (a : Int).tmod 2 = ((a % 2 : Nat) : Int) := by rw [Int.tmod_eq_emod_of_nonneg (by omega)]; omega
   have e2 : (a : Int).tdiv 2 = ((a / 2 : Nat) : Int) := by rw [Int.tdiv_eq_ediv_of_nonneg (by omega)]; omega
   simp only [vsAll, binA, binLitA, intA, opA, dstOk, nilSliceOp, Nat.reduceLT, Nat.reduceEqDiff, Int.reduceEq, ↓reduceIte, reduceCtorEq, eq_self, ne_eq, e1, e2]
   refine ⟨by simp only [InR_i64]; omega, by simp only [InR_i64]; omega, loop_next (a / 2, n + a % 2) ⟨by show a / 2 < 64; omega, by show n + a % 2 ≤ 6; omega, by show n + a % 2 + ones (a / 2) = ones s; omega⟩ (by show a / 2 < a; omega) ?_ HSub_rfl⟩
   simp only [vsAll, Nat.reduceEqDiff, ↓reduceIte, reduceCtorEq, eq_self, Int.natCast_add]
  ·have e : a = 0 := by omega
   subst e
   have e0 : ones 0 = 0 := rfl
   have e1 : n = ones s := by omega
   simp only [vsAll, opA, dstOk, nilSliceOp, resA, retA.eq_1, Nat.reduceLT, Nat.reduceEqDiff, ↓reduceIte, reduceCtorEq, eq_self, Tryz.results16, e1]
end Go.Proofs.YtclkjifgipcamaaGreat
end
section
set_option linter.unusedVariables false
set_option linter.unusedSimpArgs false
set_option maxHeartbeats 8000000
set_option maxRecDepth 100000
namespace Go.Proofs.YtclkjifgipcamaaGreat
open Go.V
theorem din_tri (n lo hi : Int) (H : Hp) : PTri Tryz.prog (fnA 18) [i64 n, i64 lo, i64 hi] H (boo (decide (lo ≤ n) && decide (n ≤ hi))) := by
 refine tri_v0 (fun _ => false) Tryz.func18 (by kernel_rfl) rfl (by simp only [List.length_append, List.length_cons, List.length_nil, Tryz.ntmps18]; decide) ?_
 simp only [vsAll, binA, binLitA, intA, pickA, opA, guardV, dstOk, nilSliceOp, resA, argFr, retA.eq_1, Nat.reduceLT, Nat.reduceEqDiff, ↓reduceIte, reduceCtorEq, implies_true, eq_self, Tryz.ntmps18, Tryz.results18]
theorem dseam_tri (d : Dr) (n : Int) (H : Hp) (hn : d.lim.length ≤ 40) : PTri Tryz.prog (fnA 19) [d.av, i64 n] H (boo (decide (0 ≤ n) && decide (n ≤ (d.lim.length : Int) - 1))) := by
 refine tri_v0 (fun _ => false) Tryz.func19 (by kernel_rfl) rfl (by simp only [List.length_append, List.length_cons, List.length_nil, Tryz.ntmps19]; decide) ?_
 simp only [vsAll, binA, binLitA, intA, loadA, loadRow, partA, partOk, fieldAddrA, lenA, boxA, boxZ, okAll, stAll, opsA, opA, dstOk, nilSliceOp, argFr, Nat.reduceAdd, Nat.reduceLT, Nat.reduceEqDiff, ↓reduceIte, eq_self, wtAll, Tryz.ntmps19]
 refine ⟨by simp only [InR_i64]; omega, callK_pure (din_tri _ _ _ _) ?_⟩
 simp only [vsAll, opA, dstOk, nilSliceOp, resA, retA.eq_1, Nat.reduceLT, ↓reduceIte, eq_self, Tryz.results19]
theorem nbL_take {be : List (Int × Int)} {s : Int} {i : Nat} (hi : i < be.length) : (nbL (be.take (i + 1)) s).length = (nbL (be.take i) s).length + (if (be.getD i (0, 0)).1 = s ∨ (be.getD i (0, 0)).2 = s then 1 else 0) := by
 unfold nbL
 rw [List.take_add_one, List.getElem?_eq_getElem hi, List.flatMap_append, List.length_append, List.getD_eq_getElem?_getD, List.getElem?_eq_getElem hi]
 congr 1
 simp only [Option.toList_some, Option.getD_some, List.flatMap_cons, List.flatMap_nil, List.append_nil, nb1]
 by_cases h1 : be[i].1 = s
 ·simp [h1]
 ·by_cases h2 : be[i].2 = s
  ·simp [h1, h2]
  ·simp [h1, h2]
theorem beside_tri (d : Dr) (s : Int) (H : Hp) (hn : d.be.length ≤ 40) : PTri Tryz.prog (fnA 20) [d.av, i64 s] H (i64 (nbL d.be s).length) := by
 refine tri_v0 (fun _ => false) Tryz.func20 (by kernel_rfl) rfl (by simp only [List.length_append, List.length_cons, List.length_nil, Tryz.ntmps20]; decide) ?_
 simp only [vsAll, boxA, boxZ, opA, dstOk, nilSliceOp, argFr, Nat.reduceAdd, Nat.reduceLT, eq_self, wtAll, Tryz.ntmps20]
 refine vs_loop (σ := Nat) (fun i => i ≤ d.be.length ∧ (nbL (d.be.take i) s).length ≤ i) (fun i => [(1, i64 s), (2, dptr d), (5, i64 (nbL (d.be.take i) s).length), (6, i64 i)]) (fun _ => H) (fun i => d.be.length - i) 0 ⟨Nat.zero_le _, by simp [nbL]⟩ ?_ HSub_rfl fun i hi => ?_
 ·simp only [vsAll, argFr, Nat.reduceEqDiff, ↓reduceIte, eq_self, Int.natCast_zero]
  exact .refl _
 ·obtain ⟨hi, hle⟩ := hi
  simp only [vsAll, binA, binLitA, intA, loadA, loadRow, partA, partOk, fieldAddrA, lenA, opA, dstOk, Nat.reduceLT, Nat.reduceEqDiff, ↓reduceIte, eq_self, wtAll]
  refine condD (fun hd => ?_) (fun hd => ?_)
  ·have hil : i < d.be.length := by omega
   have es := nbL_take (s := s) hil
   simp only [vsAll, binA, binLitA, intA, loadA, loadRow, partA, partOk, fieldAddrA, indexAddrA, pickA, opA, guardV, dstOk, Nat.reduceMul, Nat.reduceLT, Nat.reduceEqDiff, Int.reduceLE, Int.reduceToNat, ↓reduceIte, implies_true, eq_self, wtAll, prF_at]
   refine ⟨⟨by omega, by omega⟩, by omega, hil, fun h => ⟨h, h, by omega, by omega⟩, fun h => ⟨h, by omega⟩, fun h => ⟨h, hil⟩, ?_⟩
   refine condV (fun hc => ?_) (fun hc => ?_)
   ·simp only [Bool.or_eq_true, decide_eq_true_eq] at hc
    rw [if_pos hc] at es
    simp only [vsAll, binA, binLitA, intA, opA, dstOk, nilSliceOp, Nat.reduceLT, Nat.reduceEqDiff, ↓reduceIte, eq_self]
    refine ⟨by simp only [InR_i64]; omega, by simp only [InR_i64]; omega, loop_next (i + 1) ⟨hil, by omega⟩ (by omega) ?_ HSub_rfl⟩
    simp only [vsAll, Nat.reduceEqDiff, ↓reduceIte, eq_self, es, Int.natCast_add, Int.natCast_one]
   ·simp only [Bool.or_eq_false_iff, decide_eq_false_iff_not] at hc
    rw [if_neg (by omega)] at es
    simp only [vsAll, binA, binLitA, intA, opA, dstOk, nilSliceOp, Nat.reduceLT, Nat.reduceEqDiff, ↓reduceIte, eq_self]
    refine ⟨by simp only [InR_i64]; omega, loop_next (i + 1) ⟨hil, by omega⟩ (by omega) ?_ HSub_rfl⟩
    simp only [vsAll, Nat.reduceEqDiff, ↓reduceIte, eq_self, es, Int.natCast_add, Int.natCast_one]
  ·have ei : i = d.be.length := by omega
   subst ei
   rw [List.take_length]
   simp only [vsAll, opA, dstOk, nilSliceOp, resA, retA.eq_1, Nat.reduceLT, Nat.reduceEqDiff, ↓reduceIte, eq_self, Tryz.results20]
structure PrOk (d : Dr) (i : Nat) : Prop where
 p : ∀ q, q < i → 0 ≤ (d.be.getD q (0, 0)).1 ∧ (d.be.getD q (0, 0)).1 < (d.be.getD q (0, 0)).2 ∧ (d.be.getD q (0, 0)).2 < d.lim.length
 q : ∀ q r, q < i → r < q → d.be.getD r (0, 0) ≠ d.be.getD q (0, 0)
structure LmOk (d : Dr) (i : Nat) : Prop where
 l : ∀ q, q < i → ((nbL d.be q).length : Int) + 1 ≤ d.lim.getD q 0 ∧ d.lim.getD q 0 ≤ 6
 b : ∀ q, q < i → 0 ≤ (d.bl.getD q (0, 0)).1 ∧ (d.bl.getD q (0, 0)).1 ≤ (d.bl.getD q (0, 0)).2 ∧ (d.bl.getD q (0, 0)).2 ≤ 12 ∧ (d.bl.getD q (0, 0)).2 - (d.bl.getD q (0, 0)).1 ≤ 2
def driveR (d : Dr) (H : Hp) : Res → Hp → Prop := fun r H' => H' = H ∧ ∃ v, r = .ret (boo v) ∧ (v = true ↔ OkD d)
theorem drive_tri (d : Dr) (H : Hp) (h1 : d.lim.length ≤ 40) (h2 : d.be.length ≤ 40) (h3 : d.bl.length ≤ 40) : Tri Tryz.prog (fnA 4) [d.av] H (driveR d H) := by
 refine Tri.drop ?_
 refine tri_v0 (mset []) Tryz.func4 (by kernel_rfl) rfl (by simp only [List.length_append, List.length_cons, List.length_nil, Tryz.ntmps4]; decide) ?_
 simp only [vsAll, loadA, loadRow, partA, partOk, fieldAddrA, lenA, boxA, boxZ, okAll, stAll, opsA, opA, dstOk, nilSliceOp, argFr, Nat.reduceAdd, Nat.reduceLT, Nat.reduceEqDiff, ↓reduceIte, eq_self, wtAll, Tryz.ntmps4]
 refine callK_pure (din_tri _ _ _ _) ?_
 simp only [vsAll, binA, binLitA, intA, unA, loadA, loadRow, partA, partOk, fieldAddrA, lenA, pickA, opA, guardV, dstOk, Nat.reduceLT, Nat.reduceEqDiff, ↓reduceIte, implies_true, eq_self, wtAll]
 refine condV (fun hc => ?_) (fun hc => ?_)
 ·simp only [vsAll, opA, dstOk, nilSliceOp, resA, retA.eq_1, Nat.reduceLT, ↓reduceIte, eq_self, Tryz.results4]
  refine ⟨H, HSub_rfl, rfl, false, rfl, iff_of_false (by decide) fun k => ?_⟩
  have e1 := k.n1
  have e2 := k.n6
  have e3 := k.nb
  rw [decide_eq_true (by omega), decide_eq_true (by omega)] at hc
  simp [e3] at hc
 ·simp only [Bool.or_eq_false_iff, Bool.not_eq_false', Bool.and_eq_true, decide_eq_true_eq] at hc
  obtain ⟨⟨hc1, hc2⟩, hc3⟩ := hc
  have hbl : d.bl.length = d.lim.length := by omega
  simp only [vsAll, opA, dstOk, nilSliceOp, Nat.reduceLT, eq_self]
  refine vs_loop (σ := Nat) (fun i => i ≤ d.be.length ∧ PrOk d i) (fun i => [(1, dptr d), (3, i64 i)]) (fun _ => H) (fun i => d.be.length - i) 0 ⟨Nat.zero_le _, ⟨fun q hq => absurd hq (Nat.not_lt_zero q), fun q r hq => absurd hq (Nat.not_lt_zero q)⟩⟩ ?_ HSub_rfl fun i hi => ?_
  ·simp only [vsAll, Nat.reduceEqDiff, ↓reduceIte, eq_self, Int.natCast_zero]
  ·obtain ⟨hi, hp⟩ := hi
   simp only [vsAll, binA, binLitA, intA, loadA, loadRow, partA, partOk, fieldAddrA, lenA, opA, dstOk, Nat.reduceLT, Nat.reduceEqDiff, ↓reduceIte, eq_self, wtAll]
   refine condD (fun hd => ?_) (fun hd => ?_)
   ·have hil : i < d.be.length := by omega
    have hpr : ∀ k, k < 2 → okCells (List.take 1 (List.drop (k * 1) [i64 (d.be.getD i (0, 0)).1, i64 (d.be.getD i (0, 0)).2])) := fun k hk => by
     match k, hk with
     | 0, _ => exact ⟨rfl, trivial⟩
     | 1, _ => exact ⟨rfl, trivial⟩
    simp only [vsAll, loadA, loadRow, partA, partOk, fieldAddrA, indexAddrA, okAll, stAll, opsA, opA, allocA, storeObj, dstOk, Nat.reduceMul, Nat.reduceLT, Nat.reduceEqDiff, Int.reduceLE, Int.reduceToNat, ↓reduceIte, eq_self, wtAll, prF_at]
    generalize hpi : d.be.getD i (0, 0) = p at *
    refine ⟨⟨by omega, by omega⟩, hil, ?_⟩
    intro i4 hh_i4; (try simp only [Hp.set_none, ite_none] at hh_i4)
    refine ⟨hpr, by ((try clear hh_i4); omega), callK_pure (dseam_tri d p.1 _ h1) ?_⟩
    simp only [vsAll, unA, loadA, loadRow, partA, partOk, indexAddrA, opA, guardV, dstOk, Nat.reduceMul, Nat.reduceLT, Nat.reduceEqDiff, Int.reduceLE, Int.reduceToNat, ↓reduceIte, implies_true, eq_self, wtAll]
    refine ⟨fun _ => by ((try clear hh_i4); omega), gcall (boo (decide (0 ≤ p.2) && decide (p.2 ≤ (d.lim.length : Int) - 1))) (fun g => ⟨by simp only [vsAll, opA], by simp only [vsAll, okAll, opsA, opA, Nat.reduceEqDiff, ↓reduceIte, eq_self, g], dseam_tri d p.2 _ h1⟩) ?_⟩
    simp only [vsAll, binA, binLitA, intA, unA, loadA, loadRow, partA, partOk, indexAddrA, pickA, opA, guardV, dstOk, Nat.reduceMul, Nat.reduceLT, Nat.reduceEqDiff, Int.reduceLE, Int.reduceToNat, ↓reduceIte, implies_true, eq_self, wtAll]
    refine ⟨fun _ => by ((try clear hh_i4); omega), fun _ => by ((try clear hh_i4); omega), ?_⟩
    refine condV (fun hc => ?_) (fun hc => ?_)
    ·simp only [vsAll, opA, dstOk, nilSliceOp, resA, retA.eq_1, Nat.reduceLT, ↓reduceIte, eq_self, Tryz.results4]
     refine ⟨H, by (repeat (first | exact HSub_rfl | refine HSub_put_eq (by simp only [vsAll, binA, binLitA, intA, aggA, aggV, boolA, nilA2, isConst, unA, loadA, loadRow, partA, partOk, fieldAddrA, indexAddrA, indexA, fieldA, extractA, lenA, nilCheckA, boxA, boxZ, cellA, cellsA, fillA, okParts, buildSliceA, buildMutA, makeSliceA, partIdx, elemsA, lensA, ifaceA, convA, mmA, pickA, okAll, stAll, opsA, partsA, partsOk, opA, allocA, boxMutA, newCells, okCells, storeObj, appendA, guardV, taA, nM, mapUpA, rangeA, nextA, entryA, lookA, sliceA, sliceM, sliceS, boundsA, opO, okO, copyA, dstOk, nilA, quietOk, nilSliceOp, deferV, panA, resA, argFr, retA.eq_1, retA.eq_2, Nat.reduceAdd, Nat.reduceSub, Nat.reduceMul, Nat.reduceLT, Nat.reduceLeDiff, Nat.reduceEqDiff, Nat.reduceBEq, Int.reduceAdd, Int.reduceSub, Int.reduceMul, Int.reduceNeg, Int.reduceLE, Int.reduceLT, Int.reduceEq, Int.reduceNe, Int.reduceToNat, ↓reduceIte, reduceCtorEq, implies_true, forall_const, eq_self, ne_eq, wtAll, Tryz.ntmps4, Tryz.results4, hh_i4]) ?_ | refine HSub_drop2 (by simp only [eq_self, hh_i4]) ?_ | refine HSub_keep_eq (by simp only [vsAll, binA, binLitA, intA, aggA, aggV, boolA, nilA2, isConst, unA, loadA, loadRow, partA, partOk, fieldAddrA, indexAddrA, indexA, fieldA, extractA, lenA, nilCheckA, boxA, boxZ, cellA, cellsA, fillA, okParts, buildSliceA, buildMutA, makeSliceA, partIdx, elemsA, lensA, ifaceA, convA, mmA, pickA, okAll, stAll, opsA, partsA, partsOk, opA, allocA, boxMutA, newCells, okCells, storeObj, appendA, guardV, taA, nM, mapUpA, rangeA, nextA, entryA, lookA, sliceA, sliceM, sliceS, boundsA, opO, okO, copyA, dstOk, nilA, quietOk, nilSliceOp, deferV, panA, resA, argFr, retA.eq_1, retA.eq_2, Nat.reduceAdd, Nat.reduceSub, Nat.reduceMul, Nat.reduceLT, Nat.reduceLeDiff, Nat.reduceEqDiff, Nat.reduceBEq, Int.reduceAdd, Int.reduceSub, Int.reduceMul, Int.reduceNeg, Int.reduceLE, Int.reduceLT, Int.reduceEq, Int.reduceNe, Int.reduceToNat, ↓reduceIte, reduceCtorEq, implies_true, forall_const, eq_self, ne_eq, wtAll, Tryz.ntmps4, Tryz.results4, hh_i4]) ?_)), rfl, false, rfl, iff_of_false (by decide) fun k => ?_⟩
     have e1 := k.p i hil
     rw [hpi] at e1
     rw [decide_eq_true (by ((try clear hh_i4); omega)), decide_eq_true (by ((try clear hh_i4); omega)), decide_eq_true (by ((try clear hh_i4); omega)), decide_eq_true (by ((try clear hh_i4); omega)), decide_eq_false (by ((try clear hh_i4); omega))] at hc
     simp at hc
    ·simp only [Bool.or_eq_false_iff, Bool.not_eq_false', Bool.and_eq_true, decide_eq_true_eq, decide_eq_false_iff_not] at hc
     obtain ⟨⟨⟨p1, p2⟩, p3, p4⟩, p5⟩ := hc
     simp only [vsAll, opA, dstOk, nilSliceOp, Nat.reduceLT, eq_self]
     refine vs_loop (σ := Nat) (fun k => k ≤ i ∧ ∀ r, r < k → d.be.getD r (0, 0) ≠ p) (fun k => [(1, dptr d), (3, i64 i), (4, .ref i4 0 1 0 0), (5, i64 k)]) (fun _ => H.set i4 (.box 1 2 fun r => List.take 1 (List.drop (r * 1) [i64 p.1, i64 p.2]))) (fun k => i - k) 0 ⟨Nat.zero_le _, fun q hq => absurd hq (Nat.not_lt_zero q)⟩ ?_ ?_ fun k hk => ?_
     ·simp only [vsAll, Nat.reduceEqDiff, ↓reduceIte, eq_self, Int.natCast_zero]
     ·rw [Hp.set_set]; exact HSub_rfl
     ·obtain ⟨hk, hne⟩ := hk
      simp only [vsAll, binA, binLitA, intA, opA, dstOk, Nat.reduceLT, Nat.reduceEqDiff, ↓reduceIte, eq_self, ne_eq]
      refine condD (fun hd2 => ?_) (fun hd2 => ?_)
      ·have hkl : k < i := by ((try clear hh_i4); omega)
       simp only [vsAll]
       refine vs_draw2 [0, 0, 0, 0, 0, 0, 0] [] [0, 1, 2, 3, 4, 5, 6] (by decide +kernel) ?_
       simp only [vsAll, binA, aggA, loadA, loadRow, partA, partOk, fieldAddrA, indexAddrA, opA, dstOk, Nat.reduceAdd, Nat.reduceMul, Nat.reduceLT, Nat.reduceEqDiff, ↓reduceIte, eq_self, wtAll, prF_at, arrC]
       refine ⟨⟨by ((try clear hh_i4); omega), by ((try clear hh_i4); omega)⟩, by ((try clear hh_i4); omega), eqT55, ?_⟩
       refine condV (fun hc => ?_) (fun hc => ?_)
       ·simp only [vsAll, opA, dstOk, nilSliceOp, resA, retA.eq_1, Nat.reduceLT, ↓reduceIte, eq_self, Tryz.results4]
        refine ⟨H, by (repeat (first | exact HSub_rfl | refine HSub_put_eq (by simp only [vsAll, binA, binLitA, intA, aggA, aggV, boolA, nilA2, isConst, unA, loadA, loadRow, partA, partOk, fieldAddrA, indexAddrA, indexA, fieldA, extractA, lenA, nilCheckA, boxA, boxZ, cellA, cellsA, fillA, okParts, buildSliceA, buildMutA, makeSliceA, partIdx, elemsA, lensA, ifaceA, convA, mmA, pickA, okAll, stAll, opsA, partsA, partsOk, opA, allocA, boxMutA, newCells, okCells, storeObj, appendA, guardV, taA, nM, mapUpA, rangeA, nextA, entryA, lookA, sliceA, sliceM, sliceS, boundsA, opO, okO, copyA, dstOk, nilA, quietOk, nilSliceOp, deferV, panA, resA, argFr, retA.eq_1, retA.eq_2, Nat.reduceAdd, Nat.reduceSub, Nat.reduceMul, Nat.reduceLT, Nat.reduceLeDiff, Nat.reduceEqDiff, Nat.reduceBEq, Int.reduceAdd, Int.reduceSub, Int.reduceMul, Int.reduceNeg, Int.reduceLE, Int.reduceLT, Int.reduceEq, Int.reduceNe, Int.reduceToNat, ↓reduceIte, reduceCtorEq, implies_true, forall_const, eq_self, ne_eq, wtAll, Tryz.ntmps4, Tryz.results4, hh_i4]) ?_ | refine HSub_drop2 (by simp only [eq_self, hh_i4]) ?_ | refine HSub_keep_eq (by simp only [vsAll, binA, binLitA, intA, aggA, aggV, boolA, nilA2, isConst, unA, loadA, loadRow, partA, partOk, fieldAddrA, indexAddrA, indexA, fieldA, extractA, lenA, nilCheckA, boxA, boxZ, cellA, cellsA, fillA, okParts, buildSliceA, buildMutA, makeSliceA, partIdx, elemsA, lensA, ifaceA, convA, mmA, pickA, okAll, stAll, opsA, partsA, partsOk, opA, allocA, boxMutA, newCells, okCells, storeObj, appendA, guardV, taA, nM, mapUpA, rangeA, nextA, entryA, lookA, sliceA, sliceM, sliceS, boundsA, opO, okO, copyA, dstOk, nilA, quietOk, nilSliceOp, deferV, panA, resA, argFr, retA.eq_1, retA.eq_2, Nat.reduceAdd, Nat.reduceSub, Nat.reduceMul, Nat.reduceLT, Nat.reduceLeDiff, Nat.reduceEqDiff, Nat.reduceBEq, Int.reduceAdd, Int.reduceSub, Int.reduceMul, Int.reduceNeg, Int.reduceLE, Int.reduceLT, Int.reduceEq, Int.reduceNe, Int.reduceToNat, ↓reduceIte, reduceCtorEq, implies_true, forall_const, eq_self, ne_eq, wtAll, Tryz.ntmps4, Tryz.results4, hh_i4]) ?_)), rfl, false, rfl, iff_of_false (by decide) fun k' => ?_⟩
        have e1 := of_decide_eq_true hc
        simp only [List.cons.injEq, and_true] at e1
        have e2 : d.be.getD k (0, 0) = p := Prod.ext e1.1 e1.2
        rw [← hpi] at e2
        rw [List.getD_eq_getElem?_getD, List.getD_eq_getElem?_getD, List.getElem?_eq_getElem (by ((try clear hh_i4); omega)), List.getElem?_eq_getElem hil] at e2
        exact (List.pairwise_iff_getElem.1 k'.q k i (by ((try clear hh_i4); omega)) hil hkl) e2
       ·have hne2 : ¬ d.be.getD k (0, 0) = p := fun e => by
         rw [e] at hc
         simp at hc
        simp only [vsAll, binA, binLitA, intA, opA, dstOk, nilSliceOp, Nat.reduceLT, Nat.reduceEqDiff, ↓reduceIte, eq_self]
        refine ⟨by simp only [InR_i64]; ((try clear hh_i4); omega), loop_next (k + 1) ⟨hkl, fun q hq => ?_⟩ (by ((try clear hh_i4); omega)) ?_ HSub_rfl⟩
        ·by_cases e : q = k
         ·rw [e]; exact hne2
         ·exact hne q (by ((try clear hh_i4); omega))
        ·simp only [vsAll, Nat.reduceEqDiff, ↓reduceIte, eq_self, Int.natCast_add, Int.natCast_one]
      ·have ek : k = i := by ((try clear hh_i4); omega)
       have hp' : PrOk d (i + 1) := ⟨fun q hq => by
        by_cases e : q = i
        ·rw [e, hpi]; ((try clear hh_i4); omega)
        ·exact hp.p q (by ((try clear hh_i4); omega)), fun q r hq hr => by
        by_cases e : q = i
        ·rw [e, hpi]; exact hne r (by ((try clear hh_i4); omega))
        ·exact hp.q q r (by ((try clear hh_i4); omega)) hr⟩
       simp only [vsAll, binA, binLitA, intA, opA, dstOk, nilSliceOp, Nat.reduceLT, Nat.reduceEqDiff, ↓reduceIte, eq_self]
       refine ⟨by simp only [InR_i64]; ((try clear hh_i4); omega), loop_next (i + 1) ⟨hil, hp'⟩ (by ((try clear hh_i4); omega)) ?_ ?_⟩
       ·simp only [vsAll, Nat.reduceEqDiff, ↓reduceIte, eq_self, Int.natCast_add, Int.natCast_one]
       ·(repeat (first | exact HSub_rfl | refine HSub_put_eq (by simp only [vsAll, binA, binLitA, intA, aggA, aggV, boolA, nilA2, isConst, unA, loadA, loadRow, partA, partOk, fieldAddrA, indexAddrA, indexA, fieldA, extractA, lenA, nilCheckA, boxA, boxZ, cellA, cellsA, fillA, okParts, buildSliceA, buildMutA, makeSliceA, partIdx, elemsA, lensA, ifaceA, convA, mmA, pickA, okAll, stAll, opsA, partsA, partsOk, opA, allocA, boxMutA, newCells, okCells, storeObj, appendA, guardV, taA, nM, mapUpA, rangeA, nextA, entryA, lookA, sliceA, sliceM, sliceS, boundsA, opO, okO, copyA, dstOk, nilA, quietOk, nilSliceOp, deferV, panA, resA, argFr, retA.eq_1, retA.eq_2, Nat.reduceAdd, Nat.reduceSub, Nat.reduceMul, Nat.reduceLT, Nat.reduceLeDiff, Nat.reduceEqDiff, Nat.reduceBEq, Int.reduceAdd, Int.reduceSub, Int.reduceMul, Int.reduceNeg, Int.reduceLE, Int.reduceLT, Int.reduceEq, Int.reduceNe, Int.reduceToNat, ↓reduceIte, reduceCtorEq, implies_true, forall_const, eq_self, ne_eq, wtAll, Tryz.ntmps4, Tryz.results4, hh_i4]) ?_ | refine HSub_drop2 (by simp only [eq_self, hh_i4]) ?_ | refine HSub_keep_eq (by simp only [vsAll, binA, binLitA, intA, aggA, aggV, boolA, nilA2, isConst, unA, loadA, loadRow, partA, partOk, fieldAddrA, indexAddrA, indexA, fieldA, extractA, lenA, nilCheckA, boxA, boxZ, cellA, cellsA, fillA, okParts, buildSliceA, buildMutA, makeSliceA, partIdx, elemsA, lensA, ifaceA, convA, mmA, pickA, okAll, stAll, opsA, partsA, partsOk, opA, allocA, boxMutA, newCells, okCells, storeObj, appendA, guardV, taA, nM, mapUpA, rangeA, nextA, entryA, lookA, sliceA, sliceM, sliceS, boundsA, opO, okO, copyA, dstOk, nilA, quietOk, nilSliceOp, deferV, panA, resA, argFr, retA.eq_1, retA.eq_2, Nat.reduceAdd, Nat.reduceSub, Nat.reduceMul, Nat.reduceLT, Nat.reduceLeDiff, Nat.reduceEqDiff, Nat.reduceBEq, Int.reduceAdd, Int.reduceSub, Int.reduceMul, Int.reduceNeg, Int.reduceLE, Int.reduceLT, Int.reduceEq, Int.reduceNe, Int.reduceToNat, ↓reduceIte, reduceCtorEq, implies_true, forall_const, eq_self, ne_eq, wtAll, Tryz.ntmps4, Tryz.results4, hh_i4]) ?_))
   ·have ei : i = d.be.length := by omega
    subst ei
    simp only [vsAll, opA, dstOk, nilSliceOp, Nat.reduceLT, ↓reduceIte, eq_self]
    refine vs_loop (σ := Nat) (fun i => i ≤ d.lim.length ∧ LmOk d i) (fun i => [(1, dptr d), (6, i64 i)]) (fun _ => H) (fun i => d.lim.length - i) 0 ⟨Nat.zero_le _, ⟨fun q hq => absurd hq (Nat.not_lt_zero q), fun q hq => absurd hq (Nat.not_lt_zero q)⟩⟩ ?_ HSub_rfl fun i hi => ?_
    ·simp only [vsAll, Nat.reduceEqDiff, ↓reduceIte, eq_self, Int.natCast_zero]
    ·obtain ⟨hi, hl⟩ := hi
     simp only [vsAll, binA, binLitA, intA, loadA, loadRow, partA, partOk, fieldAddrA, lenA, opA, dstOk, Nat.reduceLT, Nat.reduceEqDiff, ↓reduceIte, eq_self, wtAll]
     refine condD (fun hd2 => ?_) (fun hd2 => ?_)
     ·have hil : i < d.lim.length := by omega
      simp only [vsAll, loadA, loadRow, partA, partOk, fieldAddrA, indexAddrA, cellA, opA, allocA, newCells, okCells, storeObj, dstOk, Nat.reduceAdd, Nat.reduceLT, Nat.reduceEqDiff, ↓reduceIte, eq_self, wtAll, prF_at]
      refine ⟨⟨by omega, by omega⟩, by omega, ?_⟩
      intro i7 hh_i7; (try simp only [Hp.set_none, ite_none] at hh_i7)
      refine vs_draw2 [0, 0, 0, 0, 0, 0, 0, 0, 0, 0, 0, 0, 0, 0, 0, 0, 0, 0, 0, 0, 0, 0, 0, 0, 0, 0, 0, 0, 0, 0, 0, 0, 0, 0, 0, 0, 0, 0, 0, 0, 0, 0, 0] [] [0, 1, 2, 3, 4, 5, 6, 7, 8, 9, 10, 11, 12, 13, 14, 15, 16, 17, 18, 19, 20, 21, 22, 23, 24, 25, 26, 27, 28, 29, 30, 31, 32, 33, 34, 35, 36, 37, 38, 39, 40, 41, 42] (by decide +kernel) ?_
      simp only [vsAll, loadA, loadRow, partA, partOk, fieldAddrA, indexAddrA, opA, dstOk, Nat.reduceLT, Nat.reduceEqDiff, ↓reduceIte, eq_self, wtAll, intF_at]
      refine ⟨⟨by ((try clear hh_i7); omega), by ((try clear hh_i7); omega)⟩, hil, qcall _ ⟨by simp only [vsAll, opA], by simp only [vsAll, okAll, opsA, opA, ↓reduceIte, eq_self], din_tri _ _ _ _⟩ ?_⟩
      simp only [vsAll, unA, loadA, loadRow, partA, partOk, opA, guardV, dstOk, Nat.reduceLT, Nat.reduceEqDiff, ↓reduceIte, implies_true, eq_self, wtAll]
      refine qgcall (i64 (nbL d.be (i : Nat)).length) (fun g => ⟨by simp only [vsAll, opA], by simp only [vsAll, okAll, opsA, opA, Nat.reduceEqDiff, ↓reduceIte, eq_self, g], beside_tri d _ _ h2⟩) ?_
      have hbo := hl
      generalize hbi : d.bl.getD i (0, 0) = b at *
      generalize hli : d.lim.getD i 0 = L at *
      simp only [vsAll, binA, binLitA, intA, loadA, loadRow, partA, partOk, fieldAddrA, indexAddrA, pickA, opA, guardV, dstOk, Nat.reduceLT, Nat.reduceEqDiff, ↓reduceIte, implies_true, eq_self, wtAll, intF_at, hli]
      refine ⟨fun h => ⟨h, h, by ((try clear hh_i7); omega), by ((try clear hh_i7); omega)⟩, fun h => ⟨h, hil⟩, fun h => ⟨h, h, ?_⟩, ?_⟩
      ·simp only [Bool.or_eq_false_iff, Bool.not_eq_false', Bool.and_eq_true, decide_eq_true_eq, decide_eq_false_iff_not] at h
       simp only [InR_i64]
       ((try clear hh_i7); omega)
      refine condV (fun hc => ?_) (fun hc => ?_)
      ·simp only [vsAll, opA, dstOk, nilSliceOp, resA, retA.eq_1, Nat.reduceLT, ↓reduceIte, eq_self, Tryz.results4]
       refine ⟨H, by (repeat (first | exact HSub_rfl | refine HSub_put_eq (by simp only [vsAll, binA, binLitA, intA, aggA, aggV, boolA, nilA2, isConst, unA, loadA, loadRow, partA, partOk, fieldAddrA, indexAddrA, indexA, fieldA, extractA, lenA, nilCheckA, boxA, boxZ, cellA, cellsA, fillA, okParts, buildSliceA, buildMutA, makeSliceA, partIdx, elemsA, lensA, ifaceA, convA, mmA, pickA, okAll, stAll, opsA, partsA, partsOk, opA, allocA, boxMutA, newCells, okCells, storeObj, appendA, guardV, taA, nM, mapUpA, rangeA, nextA, entryA, lookA, sliceA, sliceM, sliceS, boundsA, opO, okO, copyA, dstOk, nilA, quietOk, nilSliceOp, deferV, panA, resA, argFr, retA.eq_1, retA.eq_2, Nat.reduceAdd, Nat.reduceSub, Nat.reduceMul, Nat.reduceLT, Nat.reduceLeDiff, Nat.reduceEqDiff, Nat.reduceBEq, Int.reduceAdd, Int.reduceSub, Int.reduceMul, Int.reduceNeg, Int.reduceLE, Int.reduceLT, Int.reduceEq, Int.reduceNe, Int.reduceToNat, ↓reduceIte, reduceCtorEq, implies_true, forall_const, eq_self, ne_eq, wtAll, Tryz.ntmps4, Tryz.results4, hh_i7]) ?_ | refine HSub_drop2 (by simp only [eq_self, hh_i7]) ?_ | refine HSub_keep_eq (by simp only [vsAll, binA, binLitA, intA, aggA, aggV, boolA, nilA2, isConst, unA, loadA, loadRow, partA, partOk, fieldAddrA, indexAddrA, indexA, fieldA, extractA, lenA, nilCheckA, boxA, boxZ, cellA, cellsA, fillA, okParts, buildSliceA, buildMutA, makeSliceA, partIdx, elemsA, lensA, ifaceA, convA, mmA, pickA, okAll, stAll, opsA, partsA, partsOk, opA, allocA, boxMutA, newCells, okCells, storeObj, appendA, guardV, taA, nM, mapUpA, rangeA, nextA, entryA, lookA, sliceA, sliceM, sliceS, boundsA, opO, okO, copyA, dstOk, nilA, quietOk, nilSliceOp, deferV, panA, resA, argFr, retA.eq_1, retA.eq_2, Nat.reduceAdd, Nat.reduceSub, Nat.reduceMul, Nat.reduceLT, Nat.reduceLeDiff, Nat.reduceEqDiff, Nat.reduceBEq, Int.reduceAdd, Int.reduceSub, Int.reduceMul, Int.reduceNeg, Int.reduceLE, Int.reduceLT, Int.reduceEq, Int.reduceNe, Int.reduceToNat, ↓reduceIte, reduceCtorEq, implies_true, forall_const, eq_self, ne_eq, wtAll, Tryz.ntmps4, Tryz.results4, hh_i7]) ?_)), rfl, false, rfl, iff_of_false (by decide) fun k => ?_⟩
       have e1 := k.l i hil
       have e2 := k.b i hil
       rw [hli] at e1
       rw [hbi] at e2
       rw [decide_eq_true (by ((try clear hh_i7); omega)), decide_eq_true (by ((try clear hh_i7); omega)), decide_eq_false (by ((try clear hh_i7); omega)), decide_eq_false (by ((try clear hh_i7); omega)), decide_eq_false (by ((try clear hh_i7); omega)), decide_eq_false (by ((try clear hh_i7); omega)), decide_eq_false (by ((try clear hh_i7); omega))] at hc
       simp at hc
      ·simp only [Bool.or_eq_false_iff, Bool.not_eq_false', Bool.and_eq_true, decide_eq_true_eq, decide_eq_false_iff_not] at hc
       obtain ⟨⟨⟨⟨⟨⟨q1, q2⟩, q3⟩, q4⟩, q5⟩, q6⟩, q7⟩ := hc
       have hl' : LmOk d (i + 1) := ⟨fun q hq => by
        by_cases e : q = i
        ·rw [e, hli]; ((try clear hh_i7); omega)
        ·exact hbo.l q (by ((try clear hh_i7); omega)), fun q hq => by
        by_cases e : q = i
        ·rw [e, hbi]; ((try clear hh_i7); omega)
        ·exact hbo.b q (by ((try clear hh_i7); omega))⟩
       simp only [vsAll, binA, binLitA, intA, opA, dstOk, nilSliceOp, Nat.reduceLT, Nat.reduceEqDiff, ↓reduceIte, eq_self]
       refine ⟨by simp only [InR_i64]; ((try clear hh_i7); omega), loop_next (i + 1) ⟨hil, hl'⟩ (by ((try clear hh_i7); omega)) ?_ ?_⟩
       ·simp only [vsAll, Nat.reduceEqDiff, ↓reduceIte, eq_self, Int.natCast_add, Int.natCast_one]
       ·(repeat (first | exact HSub_rfl | refine HSub_put_eq (by simp only [vsAll, binA, binLitA, intA, aggA, aggV, boolA, nilA2, isConst, unA, loadA, loadRow, partA, partOk, fieldAddrA, indexAddrA, indexA, fieldA, extractA, lenA, nilCheckA, boxA, boxZ, cellA, cellsA, fillA, okParts, buildSliceA, buildMutA, makeSliceA, partIdx, elemsA, lensA, ifaceA, convA, mmA, pickA, okAll, stAll, opsA, partsA, partsOk, opA, allocA, boxMutA, newCells, okCells, storeObj, appendA, guardV, taA, nM, mapUpA, rangeA, nextA, entryA, lookA, sliceA, sliceM, sliceS, boundsA, opO, okO, copyA, dstOk, nilA, quietOk, nilSliceOp, deferV, panA, resA, argFr, retA.eq_1, retA.eq_2, Nat.reduceAdd, Nat.reduceSub, Nat.reduceMul, Nat.reduceLT, Nat.reduceLeDiff, Nat.reduceEqDiff, Nat.reduceBEq, Int.reduceAdd, Int.reduceSub, Int.reduceMul, Int.reduceNeg, Int.reduceLE, Int.reduceLT, Int.reduceEq, Int.reduceNe, Int.reduceToNat, ↓reduceIte, reduceCtorEq, implies_true, forall_const, eq_self, ne_eq, wtAll, Tryz.ntmps4, Tryz.results4, hh_i7]) ?_ | refine HSub_drop2 (by simp only [eq_self, hh_i7]) ?_ | refine HSub_keep_eq (by simp only [vsAll, binA, binLitA, intA, aggA, aggV, boolA, nilA2, isConst, unA, loadA, loadRow, partA, partOk, fieldAddrA, indexAddrA, indexA, fieldA, extractA, lenA, nilCheckA, boxA, boxZ, cellA, cellsA, fillA, okParts, buildSliceA, buildMutA, makeSliceA, partIdx, elemsA, lensA, ifaceA, convA, mmA, pickA, okAll, stAll, opsA, partsA, partsOk, opA, allocA, boxMutA, newCells, okCells, storeObj, appendA, guardV, taA, nM, mapUpA, rangeA, nextA, entryA, lookA, sliceA, sliceM, sliceS, boundsA, opO, okO, copyA, dstOk, nilA, quietOk, nilSliceOp, deferV, panA, resA, argFr, retA.eq_1, retA.eq_2, Nat.reduceAdd, Nat.reduceSub, Nat.reduceMul, Nat.reduceLT, Nat.reduceLeDiff, Nat.reduceEqDiff, Nat.reduceBEq, Int.reduceAdd, Int.reduceSub, Int.reduceMul, Int.reduceNeg, Int.reduceLE, Int.reduceLT, Int.reduceEq, Int.reduceNe, Int.reduceToNat, ↓reduceIte, reduceCtorEq, implies_true, forall_const, eq_self, ne_eq, wtAll, Tryz.ntmps4, Tryz.results4, hh_i7]) ?_))
     ·have ei : i = d.lim.length := by omega
      subst ei
      simp only [vsAll, opA, dstOk, nilSliceOp, resA, retA.eq_1, Nat.reduceLT, ↓reduceIte, eq_self, Tryz.results4]
      refine ⟨H, HSub_rfl, rfl, true, rfl, iff_of_true rfl ⟨by omega, by omega, hbl, hp.p, h2, ?_, hl.l, hl.b⟩⟩
      refine List.pairwise_iff_getElem.2 fun r q hr hq hrq => ?_
      have := hp.q q r hq hrq
      rw [List.getD_eq_getElem?_getD, List.getD_eq_getElem?_getD, List.getElem?_eq_getElem hr, List.getElem?_eq_getElem hq] at this
      exact this
open Classical in
theorem drive_call (d : Dr) (H : Hp) (h1 : d.lim.length ≤ 40) (h2 : d.be.length ≤ 40) (h3 : d.bl.length ≤ 40) : PTri Tryz.prog (fnA 4) [d.av] H (boo (decide (OkD d))) := (drive_tri d H h1 h2 h3).mono fun r H' => by
 rintro ⟨rfl, v, rfl, hv⟩
 refine ⟨?_, rfl⟩
 have : v = decide (OkD d) := by
  cases v with
  | true => rw [decide_eq_true (hv.1 rfl)]
  | false => rw [decide_eq_false fun k => by cases hv.2 k]
 rw [this]
end Go.Proofs.YtclkjifgipcamaaGreat
end
section
set_option linter.unusedVariables false
set_option linter.unusedSimpArgs false
namespace Go.V
set_option linter.unusedSectionVars false
variable [Inhabited GivT]
/-- What one cell holds. -/
inductive CK where
 | int (k : IntKind)
 | bool
 | sl (ks : List CK)

/-- The cells of a type. -/
def cellsT (P : Program) : Nat → TypeId → Option (List CK)
 | 0, _ => none
 | d + 1, t => match P.underlying t with
   | some .bool => some [.bool]
   | some (.int k) => some [.int k]
   | some (.slice e) => match cellsT P d e with
     | some ks => if P.cellsOf e = ks.length ∧ 0 < ks.length then some [.sl ks] else none
     | none => none
   | some (.array n e) => match cellsT P d e with
     | some ks => if P.cellsOf e = ks.length ∧ P.cellsOf t = n * ks.length then some ((List.replicate n ks).flatten) else none
     | none => none
   | some (.struct fs) => match fs.toList.foldl (fun acc f => match acc with
     | some ks => match cellsT P d f.type with
       | some l => if f.offset = ks.length ∧ P.cellsOf f.type = l.length then some (ks ++ l) else none
       | none => none
     | none => none) (some []) with
     | some ks => if P.cellsOf t = ks.length then some ks else none
     | none => none
   | _ => none

/-- Such an abstract value. -/
inductive CKA : CK → AV → Prop
 | int {k : IntKind} {z : Int} (h : (Lit.int k z).wf = true) : CKA (.int k) (.lit (.int k z))
 | bool {b : Bool} : CKA .bool (.lit (.bool b))
 | sl {ks : List CK} {n : Nat} {f : Nat → List AV} (hn : n ≤ maxLen) (hl : ∀ i, i < n → (f i).length = ks.length) (h : ∀ i j k, i < n → ks[j]? = some k → CKA k ((f i).getD j .any)) : CKA (.sl ks) (.rsl n ks.length f)

def CellIs (W : World) (k : CK) (v : Value) : Prop := ∃ av, CKA k av ∧ VRel (st0 W) av v
def CellsOk (W : World) (ks : List CK) (cs : List Value) : Prop := cs.length = ks.length ∧ ∀ (i : Nat) (k : CK) (v : Value), ks[i]? = some k → cs[i]? = some v → CellIs W k v

theorem CellsOk.append {W : World} {ks ls : List CK} {cs ds : List Value} (h : CellsOk W ks cs) (h' : CellsOk W ls ds) : CellsOk W (ks ++ ls) (cs ++ ds) := by
 refine ⟨by simp [h.1, h'.1], fun i k v hk hv => ?_⟩
 by_cases hi : i < ks.length
 ·rw [List.getElem?_append_left hi] at hk
  rw [List.getElem?_append_left (by rw [h.1]; exact hi)] at hv
  exact h.2 i k v hk hv
 ·rw [List.getElem?_append_right (by omega)] at hk
  rw [List.getElem?_append_right (by rw [h.1]; omega), h.1] at hv
  exact h'.2 _ k v hk hv

theorem trod_cells {H : Type} {enc : TypeId × Value → H} {P : Program} {W : World} {held : Bool} {sp : Nat → Bool} :
  ∀ (d fuel : Nat) (t : TypeId) (cs : List Value) (x : DataW H × List MemPlace) (ks : List CK), cellsT P d t = some ks → DataW.trod enc P W 0 sp held fuel t cs = some x → CellsOk W ks cs := by
 intro d
 induction d with
 | zero => intro fuel t cs x ks hg; cases hg
 | succ d ih =>
   intro fuel t cs x ks hg h
   cases fuel with
   | zero => cases h
   | succ fuel =>
     unfold cellsT at hg
     unfold DataW.trod at h
     cases hu : P.underlying t with
     | none => rw [hu] at hg; cases hg
     | some td =>
       rw [hu] at hg h
       cases td <;> simp only at hg <;> try (cases hg; done)
       case bool =>
        cases hg
        split at h <;> simp_all
        rename_i b
        exact ⟨rfl, fun i k v hk hv => by cases i <;> simp at hk hv; subst hk hv; exact ⟨_, .bool, .lit _⟩⟩
       case int k =>
        cases hg
        split at h <;> simp_all
        rename_i n hh
        exact ⟨rfl, fun i k v hk hv => by cases i <;> simp at hk hv; subst hk hv; exact ⟨_, .int h.1.2, .lit _⟩⟩
       case array n e =>
        cases hke : cellsT P d e with
        | none => rw [hke] at hg; cases hg
        | some lk =>
          rw [hke] at hg
          simp only at hg
          by_cases hc : P.cellsOf e = lk.length ∧ P.cellsOf t = n * lk.length
          case neg => rw [if_neg hc] at hg; cases hg
          rw [if_pos hc] at hg
          cases hg
          split at h <;> try (simp_all; done)
          case _ n' e' heq =>
           simp only [Option.some.injEq, TypeDesc.array.injEq] at heq
           obtain ⟨rfl, rfl⟩ := heq
           split at h
           case isFalse hl => cases h
           case isTrue hl =>
            rw [Option.map_eq_some_iff] at h
            obtain ⟨ys, hy, rfl⟩ := h
            have key : ∀ (c : List Value), (∀ i, i < n → ∃ y, DataW.trod enc P W 0 sp held fuel e ((c.drop (i * P.cellsOf e)).take (P.cellsOf e)) = some y) → ∀ m, m ≤ n → CellsOk W (List.replicate m lk).flatten (c.take (m * lk.length)) := by
             intro c hcy m
             induction m with
             | zero => intro _; exact ⟨by simp, fun i k v hk => by simp at hk⟩
             | succ m ihm =>
               intro hm
               have h0 := ihm (by omega)
               obtain ⟨y, h2⟩ := hcy m (by omega)
               have h3 := ih fuel e _ y lk hke h2
               rw [hc.1] at h3
               have := h0.append h3
               rw [List.replicate_succ', List.flatten_append, Nat.succ_mul, List.take_add]
               simpa using this
            have := key _ (fun i hi => by
             obtain ⟨y, _, h2⟩ := (mapM_get _ _ hy).2 i i (by simp [hi])
             exact ⟨y, h2⟩) n (Nat.le_refl _)
            rw [List.take_of_length_le (by rw [hl, hc.2]; exact Nat.le_refl _)] at this
            exact this
       case slice e =>
        cases hke : cellsT P d e with
        | none => rw [hke] at hg; cases hg
        | some lk =>
          rw [hke] at hg
          simp only at hg
          by_cases hc : P.cellsOf e = lk.length ∧ 0 < lk.length
          case neg => rw [if_neg hc] at hg; cases hg
          rw [if_pos hc] at hg
          cases hg
          obtain ⟨hsz, hpos⟩ := hc
          split at h <;> try (simp_all; done)
          ·rename_i heq
           refine ⟨rfl, fun i k v hk hv => ?_⟩
           cases i <;> simp at hk hv
           subst hk hv
           exact ⟨.rsl 0 lk.length fun _ => [], .sl (Nat.zero_le _) (fun i hi => by omega) (fun i j k hi => by omega), .rsl0⟩
          ·rename_i e' a len cap heq
           simp only [Option.some.injEq, TypeDesc.slice.injEq] at heq
           subst heq
           simp only at h
           split at h
           case isFalse hl => cases h
           case isTrue hl =>
            rw [Option.bind_eq_some_iff] at h
            obtain ⟨es, he, -⟩ := h
            let g : Nat → List Value := fun i => match W.cells? 0 (a.add (i * P.cellsOf e)) (P.cellsOf e) with
             | some c => c
             | none => []
            have hel : ∀ i, i < len → W.cells? 0 (a.add (i * P.cellsOf e)) (P.cellsOf e) = some (g i) ∧ CellsOk W lk (g i) := by
             intro i hi
             obtain ⟨y, _, hy⟩ := (mapM_get _ _ he).2 i i (by simp [hi])
             rw [Option.bind_eq_some_iff] at hy
             obtain ⟨c, h1, h2⟩ := hy
             have : g i = c := by simp only [g, h1]
             rw [this]
             exact ⟨h1, ih fuel e c y lk hke h2⟩
            -- the abstract cells
            have hch : ∀ i j, ∃ av, i < len → j < lk.length → ∃ k v, lk[j]? = some k ∧ (g i)[j]? = some v ∧ CKA k av ∧ VRel (st0 W) av v := by
             intro i j
             by_cases hi : i < len
             ·by_cases hj : j < lk.length
              ·obtain ⟨l1, l2⟩ := (hel i hi).2
               obtain ⟨av, c1, c2⟩ := l2 j lk[j] (g i)[j] (List.getElem?_eq_getElem hj) (List.getElem?_eq_getElem (by omega))
               exact ⟨av, fun _ _ => ⟨_, _, List.getElem?_eq_getElem hj, List.getElem?_eq_getElem (by omega), c1, c2⟩⟩
              ·exact ⟨.any, fun _ x => absurd x hj⟩
             ·exact ⟨.any, fun x => absurd x hi⟩
            have hf := fun i => Classical.axiomOfChoice (hch i)
            obtain ⟨F, hF⟩ := Classical.axiomOfChoice hf
            have hget : ∀ i j, j < lk.length → ((List.range lk.length).map (F i)).getD j .any = F i j := fun i j hj => by
             rw [List.getD_eq_getElem?_getD, List.getElem?_map, List.getElem?_range hj]; rfl
            refine ⟨rfl, fun i k v hk hv => ?_⟩
            cases i <;> simp at hk hv
            subst hk hv
            refine ⟨.rsl len lk.length fun i => (List.range lk.length).map (F i), .sl (Nat.le_trans hl.2.1 hl.2.2) (fun i hi => by simp) (fun i j k hi hk => ?_), ?_⟩
            ·have hj := (List.getElem?_eq_some_iff.1 hk).1
             rw [hget i j hj]
             obtain ⟨k', v, h1, h2, h3, h4⟩ := hF i j hi hj
             rw [hk] at h1; cases h1
             exact h3
            by_cases h0 : len = 0
            ·subst h0; exact .rsl0
            have hcell : ∀ i j, i < len → j < lk.length → ∃ u, (g i)[j]? = some u ∧ W.cell? ((a.add (i * P.cellsOf e)).add j) = some u := by
             intro i j hi hj
             have h1 := (hel i hi).1
             unfold World.cells? at h1
             rw [if_pos (Nat.zero_le _)] at h1
             exact (mapM_get _ _ h1).2 j j (by simp [hsz, hj])
            obtain ⟨b, off, spot⟩ := a
            obtain ⟨u0, _, hc0⟩ := hcell 0 0 (by omega) hpos
            rw [show ((⟨b, off, spot⟩ : Addr).add (0 * P.cellsOf e)).add 0 = ⟨b, off, spot⟩ from by simp [Addr.add]] at hc0
            unfold World.cell? at hc0
            split at hc0
            case h_2 => cases hc0
            case h_1 c ct fz hb =>
             have hspot : spot = none := by
              cases spot with
              | none => rfl
              | some s => simp at hc0
             subst hspot
             have hadd : ∀ i j, (((⟨b, off, none⟩ : Addr).add (i * P.cellsOf e)).add j) = ⟨b, off + i * P.cellsOf e + j, none⟩ := fun i j => by rw [addr_add, addr_add]
             have hall : ∀ i j, i < len → j < lk.length → ∃ u, (g i)[j]? = some u ∧ c[off + i * lk.length + j]? = some u := by
              intro i j hi hj
              obtain ⟨u, h1, h2⟩ := hcell i j hi hj
              rw [hadd] at h2
              unfold World.cell? at h2
              simp only at hb
              rw [show W.heap[(⟨b, off + i * P.cellsOf e + j, none⟩ : Addr).block]? = some (.cells c ct fz) from hb] at h2
              simp only [Option.isSome_none, Bool.false_eq_true, if_false, hsz] at h2
              exact ⟨u, h1, h2⟩
             refine .rsl (c := c) (e := ct) (fz := fz) ?_ hb ?_ (fun i hi => by simp) (fun i j hi hj => ?_) hl.2.1
             ·exact (Array.getElem?_eq_some_iff.1 hb).1
             ·obtain ⟨u, _, h2⟩ := hall (len - 1) (lk.length - 1) (by omega) (by omega)
              have := (Array.getElem?_eq_some_iff.1 h2).1
              have e1 : len * lk.length = (len - 1) * lk.length + lk.length := by
               obtain ⟨q, rfl⟩ : ∃ q, len = q + 1 := ⟨len - 1, by omega⟩
               rw [Nat.add_sub_cancel, Nat.succ_mul]
              omega
             ·obtain ⟨u, h1, h2⟩ := hall i j hi hj
              obtain ⟨k', v, q1, q2, q3, q4⟩ := hF i j hi hj
              rw [h1] at q2; cases q2
              rw [hget i j hj, Array.getD_eq_getD_getElem?, h2]
              exact q4
       case struct fs =>
        split at h <;> try (simp_all; done)
        case _ fs' heq =>
         simp only [Option.some.injEq, TypeDesc.struct.injEq] at heq
         subst heq
         split at h
         case isFalse hl => cases h
         case isTrue hl =>
          rw [Option.map_eq_some_iff] at h
          obtain ⟨ys, hy, rfl⟩ := h
          have key : ∀ (c : List Value) (l : List Field) (acc ks : List CK), (∀ f ∈ l, ∃ y, DataW.trod enc P W 0 sp held fuel f.type ((c.drop f.offset).take (P.cellsOf f.type)) = some y) → CellsOk W acc (c.take acc.length) →
            l.foldl (fun acc f => match acc with
             | some ks => match cellsT P d f.type with
               | some l => if f.offset = ks.length ∧ P.cellsOf f.type = l.length then some (ks ++ l) else none
               | none => none
             | none => none) (some acc) = some ks → CellsOk W ks (c.take ks.length) := by
           intro c l
           induction l with
           | nil => intro acc ks _ ha he; simp at he; subst he; exact ha
           | cons f l ih2 =>
             intro acc ks hf ha he
             simp only [List.foldl_cons] at he
             have hnone : ∀ l : List Field, l.foldl (fun acc f => match acc with
              | some ks => match cellsT P d f.type with
                | some l => if f.offset = ks.length ∧ P.cellsOf f.type = l.length then some (ks ++ l) else none
                | none => none
              | none => none) none = (none : Option (List CK)) := by
              intro l; induction l with
              | nil => rfl
              | cons a l ih => simpa using ih
             cases hl2 : cellsT P d f.type with
             | none => rw [hl2] at he; simp only at he; rw [hnone] at he; cases he
             | some lk =>
               rw [hl2] at he
               simp only at he
               by_cases hc : f.offset = acc.length ∧ P.cellsOf f.type = lk.length
               ·rw [if_pos hc] at he
                obtain ⟨y, hy⟩ := hf f (by simp)
                have := ih fuel f.type _ y lk hl2 hy
                rw [hc.1, hc.2] at this
                have hap := ha.append this
                refine ih2 (acc ++ lk) ks (fun g hg => hf g (by simp [hg])) ?_ he
                rw [List.length_append, List.take_add]
                exact hap
               ·rw [if_neg hc, hnone] at he; cases he
          split at hg
          case h_2 => cases hg
          case h_1 ks' he =>
           split at hg
           case isFalse => cases hg
           case isTrue hc =>
            cases hg
            have := key _ fs.toList [] ks (fun f hf => by
             obtain ⟨i, hi⟩ := List.getElem?_of_mem hf
             obtain ⟨y, _, h2⟩ := (mapM_get _ _ hy).2 i f hi
             exact ⟨y, h2⟩) ⟨by simp, fun i k v hk => by simp at hk⟩ he
            rw [List.take_of_length_le (by rw [hl, hc]; exact Nat.le_refl _)] at this
            exact this

end Go.V
end
section
set_option linter.unusedVariables false
set_option linter.unusedSimpArgs false
namespace Go.V
set_option linter.unusedSectionVars false
variable [Inhabited GivT]
open Go.ChangeShapes
theorem AV.Le.rslD {n st : Nat} {f g : Nat → List AV} (h : ∀ i, i < n → (g i).length = st ∧ ∀ j, j < st → AV.Le ((f i).getD j .any) ((g i).getD j .any)) : AV.Le (.rsl n st f) (.rsl n st g) := by
 intro S v hv
 cases hv with
 | rsl0 => exact .rsl0
 | rsl hi hb hsz hf hh hcap => exact .rsl hi hb hsz (fun i hi => (h i hi).1) (fun i j hi hj => (h i hi).2 j hj _ _ (hh i j hi hj)) hcap
theorem AV.Le.aggD {cs ds : List AV} (hl : ds.length = cs.length) (h : ∀ j, j < cs.length → AV.Le (cs.getD j .any) (ds.getD j .any)) : AV.Le (.agg cs) (.agg ds) := by
 intro S v hv
 cases hv with
 | agg hn hh => exact .agg (hn.trans hl.symm) fun k hk => h k (by omega) _ _ (hh k (by omega))

/-- Cells that are told. -/
def Told (ks : List CK) (cs : List AV) : Prop := cs.length = ks.length ∧ ∀ j k, ks[j]? = some k → CKA k (cs.getD j .any)

/-- A struct that is handed in. -/
theorem trod_agg {H : Type} {enc : TypeId × Value → H} {P : Program} {W : World} {held : Bool} {sp : Nat → Bool} {t dd : Nat} {v : Value} {d : DataW H} {ps : List MemPlace} {ks : List CK}
  (hk : cellsT P dd t = some ks) (hn : 2 ≤ ks.length) (h : DataW.Trod enc P W 0 sp held t v d ps) : ∃ cs : List AV, Told ks cs ∧ VRel (st0 W) (.agg cs) v := by
 obtain ⟨fuel, h⟩ := h
 obtain ⟨hl, hz⟩ := trod_cells dd fuel t _ _ ks hk h
 cases v with
 | agg vs =>
   simp only [Value.cells] at hl hz
   have hl2 : vs.size = ks.length := by simpa using hl
   have hch : ∀ j : Nat, ∃ av : AV, ∀ (k : CK) (u : Value), ks[j]? = some k → vs[j]? = some u → CKA k av ∧ VRel (st0 W) av u := fun j => by
    cases hkj : ks[j]? with
    | none => exact ⟨.any, fun k u h => by cases h⟩
    | some k =>
      cases hvj : vs[j]? with
      | none => exact ⟨.any, fun k u _ h => by cases h⟩
      | some u =>
        obtain ⟨av, h1, h2⟩ := hz j k u hkj (by simpa using hvj)
        exact ⟨av, fun k' u' e1 e2 => by cases e1; cases e2; exact ⟨h1, h2⟩⟩
   obtain ⟨F, hF⟩ := Classical.axiomOfChoice hch
   have hget : ∀ j, j < ks.length → ((List.range ks.length).map F).getD j .any = F j := fun j hj => by
    rw [List.getD_eq_getElem?_getD, List.getElem?_map, List.getElem?_range hj]; rfl
   refine ⟨(List.range ks.length).map F, ⟨by simp, fun j k hk => ?_⟩, .agg (by simpa using hl2) fun j hj => ?_⟩
   ·have hj := (List.getElem?_eq_some_iff.1 hk).1
    rw [hget j hj]
    exact (hF j k vs[j] hk (by simp [show j < vs.size by omega])).1
   ·have hj : j < ks.length := by simpa using hj
    rw [hget j hj, Array.getD_eq_getD_getElem?, Array.getElem?_eq_getElem (by omega)]
    exact (hF j ks[j] vs[j] (List.getElem?_eq_getElem hj) (by simp [show j < vs.size by omega])).2
 | _ => simp [Value.cells] at hl; omega
/-- A slice of what can be told. -/
theorem told_slice {α : Type} {ks : List CK} (en : α → List AV) (d0 : α) (hd : ∀ cs, Told ks cs → ∃ x : α, (en x).length = ks.length ∧ ∀ j, j < ks.length → AV.Le (cs.getD j .any) ((en x).getD j .any)) {av : AV} (h : CKA (.sl ks) av) :
  ∃ l : List α, l.length ≤ maxLen ∧ AV.Le av (.rsl l.length ks.length fun i => en (l.getD i d0)) := by
 cases h with
 | @sl _ n f hn hl hh =>
   have hch : ∀ i, ∃ x : α, i < n → (en x).length = ks.length ∧ ∀ j, j < ks.length → AV.Le ((f i).getD j .any) ((en x).getD j .any) := fun i => by
    by_cases hi : i < n
    ·obtain ⟨x, h1⟩ := hd (f i) ⟨hl i hi, fun j k hk => hh i j k hi hk⟩
     exact ⟨x, fun _ => h1⟩
    ·exact ⟨d0, fun x => absurd x hi⟩
   obtain ⟨F, hF⟩ := Classical.axiomOfChoice hch
   refine ⟨(List.range n).map F, by simpa using hn, ?_⟩
   rw [List.length_map, List.length_range]
   refine AV.Le.rslD fun i hi => ?_
   have e : ((List.range n).map F).getD i d0 = F i := by
    rw [List.getD_eq_getElem?_getD, List.getElem?_map, List.getElem?_range hi]; rfl
   rw [e]
   exact hF i hi
theorem told_int {cs : List AV} {k : IntKind} (j : Nat) {ks : List CK} (h : Told ks cs) (hk : ks[j]? = some (.int k)) : ∃ z : Int, cs.getD j .any = .lit (.int k z) ∧ (Lit.int k z).wf = true := by
 have := h.2 j _ hk
 generalize cs.getD j .any = x at *
 cases this with
 | int hw => exact ⟨_, rfl, hw⟩
end Go.V
end
section
set_option linter.unusedVariables false
set_option linter.unusedSimpArgs false
set_option maxHeartbeats 8000000
set_option maxRecDepth 100000
namespace Go.Proofs.YtclkjifgipcamaaGreat
open Go.V
def d13 : Dr := ⟨[3, 3, 3], [(0, 1), (1, 2)], [(4, 4), (2, 2), (1, 2)]⟩
theorem ok13 : OkD d13 where
 n1 := by decide
 n6 := by decide
 nb := by decide
 p := by decide
 m := by decide
 q := by decide
 l := by decide
 b := by decide
theorem allB13 : allB d13 = [[4, 2, 1], [4, 2, 2]] := by decide +kernel
def u1 : Nat → Int := upZ (upZ (fun _ => 0) 0 1) 1 1
def u2 : Nat → Int := upZ u1 2 1
theorem run1 : d13.dv.Run (bOf [4, 2, 1]) u1 := .step (.step .start (by decide) (by decide +kernel)) (by decide) (by decide +kernel)
theorem still1 : d13.dv.Still (bOf [4, 2, 1]) u1 := by unfold Dv.Still; decide +kernel
theorem run2 : d13.dv.Run (bOf [4, 2, 2]) u2 := .step (.step (.step .start (by decide) (by decide +kernel)) (by decide) (by decide +kernel)) (by decide) (by decide +kernel)
theorem still2 : d13.dv.Still (bOf [4, 2, 2]) u2 := by unfold Dv.Still; decide +kernel
def v13 : Nat → Int := upZ (upZ (upZ (fun _ => 0) 1 1) 0 1) 2 1
theorem run3 : d13.dv.Run (upZ (bOf [2, 2, 2]) 1 1) v13 := .step (.step (.step .start (by decide) (by decide +kernel)) (by decide) (by decide +kernel)) (by decide) (by decide +kernel)
theorem still3 : d13.dv.Still (upZ (bOf [2, 2, 2]) 1 1) v13 := by unfold Dv.Still; decide +kernel
theorem sets13 : SetsOk d13 [3, 7] where
 s := by decide
 l := by decide
 m := fun n => by
   have e1 : opB d13 [4, 2, 1] = 3 := opB_eq ok13 run1 still1
   have e2 : opB d13 [4, 2, 2] = 7 := opB_eq ok13 run2 still2
   rw [allB13]
   simp [e1, e2]
abbrev d13C : List AV := [.rsl 3 1 fun i => [[i64 3], [i64 3], [i64 3]].getD i [], .rsl 2 2 fun i => [[i64 0, i64 1], [i64 1, i64 2]].getD i [], .rsl 3 2 fun i => [[i64 4, i64 4], [i64 2, i64 2], [i64 1, i64 2]].getD i []]
theorem d13_le : AV.Le (.agg d13C) d13.av := AV.Le.aggD rfl fun k hk => by
 match k, hk with
 | 0, _ => exact AV.Le.rsl (fun i hi => by
   match i, hi with
   | 0, _ => rfl
   | 1, _ => rfl
   | 2, _ => rfl)
 | 1, _ => exact AV.Le.rsl (fun i hi => by
   match i, hi with
   | 0, _ => rfl
   | 1, _ => rfl)
 | 2, _ => exact AV.Le.rsl (fun i hi => by
   match i, hi with
   | 0, _ => rfl
   | 1, _ => rfl
   | 2, _ => rfl)
theorem drive13_tri (H : Hp) : PTri Tryz.prog (fnA 21) [] H d13.av := by
 refine ret_leA (v := .agg d13C) ?_ d13_le
 refine Tri.drop ?_
 refine tri_v0 (mset []) Tryz.func21 (by kernel_rfl) rfl (by simp only [List.length_append, List.length_nil, Tryz.ntmps21]; decide) ?_
 simp only [vsAll, cellA, cellsA, okParts, buildSliceA, partIdx, elemsA, lensA, okAll, stAll, opsA, partsA, partsOk, opA, allocA, dstOk, Nat.reduceAdd, Nat.reduceMul, Nat.reduceLT, Nat.reduceLeDiff, Nat.reduceEqDiff, ↓reduceIte, eq_self, wtAll, Tryz.ntmps21]
 intro i0 hh_i0; (try simp only [Hp.set_none, ite_none] at hh_i0)
 refine callK_pure (span_tri _ _ _) ?_
 simp only [vsAll, okAll, stAll, opsA, opA, dstOk, Nat.reduceLT]
 refine callK_pure (span_tri _ _ _) ?_
 simp only [vsAll, okAll, stAll, opsA, opA, dstOk, Nat.reduceLT]
 refine callK_pure (span_tri _ _ _) ?_
 simp only [vsAll, loadA, loadRow, partA, partOk, cellA, cellsA, fillA, okParts, buildSliceA, partIdx, elemsA, lensA, partsA, partsOk, opA, newCells, okCells, storeObj, dstOk, resA, retA.eq_1, Nat.reduceAdd, Nat.reduceMul, Nat.reduceLT, Nat.reduceLeDiff, Nat.reduceEqDiff, ↓reduceIte, reduceCtorEq, eq_self, wtAll, Tryz.results21]
 exact dropR_pure rfl (by (repeat (first | exact HSub_rfl | refine HSub_put_eq (by simp only [vsAll, binA, binLitA, intA, aggA, aggV, boolA, nilA2, isConst, unA, loadA, loadRow, partA, partOk, fieldAddrA, indexAddrA, indexA, fieldA, extractA, lenA, nilCheckA, boxA, boxZ, cellA, cellsA, fillA, okParts, buildSliceA, buildMutA, makeSliceA, partIdx, elemsA, lensA, ifaceA, convA, mmA, pickA, okAll, stAll, opsA, partsA, partsOk, opA, allocA, boxMutA, newCells, okCells, storeObj, appendA, guardV, taA, nM, mapUpA, rangeA, nextA, entryA, lookA, sliceA, sliceM, sliceS, boundsA, opO, okO, copyA, dstOk, nilA, quietOk, nilSliceOp, deferV, panA, resA, argFr, retA.eq_1, retA.eq_2, Nat.reduceAdd, Nat.reduceSub, Nat.reduceMul, Nat.reduceLT, Nat.reduceLeDiff, Nat.reduceEqDiff, Nat.reduceBEq, Int.reduceAdd, Int.reduceSub, Int.reduceMul, Int.reduceNeg, Int.reduceLE, Int.reduceLT, Int.reduceEq, Int.reduceNe, Int.reduceToNat, ↓reduceIte, reduceCtorEq, implies_true, forall_const, eq_self, ne_eq, wtAll, Tryz.ntmps21, Tryz.results21, hh_i0]) ?_ | refine HSub_drop2 (by simp only [eq_self, hh_i0]) ?_ | refine HSub_keep_eq (by simp only [vsAll, binA, binLitA, intA, aggA, aggV, boolA, nilA2, isConst, unA, loadA, loadRow, partA, partOk, fieldAddrA, indexAddrA, indexA, fieldA, extractA, lenA, nilCheckA, boxA, boxZ, cellA, cellsA, fillA, okParts, buildSliceA, buildMutA, makeSliceA, partIdx, elemsA, lensA, ifaceA, convA, mmA, pickA, okAll, stAll, opsA, partsA, partsOk, opA, allocA, boxMutA, newCells, okCells, storeObj, appendA, guardV, taA, nM, mapUpA, rangeA, nextA, entryA, lookA, sliceA, sliceM, sliceS, boundsA, opO, okO, copyA, dstOk, nilA, quietOk, nilSliceOp, deferV, panA, resA, argFr, retA.eq_1, retA.eq_2, Nat.reduceAdd, Nat.reduceSub, Nat.reduceMul, Nat.reduceLT, Nat.reduceLeDiff, Nat.reduceEqDiff, Nat.reduceBEq, Int.reduceAdd, Int.reduceSub, Int.reduceMul, Int.reduceNeg, Int.reduceLE, Int.reduceLT, Int.reduceEq, Int.reduceNe, Int.reduceToNat, ↓reduceIte, reduceCtorEq, implies_true, forall_const, eq_self, ne_eq, wtAll, Tryz.ntmps21, Tryz.results21, hh_i0]) ?_)))
theorem rp0_le (d : Dr) : AV.Le (.agg [intsAV d.lim, prAV d.be, prAV d.bl, .lit (.slice none 0 0)]) (.agg (rpC d [])) := AV.Le.aggD rfl fun k hk => by
 match k, hk with
 | 0, _ => exact .refl _
 | 1, _ => exact .refl _
 | 2, _ => exact .refl _
 | 3, _ => exact AV.Le.nil _ _
theorem okL0 (d : Dr) : OkL d [] := ⟨by decide, fun i hi => absurd hi (Nat.not_lt_zero i)⟩
theorem sets0_tri {d : Dr} (k : OkD d) {M : List Nat} (hM : SetsOk d M) (h0 : 0 < M.length) (H : Hp) : PTri Tryz.prog (fnA 11) [.agg [intsAV d.lim, prAV d.be, prAV d.bl, .lit (.slice none 0 0)]] H (.tuple [intsAV (M.map fun s : Nat => (s : Int)), i64 0]) := by
 have e : caL d [] M = M := by
  show M.filter _ = M
  rw [List.filter_eq_self]
  intro a _; rfl
 have h := sets_tri k (okL0 d) hM (by rw [e]; exact h0) H
 rw [e] at h
 exact Tri.args h rfl fun q hq => by
  match q, hq with
  | 0, _ => exact rp0_le d
theorem chain13 {w : Nat → Int} (h1 : d13.dv.Run (upZ (bOf [2, 2, 2]) 1 1) w) (h2 : d13.dv.Still (upZ (bOf [2, 2, 2]) 1 1) w) : opN w 6 = 7 := by
 have e : w = v13 := funext fun i => Dv.uniq (dv_ok ok13) h1 h2 run3 still3 i
 rw [e]; decide +kernel
theorem alive13_tri (H : Hp) : PTri Tryz.prog (fnA 5) [] H (boo true) := by
 refine tri_v0 (fun _ => false) Tryz.func5 (by kernel_rfl) rfl (by simp only [List.length_append, List.length_nil, Tryz.ntmps5]; decide) ?_
 simp only [vsAll, okAll, stAll, opsA, opA, dstOk, nilSliceOp, Nat.reduceLT, eq_self, Tryz.ntmps5]
 refine callK_pure (drive13_tri _) ?_
 simp only [vsAll, cellsA, fillA, okParts, okAll, stAll, opsA, partsA, partsOk, opA, dstOk, Nat.reduceAdd, Nat.reduceLT, Nat.reduceLeDiff, ↓reduceIte, eq_self, wtAll]
 refine callK_pure (sets0_tri ok13 sets13 (by decide) _) ?_
 simp only [vsAll, extractA, okAll, stAll, opsA, opA, dstOk, nilSliceOp, Nat.reduceAdd, Nat.reduceLT, Nat.reduceEqDiff, ↓reduceIte, eq_self]
 refine callK_pure (drive13_tri _) ?_
 simp only [vsAll, cellA, cellsA, okParts, buildSliceA, partIdx, elemsA, lensA, okAll, stAll, opsA, partsA, partsOk, opA, dstOk, Nat.reduceAdd, Nat.reduceMul, Nat.reduceLT, Nat.reduceLeDiff, Nat.reduceEqDiff, ↓reduceIte, eq_self, wtAll]
 have hl : AV.Le (.rsl 3 1 fun i => [[i64 2], [i64 2], [i64 2]].getD i []) (intsAV [2, 2, 2]) := AV.Le.rsl (fun i hi => by
   match i, hi with
   | 0, _ => rfl
   | 1, _ => rfl
   | 2, _ => rfl)
 refine callK (Tri.args (chain_tri d13 [2, 2, 2] 1 _ ok13 rfl (by decide) (by decide)) rfl fun q hq => ?_) ?_
 ·match q, hq with
  | 0, _ => exact .refl _
  | 1, _ => exact hl
  | 2, _ => exact .refl _
 rintro r H' ⟨rfl, w, hw1, hw2, rfl⟩
 rw [chain13 hw1 hw2]
 simp only [vsAll, extractA, cellA, cellsA, okParts, buildSliceA, partIdx, elemsA, lensA, okAll, stAll, opsA, partsA, partsOk, opA, dstOk, nilSliceOp, Nat.reduceAdd, Nat.reduceMul, Nat.reduceLT, Nat.reduceLeDiff, Nat.reduceEqDiff, ↓reduceIte, eq_self, wtAll]
 have hl2 : AV.Le (.rsl 2 1 fun i => [[i64 3], [i64 7]].getD i []) (intsAV [3, 7]) := AV.Le.rsl (fun i hi => by
   match i, hi with
   | 0, _ => rfl
   | 1, _ => rfl)
 refine callK_pure (Tri.args (ints_tri [3, 7] [3, 7] _ (by decide) (by decide)) rfl fun q hq => ?_) ?_
 ·match q, hq with
  | 0, _ => exact .refl _
  | 1, _ => exact hl2
 simp only [vsAll, binA, binLitA, intA, pickA, opA, guardV, dstOk, nilSliceOp, resA, retA.eq_1, Nat.reduceLT, Nat.reduceEqDiff, ↓reduceIte, implies_true, eq_self, Tryz.results5]
 rfl
end Go.Proofs.YtclkjifgipcamaaGreat
end
section
set_option linter.unusedVariables false
set_option linter.unusedSimpArgs false
set_option maxHeartbeats 4000000
namespace Go.Proofs.YtclkjifgipcamaaGreat
open Go.V
abbrev twL (l : List Int) : List (Int × Int) := l.map fun b => (b, b)
theorem twL_len (l : List Int) : (twL l).length = l.length := List.length_map _
theorem twL_at {l : List Int} {i : Nat} (hi : i < l.length) : (twL l).getD i (0, 0) = (l.getD i 0, l.getD i 0) := by simp [List.getD_eq_getElem?_getD, hi]
def xD (d : Dr) (l : List Int) : Dr := ⟨d.lim, d.be, twL l⟩
theorem xD_ok {d : Dr} (k : OkD d) {l : List Int} (hl : l.length = d.lim.length) (hb : ∀ i, i < l.length → 0 ≤ l.getD i 0 ∧ l.getD i 0 ≤ 12) : OkD (xD d l) where
 n1 := k.n1
 n6 := k.n6
 nb := by show (twL l).length = _; rw [twL_len]; exact hl
 p := k.p
 m := k.m
 q := k.q
 l := k.l
 b := fun i hi => by
   have hi' : i < l.length := by rw [hl]; exact hi
   have := hb i hi'
   show 0 ≤ ((twL l).getD i (0, 0)).1 ∧ ((twL l).getD i (0, 0)).1 ≤ ((twL l).getD i (0, 0)).2 ∧ ((twL l).getD i (0, 0)).2 ≤ 12 ∧ ((twL l).getD i (0, 0)).2 - ((twL l).getD i (0, 0)).1 ≤ 2
   rw [twL_at hi']
   simp only []
   omega
theorem bwL_x {d : Dr} {l : List Int} (hl : l.length = d.lim.length) : ∀ (n i : Nat), i + n = l.length → bwL (xD d l) n (l.take i) = [l]
 | 0, i, h => by
   have : i = l.length := by omega
   rw [this, List.take_length]; rfl
 | n + 1, i, h => by
   have hi : i < l.length := by omega
   have e1 : (l.take i).length = i := by rw [List.length_take]; omega
   have e2 : (xD d l).lo i = l.getD i 0 := by show ((twL l).getD i (0, 0)).1 = _; rw [twL_at hi]
   have e3 : (xD d l).hi i = l.getD i 0 := by show ((twL l).getD i (0, 0)).2 = _; rw [twL_at hi]
   have e4 : (xD d l).cn i = 1 := by unfold Dr.cn; rw [e2, e3]; omega
   rw [bwL, e1, e4]
   have e5 : List.range 1 = [0] := rfl
   rw [e5, List.flatMap_cons, List.flatMap_nil, List.append_nil, e2]
   have e6 : l.take i ++ [l.getD i 0 + ((0 : Nat) : Int)] = l.take (i + 1) := by
    rw [List.take_add_one, List.getElem?_eq_getElem hi, List.getD_eq_getElem?_getD, List.getElem?_eq_getElem hi]
    simp
   rw [e6]
   exact bwL_x hl n (i + 1) (by omega)
theorem allB_x {d : Dr} {l : List Int} (hl : l.length = d.lim.length) : allB (xD d l) = [l] := by
 have := bwL_x (d := d) hl l.length 0 (by omega)
 rw [List.take_zero] at this
 show bwL (xD d l) d.lim.length [] = _
 rw [← hl]; exact this
theorem sets_x {d : Dr} {l : List Int} (hl : l.length = d.lim.length) : SetsOk (xD d l) [opB (xD d l) l] where
 s := by simp
 l := by simp
 m := fun n => by rw [allB_x hl]; simp

def alN (L : List Int) : Nat := L.foldl (fun a x => a ||| 2 ^ x.toNat) 0
theorem fold_bit (i : Nat) : ∀ (L : List Int) (a : Nat), (L.foldl (fun a x => a ||| 2 ^ x.toNat) a).testBit i = (a.testBit i || L.any fun x => decide (x.toNat = i))
 | [], a => by simp
 | x :: L, a => by
   rw [List.foldl_cons, fold_bit i L, Nat.testBit_or, Nat.testBit_two_pow, List.any_cons, Bool.or_assoc]
theorem alN_bit (L : List Int) (i : Nat) : (alN L).testBit i = L.any fun x => decide (x.toNat = i) := by
 unfold alN; rw [fold_bit]; simp
theorem alN_eq {L : List Int} {n : Nat} {u : Nat → Int} (hL : ∀ i, i < L.length → 0 ≤ L.getD i 0 ∧ L.getD i 0 < n) (hu : ∀ i : Nat, u i = (L.count (i : Int) : Nat)) : alN L = opN u n := by
 refine Nat.eq_of_testBit_eq fun i => ?_
 rw [alN_bit, opN_bit, hu i]
 rw [Bool.eq_iff_iff, List.any_eq_true, Bool.and_eq_true, decide_eq_true_eq, decide_eq_true_eq]
 constructor
 ·rintro ⟨x, hx, hxi⟩
  have hxi := of_decide_eq_true hxi
  obtain ⟨q, hq, e⟩ := getD_mem 0 hx
  have := hL q hq
  have hx2 : x = (i : Int) := by omega
  have : 0 < L.count (i : Int) := List.count_pos_iff.2 (hx2 ▸ hx)
  exact ⟨by omega, by omega⟩
 ·rintro ⟨h1, h2⟩
  have h3 : 0 < L.count (i : Int) := by omega
  exact ⟨(i : Int), List.count_pos_iff.1 h3, decide_eq_true (Int.toNat_natCast i)⟩
theorem alN_take {L : List Int} {i : Nat} (hi : i < L.length) : alN (L.take (i + 1)) = alN (L.take i) ||| 2 ^ (L.getD i 0).toNat := by
 unfold alN
 rw [List.take_add_one, List.getElem?_eq_getElem hi, List.foldl_append, List.getD_eq_getElem?_getD, List.getElem?_eq_getElem hi]
 rfl
theorem alN_lt {L : List Int} {n : Nat} (hL : ∀ i, i < L.length → 0 ≤ L.getD i 0 ∧ L.getD i 0 < n) : ∀ i, i ≤ L.length → alN (L.take i) < 2 ^ n
 | 0, _ => by show (0 : Nat) < _; exact Nat.two_pow_pos n
 | i + 1, hi => by
   rw [alN_take (by omega)]
   refine Nat.or_lt_two_pow (alN_lt hL i (by omega)) (Nat.pow_lt_pow_right (by decide) ?_)
   have := hL i (by omega); omega
theorem opN_out {u : Nat → Int} {n : Nat} (h : ∀ i, n ≤ i → u i = 0) : ∀ k, opN u (n + k) = opN u n
 | 0 => rfl
 | k + 1 => by
   show opN u (n + k + 1) = _
   rw [opN, if_neg (by rw [h (n + k) (by omega)]; decide), opN_out h k]
theorem opN_add {u w : Nat → Int} (hu : ∀ i, 0 ≤ u i) (hw : ∀ i, 0 ≤ w i) (n : Nat) : opN (fun i => u i + w i) n = opN u n ||| opN w n := by
 refine Nat.eq_of_testBit_eq fun i => ?_
 rw [Nat.testBit_or, opN_bit, opN_bit, opN_bit]
 have h1 := hu i
 have h2 := hw i
 by_cases h : i < n
 ·by_cases a : 0 < u i
  ·have : 0 < u i + w i := by omega
   simp [h, a, this]
  ·by_cases b : 0 < w i
   ·have : 0 < u i + w i := by omega
    simp [h, a, b, this]
   ·have : ¬ 0 < u i + w i := by omega
    simp [h, a, b, this]
 ·simp [h]

def upI (l : List Int) (s : Nat) : List Int := l.set s (l.getD s 0 + 1)
theorem upI_len (l : List Int) (s : Nat) : (upI l s).length = l.length := List.length_set
theorem upI_at (l : List Int) {s : Nat} (hs : s < l.length) (i : Nat) : (upI l s).getD i 0 = if i = s then l.getD s 0 + 1 else l.getD i 0 := by
 unfold upI
 rw [List.getD_eq_getElem?_getD, List.getElem?_set]
 by_cases h : s = i
 ·subst h; simp [hs]
 ·have h' : ¬ i = s := fun e => h e.symm
  rw [if_neg h, if_neg h', List.getD_eq_getElem?_getD]
theorem bOf_up {l : List Int} {s : Nat} (hs : s < l.length) : bOf (upI l s) = upZ (bOf l) s 1 := by
 funext i
 show (upI l s).getD i 0 = _
 rw [upI_at l hs]
 unfold upZ bOf
 by_cases h : i = s
 ·rw [if_pos h, if_pos h, h]
 ·rw [if_neg h, if_neg h]
theorem bOf_lst {d : Dr} (k : OkD d) {l : List Int} (hl : l.length = d.lim.length) {u : Nat → Int} (hr : d.dv.Run (bOf l) u) : bOf (lst (d.dv.res (bOf l) u) d.lim.length) = d.dv.res (bOf l) u := by
 funext i
 show (lst _ _).getD i 0 = _
 by_cases h : i < d.lim.length
 ·rw [lst_at _ h]
 ·rw [dv_out k (by omega) (hr.out i (by show d.lim.length ≤ i; omega))]
  unfold lst bOf
  rw [List.getD_eq_getElem?_getD, List.getD_eq_getElem?_getD, List.getElem?_eq_none (by simp; omega), List.getElem?_eq_none (by omega)]
theorem chain_set {d : Dr} (k : OkD d) {l : List Int} (hl : l.length = d.lim.length) {u w : Nat → Int} {s : Nat} (hs : s < l.length) (hr : d.dv.Run (bOf l) u) (h2 : d.dv.Run (upZ (d.dv.res (bOf l) u) s 1) w) (s2 : d.dv.Still (upZ (d.dv.res (bOf l) u) s 1) w) :
  opB (xD d (upI l s)) (upI l s) = opN u d.lim.length ||| opN w 6 := by
 have ok := dv_ok k
 have e : d.dv.res (upZ (bOf l) s 1) u = upZ (d.dv.res (bOf l) u) s 1 := by
  funext j
  dsimp only [Dv.res, upZ]
  split <;> omega
 have hm : d.dv.Run (upZ (bOf l) s 1) u := hr.more fun i => by unfold upZ; split <;> omega
 have h0 := h2.nonneg
 have hou := h2.out
 rw [← e] at h2 s2
 have hj := hm.join h2
 have hst : d.dv.Still (upZ (bOf l) s 1) fun i => u i + w i := fun i hi => by
  rw [← Dv.res_add]
  exact s2 i hi
 rw [← bOf_up hs] at hj hst
 have k2 : OkD (xD d (upI l s)) ∨ True := .inr trivial
 have : opB (xD d (upI l s)) (upI l s) = opN (fun i => u i + w i) d.lim.length := by
  have h : ∃ u, (xD d (upI l s)).dv.Run (bOf (upI l s)) u ∧ (xD d (upI l s)).dv.Still (bOf (upI l s)) u := ⟨_, hj, hst⟩
  unfold opB
  rw [dif_pos h]
  have e := Dv.uniq (d := d.dv) ok (Classical.choose_spec h).1 (Classical.choose_spec h).2 hj hst
  rw [show Classical.choose h = _ from funext e]
  rfl
 rw [this, opN_add hr.nonneg h0]
 congr 1
 have e6 : d.lim.length + (6 - d.lim.length) = 6 := by have := k.n6; omega
 have := opN_out (u := w) (n := d.lim.length) (fun i hi => hou i hi) (6 - d.lim.length)
 rw [e6] at this
 exact this.symm
def raL (x : Dr) (o n : Nat) : List (Nat × Bool) := (List.range n).map fun i => (i, (dlD x o).testBit i)
theorem raL_len (x : Dr) (o n : Nat) : (raL x o n).length = n := by simp [raL]
theorem raL_at (x : Dr) (o : Nat) {n i : Nat} (hi : i < n) : (raL x o n).getD i (0, false) = (i, (dlD x o).testBit i) := by simp [raL, List.getD_eq_getElem?_getD, hi]
theorem raL_ok (x : Dr) (o : Nat) {n : Nat} (hn : n = x.lim.length) (h6 : n ≤ 6) : OkL x (raL x o n) := ⟨by rw [raL_len]; exact h6, fun i hi => by
 rw [raL_len] at hi
 rw [raL_at x o hi]
 show i < x.lim.length
 omega⟩
theorem raL_ca (x : Dr) (o n : Nat) : caL x (raL x o n) [o] = [o] := by
 have h : (hsL (raL x o n) (2 ^ (raL x o n).length - 1) (raL x o n).length).all (hrB x o) = true := by
  rw [List.all_eq_true]
  exact hsL_sub (P := fun y => hrB x o y = true) (fun i hi => by
   rw [raL_len] at hi
   rw [raL_at x o hi]
   simp [hrB]) _ (Nat.le_refl _)
 show [o].filter _ = [o]
 rw [List.filter_cons, if_pos h, List.filter_nil]
theorem bsF_spec (F : Nat → Int) (g : Nat → Bool) : ∀ N, ((bsF F g N).2.2 = true → (bsF F g N).1 < N ∧ g (bsF F g N).1 = true ∧ (bsF F g N).2.1 = F (bsF F g N).1) ∧ ((bsF F g N).2.2 = false → ∀ i, i < N → g i = false)
 | 0 => ⟨fun h => (by cases h), fun _ i hi => absurd hi (Nat.not_lt_zero i)⟩
 | N + 1 => by
   obtain ⟨h1, h2⟩ := bsF_spec F g N
   rw [bsF]
   split
   ·rename_i h
    simp only [Bool.and_eq_true] at h
    exact ⟨fun _ => ⟨Nat.lt_succ_self N, h.1, rfl⟩, fun h => (by cases h)⟩
   ·rename_i h
    refine ⟨fun h3 => ?_, fun h3 i hi => ?_⟩
    ·obtain ⟨a, b, c⟩ := h1 h3
     exact ⟨by omega, b, c⟩
    ·by_cases e : i = N
     ·subst e
      rw [h3] at h
      simp at h
      exact h
     ·exact h2 h3 i (by omega)
theorem arK_self {d : Dr} {s : Nat} (hs : s < d.lim.length) : ∀ q, (arK d q s).testBit s = true
 | 0 => by
   show (arI d.lim.length s).testBit s = true
   unfold arI
   rw [if_pos hs, Nat.testBit_two_pow]; simp
 | q + 1 => by
   have ih := arK_self hs q
   show (arP (arK d q) (d.be.getD q (0, 0)) s).testBit s = true
   unfold arP
   split
   ·rw [Nat.testBit_or, ih]; rfl
   ·split
    ·rw [Nat.testBit_or, ih]; rfl
    ·exact ih
theorem dlN_bit (a : Nat → Nat) (o : Nat) (n i : Nat) : (dlN a o n).testBit i = (decide (i < n) && decide (a i &&& o ≠ 0)) := by
 induction n with
 | zero => simp [dlN]
 | succ n ih =>
   rw [dlN]
   by_cases h : a n &&& o = 0
   ·rw [if_pos h, ih]
    by_cases e : i = n
    ·subst e; simp [h]
    ·have : (i < n + 1) ↔ (i < n) := by omega
     simp [this]
   ·rw [if_neg h, Nat.testBit_or, ih, Nat.testBit_two_pow]
    by_cases e : n = i
    ·subst e; simp [h]
    ·have : (i < n + 1) ↔ (i < n) := by omega
     simp [e, this]
theorem dl_self {d : Dr} (k : OkD d) {o i : Nat} (hi : i < d.lim.length) (ho : o.testBit i = true) : (dlD d o).testBit i = true := by
 unfold dlD
 have n6 := k.n6
 rw [dlN_bit, decide_eq_true (by omega), Bool.true_and]
 refine decide_eq_true fun h => ?_
 have : (arK d d.be.length i &&& o).testBit i = true := by rw [Nat.testBit_and, arK_self hi, ho]; rfl
 rw [h] at this
 simp at this
theorem few_some {d : Dr} (k : OkD d) {o : Nat} (ho : o < 2 ^ d.lim.length) : (fwR d [o] d.lim.length).2.2 = true ∧ ∃ x : Nat, x < 64 ∧ (fwR d [o] d.lim.length).1 = x ∧ (fwR d [o] d.lim.length).2.1 = (ones x : Nat) ∧ (ones x = 0 ↔ o = 0) := by
 obtain ⟨h1, h2⟩ := bsF_spec (fun y => ((ones y : Nat) : Int)) (fun y => ![o].any (fwB d y)) (2 ^ d.lim.length)
 have p0 := Nat.two_pow_pos d.lim.length
 have p6 := p2_6 k.n6
 have hs : (fwR d [o] d.lim.length).2.2 = true := by
  cases h : (fwR d [o] d.lim.length).2.2 with
  | true => rfl
  | false =>
    exfalso
    have hg := h2 h (2 ^ d.lim.length - 1) (by omega)
    simp only [List.any_cons, List.any_nil, Bool.or_false, Bool.not_eq_false'] at hg
    unfold fwB at hg
    simp only [Bool.and_eq_true, decide_eq_true_eq] at hg
    obtain ⟨g1, g2⟩ := hg
    obtain ⟨i, hi⟩ := Nat.exists_testBit_of_ne_zero g1
    have hin : i < d.lim.length := Nat.lt_of_not_le fun h => by
     rw [Nat.testBit_lt_two_pow (Nat.lt_of_lt_of_le ho (Nat.pow_le_pow_right (by decide) h))] at hi
     cases hi
    have hb : (dlD d o &&& (2 ^ d.lim.length - 1)).testBit i = true := by
     rw [Nat.testBit_and, dl_self k hin hi, Nat.testBit_two_pow_sub_one, decide_eq_true hin]; rfl
    rw [g2] at hb
    simp at hb
 obtain ⟨a, b, c⟩ := h1 hs
 refine ⟨hs, (bsF (fun y => ((ones y : Nat) : Int)) (fun y => ![o].any (fwB d y)) (2 ^ d.lim.length)).1, by omega, rfl, c, ?_⟩
 rw [ones_zero (by omega)]
 constructor
 ·intro hx
  rw [hx] at b
  simp [fwB] at b
  exact b
 ·intro e
  subst e
  obtain ⟨N, hN⟩ : ∃ N, 2 ^ d.lim.length = N + 1 := ⟨2 ^ d.lim.length - 1, by omega⟩
  have hz := bsF_zero (F := fun y => ((ones y : Nat) : Int)) (g := fun y => ![0].any (fwB d y)) (by simp [fwB]) rfl (fun y => Int.natCast_nonneg _) N
  rw [hN, hz]
end Go.Proofs.YtclkjifgipcamaaGreat
end
