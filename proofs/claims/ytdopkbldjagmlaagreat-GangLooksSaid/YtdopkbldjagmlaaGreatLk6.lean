/- WHAT IS PROVED: the given statement of this claim. Conditions: none beyond the given row. -/
import Derived.Test.YtdopkbldjagmlaaGreatRows
import Derived.ChangeVars
import Derived.Test.YtdopkbldjagmlaaGreatLk5
section
set_option linter.unusedVariables false
set_option linter.unusedSimpArgs false
namespace Go.Proofs.YtdopkbldjagmlaaGreat
open Go.V
/-- Seams of some gangs are those of others, by other numbers. -/
structure RenS (h g : Gg) (φ : Nat → Nat) : Prop where
 s : ∀ n, n < h.N → φ n < g.N ∧ begV h n = begV g (φ n) ∧ (h.seam n).fa = (g.seam (φ n)).fa ∧ (h.seam n).fl = (g.seam (φ n)).fl
 i : ∀ n m, n < h.N → m < h.N → φ n = φ m → n = m
/-- A crew is another one, by other numbers of seams. -/
structure RenC (h g : Gg) (φ : Nat → Nat) (c d : Nat) : Prop where
 lo : (h.crew c).lo = (g.crew d).lo
 hi : (h.crew c).hi = (g.crew d).hi
 k : ∀ n, n < h.N → (h.crew c).st.toNat.testBit n = (g.crew d).st.toNat.testBit (φ n)
structure Ren (h g : Gg) (φ ψ : Nat → Nat) : Prop extends RenS h g φ where
 c : ∀ c, c < h.cw.length → ψ c < g.cw.length ∧ RenC h g φ c (ψ c)
def mpL (φ : Nat → Nat) (l : List Int) : List Int := l.map fun x => ((φ x.toNat : Nat) : Int)
theorem mpL_len (φ : Nat → Nat) (l : List Int) : (mpL φ l).length = l.length := by simp [mpL]
theorem mpL_at (φ : Nat → Nat) (l : List Int) {i : Nat} (h : i < l.length) : (mpL φ l).getD i 0 = ((φ (l.getD i 0).toNat : Nat) : Int) := by
 simp [mpL, List.getD_eq_getElem?_getD, h]
/-- All of a list are seams. -/
def InG (h : Gg) (l : List Int) : Prop := ∀ i, i < l.length → ∃ n : Nat, l.getD i 0 = (n : Int) ∧ n < h.N
theorem ren_don {h g : Gg} {φ : Nat → Nat} (R : RenS h g φ) (sp : Int) {l : List Int} (hl : InG h l) : ∀ i, i ≤ l.length → donN g sp (mpL φ l) i = donN h sp l i
 | 0, _ => rfl
 | i + 1, hi => by
   obtain ⟨n, e, hn⟩ := hl i (by omega)
   obtain ⟨s1, s2, s3, s4⟩ := R.s n hn
   simp only [donN]
   rw [ren_don R sp hl i (by omega), mpL_at φ l (by omega), e, Int.toNat_natCast, Int.toNat_natCast]
   unfold stT tkG
   rw [s2, s3]
theorem ren_kn {h g : Gg} {φ : Nat → Nat} {c d : Nat} (R : RenS h g φ) (rc : RenC h g φ c d) {n : Nat} (hn : n < h.N) : knB g d (φ n) = knB h c n := by
 unfold knB
 rw [rc.k n hn, (R.s n hn).2.1]
theorem ren_rgt {h g : Gg} {φ : Nat → Nat} {c d : Nat} (R : RenS h g φ) (rc : RenC h g φ c d) {l : List Int} (hl : InG h l) : rgtB g d (mpL φ l) = rgtB h c l := by
 rw [Bool.eq_iff_iff, rgt_iff, rgt_iff, mpL_len]
 refine forall_congr' fun i => forall_congr' fun hi => ?_
 obtain ⟨n, e, hn⟩ := hl i hi
 rw [mpL_at φ l hi, e, Int.toNat_natCast, Int.toNat_natCast, ren_kn R rc hn, ren_don R _ hl _ hi, (R.s n hn).2.2.2, rc.lo]
/-- A set, by the other numbers. -/
def Img (h : Gg) (φ : Nat → Nat) (S T : Nat) : Prop := S < 2 ^ h.N ∧ ∀ n, T.testBit n = true ↔ ∃ m, S.testBit m = true ∧ φ m = n
theorem Img.lt {h g : Gg} {φ : Nat → Nat} (R : RenS h g φ) {S T : Nat} (I : Img h φ S T) : T < 2 ^ g.N := by
 refine Nat.lt_pow_two_of_testBit _ fun i hi => ?_
 cases e : T.testBit i with
 | false => rfl
 | true =>
   obtain ⟨m, h1, h2⟩ := (I.2 i).1 e
   have := (R.s m (bit_lt I.1 h1)).1
   omega
theorem row_in {h : Gg} {S : Nat} (hS : S < 2 ^ h.N) {l : List Int} (hl : RowOf S l) : InG h l := fun i hi => by
 obtain ⟨n, e, hn⟩ := hl.at_ i hi
 exact ⟨n, e, bit_lt hS hn⟩
theorem mpL_mem {φ : Nat → Nat} {l : List Int} {x : Int} : x ∈ mpL φ l ↔ ∃ y ∈ l, ((φ y.toNat : Nat) : Int) = x := by simp [mpL]
theorem ren_row {h g : Gg} {φ : Nat → Nat} (R : RenS h g φ) {S T : Nat} (I : Img h φ S T) {l : List Int} (hl : RowOf S l) : RowOf T (mpL φ l) := by
 have hi := row_in I.1 hl
 refine ⟨fun i hi2 => ?_, fun i j hij hj e => ?_⟩
 ·rw [mpL_len] at hi2
  obtain ⟨n, e, hn⟩ := hl.at_ i hi2
  exact ⟨φ n, by rw [mpL_at φ l hi2, e, Int.toNat_natCast], (I.2 _).2 ⟨n, hn, rfl⟩⟩
 ·rw [mpL_len] at hj
  rw [mpL_at φ l (by omega), mpL_at φ l hj] at e
  obtain ⟨n, e1, hn⟩ := hi i (by omega)
  obtain ⟨m, e2, hm⟩ := hi j hj
  rw [e1, e2, Int.toNat_natCast, Int.toNat_natCast] at e
  have := R.i n m hn hm (by omega)
  subst this
  exact hl.nd i j hij hj (by rw [e1, e2])
theorem ren_full {h g : Gg} {φ : Nat → Nat} (R : RenS h g φ) (hN : g.N ≤ 5) (hM : h.N ≤ 5) {S T : Nat} (I : Img h φ S T) {l : List Int} (hl : RowOf S l) : (mpL φ l).length = pop T ↔ l.length = pop S := by
 have hr := ren_row R I hl
 rw [← (rowOf_full (lt32 hN (Img.lt R I)) hr).2, ← (rowOf_full (lt32 hM I.1) hl).2]
 have hi := row_in I.1 hl
 constructor
 ·intro e
  refine Nat.eq_of_testBit_eq fun n => ?_
  rw [Bool.eq_iff_iff]
  constructor
  ·exact fun hb => rowOf_sub hl hb
  ·intro hb
   have : T.testBit (φ n) = true := (I.2 _).2 ⟨n, hb, rfl⟩
   rw [← e, setL_bit] at this
   obtain ⟨x, hx, ex⟩ := this
   obtain ⟨y, hy, ey⟩ := mpL_mem.1 hx
   obtain ⟨i, hi1, hi2⟩ := mem_at.1 hy
   obtain ⟨m, e1, hm⟩ := hi i hi1
   rw [setL_bit]
   refine ⟨y, hy, ?_⟩
   rw [hi2] at e1
   subst e1
   rw [Int.toNat_natCast] at ey ⊢
   exact R.i m n hm (bit_lt I.1 hb) (by omega)
 ·intro e
  refine Nat.eq_of_testBit_eq fun n => ?_
  rw [Bool.eq_iff_iff]
  constructor
  ·exact fun hb => rowOf_sub hr hb
  ·intro hb
   obtain ⟨m, hm, em⟩ := (I.2 n).1 hb
   rw [← e, rowOf_set hl] at hm
   rw [rowOf_set hr, mpL_mem]
   exact ⟨(m : Int), hm, by rw [Int.toNat_natCast, em]⟩
theorem ren_back {h g : Gg} {φ : Nat → Nat} (R : RenS h g φ) {S T : Nat} (I : Img h φ S T) {l : List Int} : RowOf T l → ∃ m, l = mpL φ m ∧ RowOf S m := by
 refine snoc_ind (P := fun l => RowOf T l → ∃ m, l = mpL φ m ∧ RowOf S m) (fun _ => ⟨[], rfl, rowOf_nil S⟩) (fun b x ih hr => ?_) l
 obtain ⟨m, e, hm⟩ := ih (rowOf_pre hr)
 obtain ⟨n, ex, hn⟩ := hr.at_ b.length (by simp)
 rw [snoc_end] at ex
 subst ex
 obtain ⟨q, hq, eq⟩ := (I.2 n).1 hn
 have e2 : b ++ [(n : Int)] = mpL φ (m ++ [(q : Int)]) := by
  rw [e]
  simp [mpL, eq]
 refine ⟨m ++ [(q : Int)], e2, rowOf_snoc.2 ⟨hm, hq, fun hmem => ?_⟩⟩
 have h3 := (rowOf_snoc.1 hr).2.2
 refine h3 ?_
 rw [e, mpL_mem]
 exact ⟨(q : Int), hmem, by rw [Int.toNat_natCast, eq]⟩
theorem ren_end {h g : Gg} {φ : Nat → Nat} {c d : Nat} (R : RenS h g φ) (rc : RenC h g φ c d) (hN : g.N ≤ 5) (hM : h.N ≤ 5) {S T : Nat} (I : Img h φ S T) : endO h c S = endO g d T := by
 refine (end_min I.1).uniq ((end_min (Img.lt R I)).congr fun x => ?_)
 constructor
 ·rintro ⟨l, h1, h2, h3, h4⟩
  obtain ⟨m, e, hm⟩ := ren_back R I h2
  subst e
  have hi := row_in I.1 hm
  rw [ren_rgt R rc hi] at h3
  refine ⟨m, (ren_full R hN hM I hm).1 h1, hm, h3, ?_⟩
  rw [← h4]
  unfold lastT
  rw [mpL_len, ren_don R _ hi _ (Nat.le_refl _), rc.lo]
 ·rintro ⟨l, h1, h2, h3, h4⟩
  have hi := row_in I.1 h2
  refine ⟨mpL φ l, (ren_full R hN hM I h2).2 h1, ren_row R I h2, by rw [ren_rgt R rc hi]; exact h3, ?_⟩
  rw [← h4]
  unfold lastT
  rw [mpL_len, ren_don R _ hi _ (Nat.le_refl _), rc.lo]

/-- Crews are numbered otherwise, all of them. -/
structure Prm (M : Nat) (ψ ψ' : Nat → Nat) : Prop where
 a : ∀ c, c < M → ψ c < M ∧ ψ' (ψ c) = c
 b : ∀ c, c < M → ψ' c < M ∧ ψ (ψ' c) = c
theorem dom_prm {g h : Gg} {f f' : Nat → Nat} {ψ ψ' : Nat → Nat} {M : Nat} (p : Prm M ψ ψ') (e : ∀ c, c < M → endO h c (f' c) = endO g (ψ c) (f (ψ c))) : domN h f' M = domN g f M := by
 have hs : (domN h f' M).isSome = (domN g f M).isSome := by
  rw [Bool.eq_iff_iff, domN_some, domN_some]
  constructor
  ·intro q c hc
   have := q (ψ' c) (p.b c hc).1
   rw [e _ (p.b c hc).1, (p.b c hc).2] at this
   exact this
  ·intro q c hc
   rw [e c hc]
   exact q _ (p.a c hc).1
 cases h1 : domN h f' M with
 | none =>
   rw [h1] at hs
   cases h2 : domN g f M with
   | none => rfl
   | some n => rw [h2] at hs; cases hs
 | some m =>
   rw [h1] at hs
   cases h2 : domN g f M with
   | none => rw [h2] at hs; cases hs
   | some n =>
     obtain ⟨a1, a2, a3⟩ := domN_le M h1
     obtain ⟨b1, b2, b3⟩ := domN_le M h2
     congr 1
     refine Int.le_antisymm ?_ ?_
     ·rcases a3 with a3 | ⟨c, hc, a3⟩
      ·omega
      ·rw [e c hc] at a3
       obtain ⟨t, ht, hle⟩ := b2 (ψ c) (p.a c hc).1
       rw [ht] at a3
       cases a3
       exact hle
     ·rcases b3 with b3 | ⟨c, hc, b3⟩
      ·omega
      ·obtain ⟨t, ht, hle⟩ := a2 (ψ' c) (p.b c hc).1
       rw [e _ (p.b c hc).1, (p.b c hc).2] at ht
       rw [ht] at b3
       cases b3
       exact hle
/-- The same deal, by either numbers. -/
structure DR (h g : Gg) (φ ψ : Nat → Nat) (S T C D : Nat) (l l' : List Int) : Prop where
 n1 : l.length = h.N
 n2 : l'.length = g.N
 at_ : ∀ m, m < h.N → S.testBit m = true → ∃ c : Nat, c < h.cw.length ∧ l.getD m 0 = (c : Int) ∧ C.testBit c = true ∧ l'.getD (φ m) 0 = ((ψ c : Nat) : Int)
 o1 : ∀ m, m < h.N → S.testBit m = false → l.getD m 0 = -1
 o2 : ∀ n, n < g.N → T.testBit n = false → l'.getD n 0 = -1
section
variable {h g : Gg} {φ ψ ψ' : Nat → Nat} {S T C D : Nat} {l l' : List Int}
theorem DR.img (d : DR h g φ ψ S T C D l l') (R : Ren h g φ ψ) (p : Prm h.cw.length ψ ψ') (I : Img h φ S T) {c : Nat} (hc : c < h.cw.length) : Img h φ (crS l c) (crS l' (ψ c)) := by
 refine ⟨by have := crN_lt l c l.length; rw [d.n1] at this; unfold crS; rw [d.n1]; exact this, fun n => ?_⟩
 rw [crS_bit, d.n2]
 constructor
 ·rintro ⟨hn, e⟩
  cases ht : T.testBit n with
  | false => rw [d.o2 n hn ht] at e; omega
  | true =>
    obtain ⟨m, hm, em⟩ := (I.2 n).1 ht
    have hm2 := bit_lt I.1 hm
    obtain ⟨c2, hc2, e1, _, e3⟩ := d.at_ m hm2 hm
    rw [em, e] at e3
    have : c2 = c := by rw [← (p.a c2 hc2).2, ← (p.a c hc).2]; congr 1; omega
    subst this
    exact ⟨m, crS_bit.2 ⟨by rw [d.n1]; exact hm2, e1⟩, em⟩
 ·rintro ⟨m, hm, em⟩
  rw [crS_bit, d.n1] at hm
  obtain ⟨hm2, e⟩ := hm
  cases hs : S.testBit m with
  | false => rw [d.o1 m hm2 hs] at e; omega
  | true =>
    obtain ⟨c2, hc2, e1, _, e3⟩ := d.at_ m hm2 hs
    have : c2 = c := by omega
    subst this
    subst em
    exact ⟨(R.s m hm2).1, e3⟩
theorem DR.dom (d : DR h g φ ψ S T C D l l') (R : Ren h g φ ψ) (p : Prm h.cw.length ψ ψ') (I : Img h φ S T) (hN : g.N ≤ 5) (hM : h.N ≤ 5) (hL : h.cw.length = g.cw.length) : domO h l = domO g l' := by
 unfold domO
 rw [← hL]
 exact dom_prm p fun c hc => ren_end R.toRenS (R.c c hc).2 hN hM (d.img R p I hc)
end
end Go.Proofs.YtdopkbldjagmlaaGreat
end
section
set_option linter.unusedVariables false
set_option linter.unusedSimpArgs false
namespace Go.Proofs.YtdopkbldjagmlaaGreat
open Go.V
def onlN (g : Gg) (s i : Nat) : List Cw := (List.range g.cw.length).map fun c => if c < i ∧ s.testBit c = false then ⟨(g.crew c).lo, (g.crew c).hi, 0⟩ else g.crew c
def onlG (g : Gg) (s : Nat) : Gg := ⟨g.sm, onlN g s g.cw.length, g.pt⟩
/-- The seams that are kept, of the first ones. -/
def kpN (S i : Nat) : List Nat := (List.range i).filter fun n => !S.testBit n
/-- A set, by the new numbers. -/
def mkN (st : Nat) (l : List Nat) : Nat → Nat
 | 0 => 0
 | i + 1 => if st.testBit (l.getD i 0) = true then mkN st l i ||| 2 ^ i else mkN st l i
/-- The gangs, if so many seams have been looked at. -/
def wthN (g : Gg) (S i : Nat) : Gg := ⟨(kpN S i).map g.seam, (List.range g.cw.length).map fun c => ⟨(g.crew c).lo, (g.crew c).hi, (mkN (g.crew c).st.toNat (kpN S i) (kpN S i).length : Nat)⟩, g.pt⟩
def wthG (g : Gg) (S : Nat) : Gg := wthN g S g.N
end Go.Proofs.YtdopkbldjagmlaaGreat
end
section
set_option linter.unusedVariables false
namespace Go.Proofs.YtdopkbldjagmlaaGreat
open Go.V
def keyU (U : Nat) : Int := (pop U : Int) * 32 + U
def bstU (g : Gg) : List Int := mnG (fun l => keyU (setL l)) (dlsL g g.F g.A) [] (dlsL g g.F g.A).length
end Go.Proofs.YtdopkbldjagmlaaGreat
end
section
set_option linter.unusedVariables false
set_option linter.unusedSimpArgs false
set_option maxHeartbeats 4000000
set_option maxRecDepth 100000
namespace Go.Proofs.YtdopkbldjagmlaaGreat
open Go.V
theorem end_neg {g : Gg} (k : OkG g) {c S : Nat} (hc : c < g.cw.length) (hS : S < 2 ^ g.N) : (endD g c S < 0 → endO g c S = none) ∧ (¬ endD g c S < 0 → endO g c S = some (endD g c S)) := by
 unfold endD
 cases h : endO g c S with
 | none => exact ⟨fun _ => rfl, fun q => absurd (show (-1 : Int) < 0 by omega) q⟩
 | some t =>
   have := (end_le k hc hS h).1
   exact ⟨fun q => absurd q (by show ¬ t < 0; omega), fun _ => rfl⟩
def dlsG (g : Gg) (S n : Nat) (b : List Int) (i : Nat) : List (List Int) := (List.range i).flatMap fun c : Nat => dls g S g.A n (b ++ [(c : Int)])
def dlR (g : Gg) (S n : Nat) (b : List Int) (id : Nat) (O : List (List Int)) (H : Hp) : Res → Hp → Prop := fun r H' =>
 r = .ret (.sl id 1 (O ++ dls g S g.A n b).length) ∧ H' = H.set id (.row 1 (O ++ dls g S g.A n b).length (llF (O ++ dls g S g.A n b)))
end Go.Proofs.YtdopkbldjagmlaaGreat
end
section
set_option linter.unusedVariables false
set_option linter.unusedSimpArgs false
set_option maxHeartbeats 4000000
set_option maxRecDepth 100000
namespace Go.Proofs.YtdopkbldjagmlaaGreat
open Go.V
theorem dcanA_tri (g : Gg) (c n : Int) (H : Hp) (kn : NearG g) : PTri Tryz.prog (fnA 17) [g.av, i64 c, i64 n] H (.tuple [canA g c n, i64 (canE g c n)]) := by
 refine tri_v0 (fun _ => false) Tryz.func17 (by kernel_rfl) rfl (by simp only [List.length_append, List.length_cons, List.length_nil, Tryz.ntmps17]; decide) ?_
 simp only [vsAll, boxA, boxZ, opA, dstOk, nilSliceOp, argFr, Nat.reduceAdd, Nat.reduceLT, eq_self, wtAll, Tryz.ntmps17]
 refine vs_draw2 [0, 0, 0, 0, 0, 0, 0, 0, 0, 0, 0] [] [0, 1, 2, 3, 4, 5, 6, 7, 8, 9, 10] (by decide +kernel) ?_
 simp only [vsAll, loadA, loadRow, partA, partOk, opA, dstOk, argFr, Nat.reduceLT, Nat.reduceEqDiff, ↓reduceIte, eq_self, wtAll]
 refine qcall _ ⟨trivial, by simp only [vsAll, okAll, opsA, opA, Nat.reduceEqDiff, ↓reduceIte, eq_self], dcrew_tri g c _ kn⟩ ?_
 simp only [vsAll, loadA, loadRow, partA, partOk, opA, guardV, dstOk, argFr, Nat.reduceLT, Nat.reduceEqDiff, ↓reduceIte, implies_true, eq_self, wtAll]
 refine qgcall (boo (isSet g n)) (fun hg => ⟨by simp only [vsAll, opA], by simp only [vsAll, okAll, opsA, opA, Nat.reduceEqDiff, ↓reduceIte, eq_self, hg], dset_tri g n _ kn⟩) ?_
 simp only [vsAll, pickA, opA, dstOk, Nat.reduceLT, Nat.reduceEqDiff, ↓reduceIte, implies_true, eq_self]
 refine qcall _ ⟨trivial, by simp only [vsAll, okAll, opsA, opA, Nat.reduceEqDiff, ↓reduceIte, eq_self], dchk_tri g (vCan g c n) _ kn⟩ ?_
 simp only [vsAll, binA, binLitA, intA, opA, dstOk, Nat.reduceLT, ↓reduceIte, eq_self]
 by_cases he : errG g (vCan g c n) = 0
 ·obtain ⟨k, hv⟩ := errG_zero he
  unfold vCan isSet at hv
  simp only [Bool.and_eq_true, decide_eq_true_eq] at hv
  obtain ⟨hv1, hn0, hn1⟩ := hv
  rw [isCw_iff] at hv1
  obtain ⟨hc1, hc2⟩ := hv1
  obtain ⟨c, rfl⟩ : ∃ q : Nat, c = (q : Int) := ⟨c.toNat, by omega⟩
  obtain ⟨S, rfl⟩ : ∃ q : Nat, n = (q : Int) := ⟨n.toNat, by omega⟩
  have hc : c < g.cw.length := by omega
  have hS : S < 2 ^ g.N := by
   have := Nat.two_pow_pos g.N
   omega
  have hl := rows_len g c k.nS (lt32 k.nS hS)
  have ec : canE g (c : Int) (S : Int) = if rowsL g c S = [] then 4 else 0 := by
   unfold canE
   rw [if_pos he, Int.toNat_natCast, Int.toNat_natCast]
  have ev : canE g (c : Int) (S : Int) = 0 → canV g (c : Int) (S : Int) = (rowsL g c S).getD 0 [] := fun h => by
   unfold canV
   rw [if_pos h, Int.toNat_natCast, Int.toNat_natCast]
   cases rowsL g c S <;> rfl
  rw [he]
  simp only [vsAll, eq_self]
  refine vs_draw2 [0, 0, 0, 0, 0, 0, 0] [] [0, 1, 2, 3, 4, 5, 6] (by decide +kernel) ?_
  simp only [vsAll, loadA, loadRow, partA, partOk, opA, dstOk, Nat.reduceLT, Nat.reduceEqDiff, ↓reduceIte, eq_self, wtAll]
  refine qcall _ ⟨trivial, by simp only [vsAll, okAll, opsA, opA, ↓reduceIte, eq_self], dhot_tri g _ k⟩ ?_
  simp only [vsAll, opA, dstOk, argFr, Nat.reduceLT, Nat.reduceEqDiff, ↓reduceIte, eq_self]
  refine qcall _ ⟨trivial, by simp only [vsAll, okAll, opsA, opA, Nat.reduceEqDiff, ↓reduceIte, eq_self], drows0_tri g c S _ k hc hS⟩ ?_
  simp only [vsAll, binA, binLitA, intA, lenA, opA, dstOk, Nat.reduceLT, ↓reduceIte, eq_self, wtAll]
  generalize rowsL g c S = L at hl ec ev ⊢
  refine condD (fun hd => ?_) (fun hd => ?_)
  ·have h0 : L = [] := List.length_eq_zero_iff.1 (by omega)
   rw [if_pos h0] at ec
   have ea : canA g (c : Int) (S : Int) = .lit (.slice none 0 0) := if_neg (by rw [ec]; decide)
   rw [ec, ea]
   simp only [vsAll, opA, dstOk, nilSliceOp, resA, retA.eq_2, Nat.reduceLT, Nat.reduceEqDiff, ↓reduceIte, eq_self, Tryz.results17]
  ·have h0 : ¬ L = [] := fun e => hd (by rw [e]; rfl)
   have h1 := List.length_pos_iff.2 h0
   rw [if_neg h0] at ec
   have ea : canA g (c : Int) (S : Int) = intsAV (L.getD 0 []) := by unfold canA; rw [if_pos ec, ev ec]
   rw [ec, ea]
   simp only [vsAll, loadA, loadRow, partA, partOk, indexAddrA, opA, dstOk, nilSliceOp, resA, retA.eq_2, Nat.reduceLT, Nat.reduceEqDiff, Int.reduceLE, Int.reduceToNat, ↓reduceIte, eq_self, wtAll, Tryz.results17, llF_at]
   exact ⟨by omega, h1⟩
 ·have e2 : canE g c n = errG g (vCan g c n) := if_neg he
  have e3 : canA g c n = .lit (.slice none 0 0) := if_neg (by rw [e2]; exact he)
  have hc : decide (errG g (vCan g c n) = 0) = false := decide_eq_false he
  rw [e2, e3]
  simp only [vsAll, opA, dstOk, nilSliceOp, resA, retA.eq_2, Nat.reduceLT, Nat.reduceEqDiff, ↓reduceIte, eq_self, Tryz.results17, hc]
theorem dcan_tri (g : Gg) (c n : Int) (H : Hp) (kn : NearG g) : PTri Tryz.prog (fnA 17) [g.av, i64 c, i64 n] H (.tuple [intsAV (canV g c n), i64 (canE g c n)]) := by
 refine Tri.resLe (dcanA_tri g c n H kn) fun r H' h => .inr ⟨_, .tuple [intsAV (canV g c n), i64 (canE g c n)], h.1, AV.Le.tupleD rfl fun j hj => ?_, rfl, h.2⟩
 match j, hj with
 | 0, _ =>
   show AV.Le (canA g c n) (intsAV (canV g c n))
   unfold canA
   split
   ·exact AV.Le.refl _
   ·rename_i hn
    have : canV g c n = [] := if_neg hn
    rw [this]
    exact AV.Le.nil _ _
 | 1, _ => exact AV.Le.refl _
theorem dsetsM_tri (g : Gg) (c : Int) (H : Hp) (kn : NearG g) : Tri Tryz.prog (fnA 19) [g.av, i64 c] H fun r H' => (¬ setsE g c = 0 ∧ r = .ret (.tuple [.lit (.slice none 0 0), i64 (setsE g c)]) ∧ H' = H) ∨ (setsE g c = 0 ∧ ∃ id, H id = none ∧ r = .ret (.tuple [.sl id 1 (setsV g c).length, i64 0]) ∧ H' = H.set id (.row 1 (setsV g c).length (intF (setsV g c)))) := by
 refine Tri.drop ?_
 refine tri_v0 (mset [8]) Tryz.func19 (by kernel_rfl) rfl (by simp only [List.length_append, List.length_cons, List.length_nil, Tryz.ntmps19]; decide) ?_
 simp only [vsAll, boxA, boxZ, opA, dstOk, nilSliceOp, argFr, Nat.reduceAdd, Nat.reduceLT, Nat.reduceBEq, eq_self, wtAll, Tryz.ntmps19]
 refine vs_draw2 [0, 0, 0, 0, 0, 0] [] [0, 1, 2, 3, 4, 5] (by decide +kernel) ?_
 simp only [vsAll, loadA, loadRow, partA, partOk, opA, dstOk, argFr, Nat.reduceLT, Nat.reduceEqDiff, ↓reduceIte, eq_self, wtAll]
 refine qcall _ ⟨trivial, by simp only [vsAll, okAll, opsA, opA, Nat.reduceEqDiff, ↓reduceIte, eq_self], dcrew_tri g c _ kn⟩ ?_
 simp only [vsAll, dstOk, Nat.reduceLT, eq_self]
 refine qcall _ ⟨trivial, by simp only [vsAll, okAll, opsA, opA, Nat.reduceEqDiff, ↓reduceIte, eq_self], dchk_tri g (isCw g c) _ kn⟩ ?_
 simp only [vsAll, binA, binLitA, intA, opA, dstOk, Nat.reduceLT, ↓reduceIte, eq_self]
 have eE : setsE g c = errG g (isCw g c) := rfl
 by_cases he : errG g (isCw g c) = 0
 ·obtain ⟨k, hv⟩ := errG_zero he
  rw [isCw_iff] at hv
  obtain ⟨m, rfl⟩ : ∃ q : Nat, c = (q : Int) := ⟨c.toNat, by omega⟩
  have hm : m < g.cw.length := by omega
  have hN5 : g.N ≤ 5 := k.nS
  have hNe : g.N = g.sm.length := rfl
  have hp5 : 2 ^ g.N ≤ 2 ^ 5 := Nat.pow_le_pow_right (by decide) hN5
  have ev : setsV g (m : Int) = stsN g m (2 ^ g.N) := by unfold setsV; rw [if_pos (eE.trans he), Int.toNat_natCast]
  have hlen := fun i => stsN_len g m i
  rw [he]
  simp only [vsAll, loadA, loadRow, partA, partOk, okAll, stAll, opsA, opA, dstOk, Nat.reduceLT, Nat.reduceEqDiff, ↓reduceIte, eq_self, wtAll]
  refine callK_pure (dhot_tri g _ k) ?_
  simp only [vsAll, opA, dstOk, nilSliceOp, Nat.reduceLT, Nat.reduceBEq, ↓reduceIte, eq_self, wtAll, Go.V.nilA]
  intro i8 hh_i8; (try simp only [Hp.set_none, ite_none] at hh_i8)
  refine vs_loop (σ := Nat) (fun i => i ≤ 2 ^ g.N) (fun i => [(1, i64 m), (2, gptr g), (7, intsAV (hotL g)), (8, .sl i8 1 (stsN g m i).length), (9, i64 i)]) (fun i => H.set i8 (.row 1 (stsN g m i).length (intF (stsN g m i)))) (fun i => 2 ^ g.N - i) 0 (Nat.zero_le _) ?_ ?_ fun i hi => ?_
  ·simp only [vsAll, argFr, Nat.reduceEqDiff, ↓reduceIte, eq_self, Int.natCast_zero]
   try exact AV.Le.refl _
  ·exact HSub.set (HSub.refl _) (row_ext fun q hq => absurd hq (by ((try clear hh_i8); omega)))
  ·simp only [vsAll, loadA, loadRow, partA, partOk, fieldAddrA, lenA, okAll, stAll, opsA, opA, dstOk, Nat.reduceLT, Nat.reduceEqDiff, ↓reduceIte, eq_self, wtAll]
   refine callK_pure (gpower_tri g.N _ (by ((try clear hh_i8); omega))) ?_
   simp only [vsAll, binA, binLitA, intA, opA, dstOk, Nat.reduceLT, Nat.reduceEqDiff, ↓reduceIte, eq_self]
   refine condD (fun hd => ?_) (fun hd => ?_)
   ·have his : i < 2 ^ g.N := by ((try clear hh_i8); omega)
    simp only [vsAll, loadA, loadRow, partA, partOk, okAll, stAll, opsA, opA, dstOk, Nat.reduceLT, Nat.reduceEqDiff, ↓reduceIte, eq_self, wtAll]
    refine callK_pure (dend_tri g m i _ k hm his) ?_
    simp only [vsAll, binA, binLitA, intA, opA, dstOk, Nat.reduceLT, ↓reduceIte, eq_self]
    have hl := hlen i
    obtain ⟨hn1, hn2⟩ := end_neg k hm his
    refine condD (fun hq => ?_) (fun hq => ?_)
    ·have es := stsN_yes (g := g) (c := m) (i := i) (by rw [hn2 (by ((try clear hh_i8); omega))]; rfl)
     have el : (stsN g m (i + 1)).length = (stsN g m i).length + 1 := by rw [es]; simp
     simp only [vsAll, binA, binLitA, intA, cellA, cellsA, okParts, buildSliceA, partIdx, elemsA, lensA, partsA, partsOk, opA, appendA, dstOk, nilSliceOp, Nat.reduceMul, Nat.reduceLT, Nat.reduceLeDiff, Nat.reduceEqDiff, Nat.reduceBEq, ↓reduceIte, eq_self, wtAll]
     refine ⟨fun q hq => by (have : q = 0 := by ((try clear hh_i8); omega)); subst this; exact ⟨rfl, trivial⟩, by ((try clear hh_i8); omega), by ((try clear hh_i8); omega), by simp only [InR_i64]; ((try clear hh_i8); omega), loop_next (i + 1) his (by ((try clear hh_i8); omega)) ?_ ?_⟩
     ·simp only [vsAll, Nat.reduceEqDiff, ↓reduceIte, eq_self, el, Int.natCast_add, Int.natCast_one]
     ·rw [el, es, app_ints (stsN g m i) (i : Int) _ rfl, Hp.set_set]; exact HSub_rfl
    ·have es := stsN_no (g := g) (c := m) (i := i) (by rw [hn1 (by ((try clear hh_i8); omega))]; rfl)
     simp only [vsAll, binA, binLitA, intA, opA, dstOk, nilSliceOp, Nat.reduceLT, Nat.reduceEqDiff, Nat.reduceBEq, ↓reduceIte, eq_self]
     refine ⟨by simp only [InR_i64]; ((try clear hh_i8); omega), loop_next (i + 1) his (by ((try clear hh_i8); omega)) ?_ (by rw [es]; exact HSub_rfl)⟩
     simp only [vsAll, Nat.reduceEqDiff, ↓reduceIte, eq_self, es, Int.natCast_add, Int.natCast_one]
   ·have ei : i = 2 ^ g.N := by ((try clear hh_i8); omega)
    subst ei
    simp only [vsAll, opA, dstOk, nilSliceOp, resA, retA.eq_2, Nat.reduceLT, Nat.reduceEqDiff, Nat.reduceBEq, ↓reduceIte, eq_self, Tryz.results19]
    refine ⟨H.set i8 (.row 1 (setsV g (m : Int)).length (intF (setsV g (m : Int)))), by rw [ev]; exact HSub_rfl, .inr ⟨by rw [eE]; exact he, i8, hh_i8, by rw [ev], rfl⟩⟩
 ·have hc : decide (errG g (isCw g c) = 0) = false := decide_eq_false he
  rw [eE]
  simp only [vsAll, opA, dstOk, nilSliceOp, resA, retA.eq_2, Nat.reduceLT, Nat.reduceEqDiff, Nat.reduceBEq, ↓reduceIte, eq_self, Tryz.results19, hc]
  exact ⟨H, HSub_rfl, .inl ⟨he, rfl, rfl⟩⟩
theorem dsets_tri (g : Gg) (c : Int) (H : Hp) (kn : NearG g) : PTri Tryz.prog (fnA 19) [g.av, i64 c] H (.tuple [intsAV (setsV g c), i64 (setsE g c)]) := by
 have h1 : Tri Tryz.prog (fnA 19) [g.av, i64 c] H fun r H' => H' = H ∧ ((¬ setsE g c = 0 ∧ r = .ret (.tuple [.lit (.slice none 0 0), i64 (setsE g c)])) ∨ r = .ret (.tuple [intsAV (setsV g c), i64 (setsE g c)])) := by
  refine Tri.thaw (dsetsM_tri g c H kn) ?_
  rintro r H' (⟨h1, rfl, rfl⟩ | ⟨h1, id, hid, rfl, rfl⟩)
  ·exact .inl ⟨rfl, .inl ⟨h1, rfl⟩⟩
  ·right
   refine ⟨_, id, 1, _, _, 0, rfl, Hp.set_same _ _ _, by simp, rfl, set_del hid, .inr ?_⟩
   rw [h1]; rfl
 refine Tri.resLe h1 fun r H' h => ?_
 obtain ⟨rfl, ⟨h2, rfl⟩ | rfl⟩ := h
 ·right
  refine ⟨_, .tuple [intsAV (setsV g c), i64 (setsE g c)], rfl, AV.Le.tupleD rfl fun j hj => ?_, rfl, rfl⟩
  have e2 : setsV g c = [] := if_neg h2
  rw [e2]
  match j, hj with
  | 0, _ => exact AV.Le.nil _ _
  | 1, _ => exact AV.Le.refl _
 ·exact .inl ⟨rfl, rfl⟩
end Go.Proofs.YtdopkbldjagmlaaGreat
end
section
set_option linter.unusedVariables false
set_option linter.unusedSimpArgs false
set_option maxHeartbeats 4000000
set_option maxRecDepth 100000
namespace Go.Proofs.YtdopkbldjagmlaaGreat
open Go.V
def dealA (g : Gg) : AV := if dealE g = 0 then intsAV (dealL g) else .lit (.slice none 0 0)
end Go.Proofs.YtdopkbldjagmlaaGreat
end
section
set_option linter.unusedVariables false
set_option linter.unusedSimpArgs false
namespace Go.V
set_option linter.unusedSectionVars false
variable [Inhabited GivT]
/-- What one cell holds. -/
inductive CK where
 | int (k : IntKind)
 | bool
 | sl (ks : List CK)

/-- The cells of a type. -/
def cellsT (P : Program) : Nat → TypeId → Option (List CK)
 | 0, _ => none
 | d + 1, t => match P.underlying t with
   | some .bool => some [.bool]
   | some (.int k) => some [.int k]
   | some (.slice e) => match cellsT P d e with
     | some ks => if P.cellsOf e = ks.length ∧ 0 < ks.length then some [.sl ks] else none
     | none => none
   | some (.array n e) => match cellsT P d e with
     | some ks => if P.cellsOf e = ks.length ∧ P.cellsOf t = n * ks.length then some ((List.replicate n ks).flatten) else none
     | none => none
   | some (.struct fs) => match fs.toList.foldl (fun acc f => match acc with
     | some ks => match cellsT P d f.type with
       | some l => if f.offset = ks.length ∧ P.cellsOf f.type = l.length then some (ks ++ l) else none
       | none => none
     | none => none) (some []) with
     | some ks => if P.cellsOf t = ks.length then some ks else none
     | none => none
   | _ => none

/-- Such an abstract value. -/
inductive CKA : CK → AV → Prop
 | int {k : IntKind} {z : Int} (h : (Lit.int k z).wf = true) : CKA (.int k) (.lit (.int k z))
 | bool {b : Bool} : CKA .bool (.lit (.bool b))
 | sl {ks : List CK} {n : Nat} {f : Nat → List AV} (hn : n ≤ maxLen) (hl : ∀ i, i < n → (f i).length = ks.length) (h : ∀ i j k, i < n → ks[j]? = some k → CKA k ((f i).getD j .any)) : CKA (.sl ks) (.rsl n ks.length f)

def CellIs (W : World) (k : CK) (v : Value) : Prop := ∃ av, CKA k av ∧ VRel (st0 W) av v
def CellsOk (W : World) (ks : List CK) (cs : List Value) : Prop := cs.length = ks.length ∧ ∀ (i : Nat) (k : CK) (v : Value), ks[i]? = some k → cs[i]? = some v → CellIs W k v

theorem CellsOk.append {W : World} {ks ls : List CK} {cs ds : List Value} (h : CellsOk W ks cs) (h' : CellsOk W ls ds) : CellsOk W (ks ++ ls) (cs ++ ds) := by
 refine ⟨by simp [h.1, h'.1], fun i k v hk hv => ?_⟩
 by_cases hi : i < ks.length
 ·rw [List.getElem?_append_left hi] at hk
  rw [List.getElem?_append_left (by rw [h.1]; exact hi)] at hv
  exact h.2 i k v hk hv
 ·rw [List.getElem?_append_right (by omega)] at hk
  rw [List.getElem?_append_right (by rw [h.1]; omega), h.1] at hv
  exact h'.2 _ k v hk hv

theorem trod_cells {H : Type} {enc : TypeId × Value → H} {P : Program} {W : World} {held : Bool} {sp : Nat → Bool} :
  ∀ (d fuel : Nat) (t : TypeId) (cs : List Value) (x : DataW H × List MemPlace) (ks : List CK), cellsT P d t = some ks → DataW.trod enc P W 0 sp held fuel t cs = some x → CellsOk W ks cs := by
 intro d
 induction d with
 | zero => intro fuel t cs x ks hg; cases hg
 | succ d ih =>
   intro fuel t cs x ks hg h
   cases fuel with
   | zero => cases h
   | succ fuel =>
     unfold cellsT at hg
     unfold DataW.trod at h
     cases hu : P.underlying t with
     | none => rw [hu] at hg; cases hg
     | some td =>
       rw [hu] at hg h
       cases td <;> simp only at hg <;> try (cases hg; done)
       case bool =>
        cases hg
        split at h <;> simp_all
        rename_i b
        exact ⟨rfl, fun i k v hk hv => by cases i <;> simp at hk hv; subst hk hv; exact ⟨_, .bool, .lit _⟩⟩
       case int k =>
        cases hg
        split at h <;> simp_all
        rename_i n hh
        exact ⟨rfl, fun i k v hk hv => by cases i <;> simp at hk hv; subst hk hv; exact ⟨_, .int h.1.2, .lit _⟩⟩
       case array n e =>
        cases hke : cellsT P d e with
        | none => rw [hke] at hg; cases hg
        | some lk =>
          rw [hke] at hg
          simp only at hg
          by_cases hc : P.cellsOf e = lk.length ∧ P.cellsOf t = n * lk.length
          case neg => rw [if_neg hc] at hg; cases hg
          rw [if_pos hc] at hg
          cases hg
          split at h <;> try (simp_all; done)
          case _ n' e' heq =>
           simp only [Option.some.injEq, TypeDesc.array.injEq] at heq
           obtain ⟨rfl, rfl⟩ := heq
           split at h
           case isFalse hl => cases h
           case isTrue hl =>
            rw [Option.map_eq_some_iff] at h
            obtain ⟨ys, hy, rfl⟩ := h
            have key : ∀ (c : List Value), (∀ i, i < n → ∃ y, DataW.trod enc P W 0 sp held fuel e ((c.drop (i * P.cellsOf e)).take (P.cellsOf e)) = some y) → ∀ m, m ≤ n → CellsOk W (List.replicate m lk).flatten (c.take (m * lk.length)) := by
             intro c hcy m
             induction m with
             | zero => intro _; exact ⟨by simp, fun i k v hk => by simp at hk⟩
             | succ m ihm =>
               intro hm
               have h0 := ihm (by omega)
               obtain ⟨y, h2⟩ := hcy m (by omega)
               have h3 := ih fuel e _ y lk hke h2
               rw [hc.1] at h3
               have := h0.append h3
               rw [List.replicate_succ', List.flatten_append, Nat.succ_mul, List.take_add]
               simpa using this
            have := key _ (fun i hi => by
             obtain ⟨y, _, h2⟩ := (mapM_get _ _ hy).2 i i (by simp [hi])
             exact ⟨y, h2⟩) n (Nat.le_refl _)
            rw [List.take_of_length_le (by rw [hl, hc.2]; exact Nat.le_refl _)] at this
            exact this
       case slice e =>
        cases hke : cellsT P d e with
        | none => rw [hke] at hg; cases hg
        | some lk =>
          rw [hke] at hg
          simp only at hg
          by_cases hc : P.cellsOf e = lk.length ∧ 0 < lk.length
          case neg => rw [if_neg hc] at hg; cases hg
          rw [if_pos hc] at hg
          cases hg
          obtain ⟨hsz, hpos⟩ := hc
          split at h <;> try (simp_all; done)
          ·rename_i heq
           refine ⟨rfl, fun i k v hk hv => ?_⟩
           cases i <;> simp at hk hv
           subst hk hv
           exact ⟨.rsl 0 lk.length fun _ => [], .sl (Nat.zero_le _) (fun i hi => by omega) (fun i j k hi => by omega), .rsl0⟩
          ·rename_i e' a len cap heq
           simp only [Option.some.injEq, TypeDesc.slice.injEq] at heq
           subst heq
           simp only at h
           split at h
           case isFalse hl => cases h
           case isTrue hl =>
            rw [Option.bind_eq_some_iff] at h
            obtain ⟨es, he, -⟩ := h
            let g : Nat → List Value := fun i => match W.cells? 0 (a.add (i * P.cellsOf e)) (P.cellsOf e) with
             | some c => c
             | none => []
            have hel : ∀ i, i < len → W.cells? 0 (a.add (i * P.cellsOf e)) (P.cellsOf e) = some (g i) ∧ CellsOk W lk (g i) := by
             intro i hi
             obtain ⟨y, _, hy⟩ := (mapM_get _ _ he).2 i i (by simp [hi])
             rw [Option.bind_eq_some_iff] at hy
             obtain ⟨c, h1, h2⟩ := hy
             have : g i = c := by simp only [g, h1]
             rw [this]
             exact ⟨h1, ih fuel e c y lk hke h2⟩
            -- the abstract cells
            have hch : ∀ i j, ∃ av, i < len → j < lk.length → ∃ k v, lk[j]? = some k ∧ (g i)[j]? = some v ∧ CKA k av ∧ VRel (st0 W) av v := by
             intro i j
             by_cases hi : i < len
             ·by_cases hj : j < lk.length
              ·obtain ⟨l1, l2⟩ := (hel i hi).2
               obtain ⟨av, c1, c2⟩ := l2 j lk[j] (g i)[j] (List.getElem?_eq_getElem hj) (List.getElem?_eq_getElem (by omega))
               exact ⟨av, fun _ _ => ⟨_, _, List.getElem?_eq_getElem hj, List.getElem?_eq_getElem (by omega), c1, c2⟩⟩
              ·exact ⟨.any, fun _ x => absurd x hj⟩
             ·exact ⟨.any, fun x => absurd x hi⟩
            have hf := fun i => Classical.axiomOfChoice (hch i)
            obtain ⟨F, hF⟩ := Classical.axiomOfChoice hf
            have hget : ∀ i j, j < lk.length → ((List.range lk.length).map (F i)).getD j .any = F i j := fun i j hj => by
             rw [List.getD_eq_getElem?_getD, List.getElem?_map, List.getElem?_range hj]; rfl
            refine ⟨rfl, fun i k v hk hv => ?_⟩
            cases i <;> simp at hk hv
            subst hk hv
            refine ⟨.rsl len lk.length fun i => (List.range lk.length).map (F i), .sl (Nat.le_trans hl.2.1 hl.2.2) (fun i hi => by simp) (fun i j k hi hk => ?_), ?_⟩
            ·have hj := (List.getElem?_eq_some_iff.1 hk).1
             rw [hget i j hj]
             obtain ⟨k', v, h1, h2, h3, h4⟩ := hF i j hi hj
             rw [hk] at h1; cases h1
             exact h3
            by_cases h0 : len = 0
            ·subst h0; exact .rsl0
            have hcell : ∀ i j, i < len → j < lk.length → ∃ u, (g i)[j]? = some u ∧ W.cell? ((a.add (i * P.cellsOf e)).add j) = some u := by
             intro i j hi hj
             have h1 := (hel i hi).1
             unfold World.cells? at h1
             rw [if_pos (Nat.zero_le _)] at h1
             exact (mapM_get _ _ h1).2 j j (by simp [hsz, hj])
            obtain ⟨b, off, spot⟩ := a
            obtain ⟨u0, _, hc0⟩ := hcell 0 0 (by omega) hpos
            rw [show ((⟨b, off, spot⟩ : Addr).add (0 * P.cellsOf e)).add 0 = ⟨b, off, spot⟩ from by simp [Addr.add]] at hc0
            unfold World.cell? at hc0
            split at hc0
            case h_2 => cases hc0
            case h_1 c ct fz hb =>
             have hspot : spot = none := by
              cases spot with
              | none => rfl
              | some s => simp at hc0
             subst hspot
             have hadd : ∀ i j, (((⟨b, off, none⟩ : Addr).add (i * P.cellsOf e)).add j) = ⟨b, off + i * P.cellsOf e + j, none⟩ := fun i j => by rw [addr_add, addr_add]
             have hall : ∀ i j, i < len → j < lk.length → ∃ u, (g i)[j]? = some u ∧ c[off + i * lk.length + j]? = some u := by
              intro i j hi hj
              obtain ⟨u, h1, h2⟩ := hcell i j hi hj
              rw [hadd] at h2
              unfold World.cell? at h2
              simp only at hb
              rw [show W.heap[(⟨b, off + i * P.cellsOf e + j, none⟩ : Addr).block]? = some (.cells c ct fz) from hb] at h2
              simp only [Option.isSome_none, Bool.false_eq_true, if_false, hsz] at h2
              exact ⟨u, h1, h2⟩
             refine .rsl (c := c) (e := ct) (fz := fz) ?_ hb ?_ (fun i hi => by simp) (fun i j hi hj => ?_) hl.2.1
             ·exact (Array.getElem?_eq_some_iff.1 hb).1
             ·obtain ⟨u, _, h2⟩ := hall (len - 1) (lk.length - 1) (by omega) (by omega)
              have := (Array.getElem?_eq_some_iff.1 h2).1
              have e1 : len * lk.length = (len - 1) * lk.length + lk.length := by
               obtain ⟨q, rfl⟩ : ∃ q, len = q + 1 := ⟨len - 1, by omega⟩
               rw [Nat.add_sub_cancel, Nat.succ_mul]
              omega
             ·obtain ⟨u, h1, h2⟩ := hall i j hi hj
              obtain ⟨k', v, q1, q2, q3, q4⟩ := hF i j hi hj
              rw [h1] at q2; cases q2
              rw [hget i j hj, Array.getD_eq_getD_getElem?, h2]
              exact q4
       case struct fs =>
        split at h <;> try (simp_all; done)
        case _ fs' heq =>
         simp only [Option.some.injEq, TypeDesc.struct.injEq] at heq
         subst heq
         split at h
         case isFalse hl => cases h
         case isTrue hl =>
          rw [Option.map_eq_some_iff] at h
          obtain ⟨ys, hy, rfl⟩ := h
          have key : ∀ (c : List Value) (l : List Field) (acc ks : List CK), (∀ f ∈ l, ∃ y, DataW.trod enc P W 0 sp held fuel f.type ((c.drop f.offset).take (P.cellsOf f.type)) = some y) → CellsOk W acc (c.take acc.length) →
            l.foldl (fun acc f => match acc with
             | some ks => match cellsT P d f.type with
               | some l => if f.offset = ks.length ∧ P.cellsOf f.type = l.length then some (ks ++ l) else none
               | none => none
             | none => none) (some acc) = some ks → CellsOk W ks (c.take ks.length) := by
           intro c l
           induction l with
           | nil => intro acc ks _ ha he; simp at he; subst he; exact ha
           | cons f l ih2 =>
             intro acc ks hf ha he
             simp only [List.foldl_cons] at he
             have hnone : ∀ l : List Field, l.foldl (fun acc f => match acc with
              | some ks => match cellsT P d f.type with
                | some l => if f.offset = ks.length ∧ P.cellsOf f.type = l.length then some (ks ++ l) else none
                | none => none
              | none => none) none = (none : Option (List CK)) := by
              intro l; induction l with
              | nil => rfl
              | cons a l ih => simpa using ih
             cases hl2 : cellsT P d f.type with
             | none => rw [hl2] at he; simp only at he; rw [hnone] at he; cases he
             | some lk =>
               rw [hl2] at he
               simp only at he
               by_cases hc : f.offset = acc.length ∧ P.cellsOf f.type = lk.length
               ·rw [if_pos hc] at he
                obtain ⟨y, hy⟩ := hf f (by simp)
                have := ih fuel f.type _ y lk hl2 hy
                rw [hc.1, hc.2] at this
                have hap := ha.append this
                refine ih2 (acc ++ lk) ks (fun g hg => hf g (by simp [hg])) ?_ he
                rw [List.length_append, List.take_add]
                exact hap
               ·rw [if_neg hc, hnone] at he; cases he
          split at hg
          case h_2 => cases hg
          case h_1 ks' he =>
           split at hg
           case isFalse => cases hg
           case isTrue hc =>
            cases hg
            have := key _ fs.toList [] ks (fun f hf => by
             obtain ⟨i, hi⟩ := List.getElem?_of_mem hf
             obtain ⟨y, _, h2⟩ := (mapM_get _ _ hy).2 i f hi
             exact ⟨y, h2⟩) ⟨by simp, fun i k v hk => by simp at hk⟩ he
            rw [List.take_of_length_le (by rw [hl, hc]; exact Nat.le_refl _)] at this
            exact this

end Go.V
end
section
set_option linter.unusedVariables false
set_option linter.unusedSimpArgs false
namespace Go.V
set_option linter.unusedSectionVars false
variable [Inhabited GivT]
open Go.ChangeShapes
theorem AV.Le.rslD {n st : Nat} {f g : Nat → List AV} (h : ∀ i, i < n → (g i).length = st ∧ ∀ j, j < st → AV.Le ((f i).getD j .any) ((g i).getD j .any)) : AV.Le (.rsl n st f) (.rsl n st g) := by
 intro S v hv
 cases hv with
 | rsl0 => exact .rsl0
 | rsl hi hb hsz hf hh hcap => exact .rsl hi hb hsz (fun i hi => (h i hi).1) (fun i j hi hj => (h i hi).2 j hj _ _ (hh i j hi hj)) hcap
theorem AV.Le.aggD {cs ds : List AV} (hl : ds.length = cs.length) (h : ∀ j, j < cs.length → AV.Le (cs.getD j .any) (ds.getD j .any)) : AV.Le (.agg cs) (.agg ds) := by
 intro S v hv
 cases hv with
 | agg hn hh => exact .agg (hn.trans hl.symm) fun k hk => h k (by omega) _ _ (hh k (by omega))

/-- Cells that are told. -/
def Told (ks : List CK) (cs : List AV) : Prop := cs.length = ks.length ∧ ∀ j k, ks[j]? = some k → CKA k (cs.getD j .any)

/-- A struct that is handed in. -/
theorem trod_agg {H : Type} {enc : TypeId × Value → H} {P : Program} {W : World} {held : Bool} {sp : Nat → Bool} {t dd : Nat} {v : Value} {d : DataW H} {ps : List MemPlace} {ks : List CK}
  (hk : cellsT P dd t = some ks) (hn : 2 ≤ ks.length) (h : DataW.Trod enc P W 0 sp held t v d ps) : ∃ cs : List AV, Told ks cs ∧ VRel (st0 W) (.agg cs) v := by
 obtain ⟨fuel, h⟩ := h
 obtain ⟨hl, hz⟩ := trod_cells dd fuel t _ _ ks hk h
 cases v with
 | agg vs =>
   simp only [Value.cells] at hl hz
   have hl2 : vs.size = ks.length := by simpa using hl
   have hch : ∀ j : Nat, ∃ av : AV, ∀ (k : CK) (u : Value), ks[j]? = some k → vs[j]? = some u → CKA k av ∧ VRel (st0 W) av u := fun j => by
    cases hkj : ks[j]? with
    | none => exact ⟨.any, fun k u h => by cases h⟩
    | some k =>
      cases hvj : vs[j]? with
      | none => exact ⟨.any, fun k u _ h => by cases h⟩
      | some u =>
        obtain ⟨av, h1, h2⟩ := hz j k u hkj (by simpa using hvj)
        exact ⟨av, fun k' u' e1 e2 => by cases e1; cases e2; exact ⟨h1, h2⟩⟩
   obtain ⟨F, hF⟩ := Classical.axiomOfChoice hch
   have hget : ∀ j, j < ks.length → ((List.range ks.length).map F).getD j .any = F j := fun j hj => by
    rw [List.getD_eq_getElem?_getD, List.getElem?_map, List.getElem?_range hj]; rfl
   refine ⟨(List.range ks.length).map F, ⟨by simp, fun j k hk => ?_⟩, .agg (by simpa using hl2) fun j hj => ?_⟩
   ·have hj := (List.getElem?_eq_some_iff.1 hk).1
    rw [hget j hj]
    exact (hF j k vs[j] hk (by simp [show j < vs.size by omega])).1
   ·have hj : j < ks.length := by simpa using hj
    rw [hget j hj, Array.getD_eq_getD_getElem?, Array.getElem?_eq_getElem (by omega)]
    exact (hF j ks[j] vs[j] (List.getElem?_eq_getElem hj) (by simp [show j < vs.size by omega])).2
 | _ => simp [Value.cells] at hl; omega
/-- A slice of what can be told. -/
theorem told_slice {α : Type} {ks : List CK} (en : α → List AV) (d0 : α) (hd : ∀ cs, Told ks cs → ∃ x : α, (en x).length = ks.length ∧ ∀ j, j < ks.length → AV.Le (cs.getD j .any) ((en x).getD j .any)) {av : AV} (h : CKA (.sl ks) av) :
  ∃ l : List α, l.length ≤ maxLen ∧ AV.Le av (.rsl l.length ks.length fun i => en (l.getD i d0)) := by
 cases h with
 | @sl _ n f hn hl hh =>
   have hch : ∀ i, ∃ x : α, i < n → (en x).length = ks.length ∧ ∀ j, j < ks.length → AV.Le ((f i).getD j .any) ((en x).getD j .any) := fun i => by
    by_cases hi : i < n
    ·obtain ⟨x, h1⟩ := hd (f i) ⟨hl i hi, fun j k hk => hh i j k hi hk⟩
     exact ⟨x, fun _ => h1⟩
    ·exact ⟨d0, fun x => absurd x hi⟩
   obtain ⟨F, hF⟩ := Classical.axiomOfChoice hch
   refine ⟨(List.range n).map F, by simpa using hn, ?_⟩
   rw [List.length_map, List.length_range]
   refine AV.Le.rslD fun i hi => ?_
   have e : ((List.range n).map F).getD i d0 = F i := by
    rw [List.getD_eq_getElem?_getD, List.getElem?_map, List.getElem?_range hi]; rfl
   rw [e]
   exact hF i hi
theorem told_int {cs : List AV} {k : IntKind} (j : Nat) {ks : List CK} (h : Told ks cs) (hk : ks[j]? = some (.int k)) : ∃ z : Int, cs.getD j .any = .lit (.int k z) ∧ (Lit.int k z).wf = true := by
 have := h.2 j _ hk
 generalize cs.getD j .any = x at *
 cases this with
 | int hw => exact ⟨_, rfl, hw⟩
end Go.V
end
section
set_option linter.unusedVariables false
set_option linter.unusedSimpArgs false
set_option maxHeartbeats 4000000
set_option maxRecDepth 100000
namespace Go.Proofs.YtdopkbldjagmlaaGreat
open Go.V
theorem gsample_tri (n : Int) (H : Hp) : PTri Tryz.prog (fnA 34) [i64 n] H (smG n).av := by
 refine Tri.resLe (R1 := fun r H' => r = .ret (.agg [.rsl 3 4 (fun i => [[i64 20, i64 2, i64 12, i64 (-1)], [i64 12, i64 0, i64 n, i64 0], [i64 9, i64 3, i64 12, i64 1]].getD i []), .rsl 2 3 (fun i => [[i64 5, i64 6, i64 7], [i64 4, i64 4, i64 6]].getD i []), i64 8, i64 1, i64 16, .rsl 2 1 (fun i => [[i64 4], [i64 0]].getD i []), .rsl 2 3 (fun i => [[i64 4, i64 0, i64 8], [i64 6, i64 0, i64 8]].getD i [])]) ∧ H' = H) ?_ fun r H' h => .inr ⟨_, (smG n).av, h.1, ?_, rfl, h.2⟩
 ·refine Tri.drop ?_
  refine tri_v0 (fun _ => false) Tryz.func34 (by kernel_rfl) rfl (by simp only [List.length_append, List.length_cons, List.length_nil, Tryz.ntmps34]; decide) ?_
  simp only [vsAll, cellA, cellsA, fillA, okParts, buildSliceA, partIdx, elemsA, lensA, okAll, stAll, opsA, partsA, partsOk, opA, allocA, dstOk, argFr, Nat.reduceAdd, Nat.reduceMul, Nat.reduceLT, Nat.reduceLeDiff, Nat.reduceEqDiff, Int.reduceNeg, ↓reduceIte, reduceCtorEq, eq_self, wtAll, Tryz.ntmps34]
  intro i2 hh_i2; (try simp only [Hp.set_none, ite_none] at hh_i2)
  refine callK_pure (gspan_tri 5 6 _) ?_
  simp only [vsAll, cellA, cellsA, fillA, okParts, okAll, stAll, opsA, partsA, partsOk, opA, dstOk, Nat.reduceAdd, Nat.reduceLT, Nat.reduceLeDiff, Int.reduceNeg, ↓reduceIte, eq_self, wtAll]
  refine callK_pure (gspan_tri 4 4 _) ?_
  simp only [vsAll, loadA, loadRow, partA, partOk, cellA, cellsA, fillA, okParts, buildSliceA, partIdx, elemsA, lensA, partsA, partsOk, opA, newCells, okCells, storeObj, dstOk, resA, retA.eq_1, Nat.reduceAdd, Nat.reduceMul, Nat.reduceLT, Nat.reduceLeDiff, Nat.reduceEqDiff, Int.reduceNeg, ↓reduceIte, eq_self, wtAll, Tryz.results34]
  exact dropR_pure rfl (by (repeat (first | exact HSub_rfl | refine HSub_put_eq (by simp only [vsAll, ↓reduceIte, eq_self, reduceCtorEq, Nat.reduceEqDiff, hh_i2]) ?_ | refine HSub_drop2 (by simp only [eq_self, hh_i2]) ?_ | refine HSub_keep_eq (by simp only [vsAll, ↓reduceIte, eq_self, reduceCtorEq, Nat.reduceEqDiff, hh_i2]) ?_)))
 ·refine AV.Le.aggD rfl fun j hj => ?_
  match j, hj with
  | 0, _ =>
    refine AV.Le.rsl fun i hi => ?_
    match i, hi with
    | 0, _ => rfl
    | 1, _ => rfl
    | 2, _ => rfl
  | 1, _ =>
    refine AV.Le.rsl fun i hi => ?_
    match i, hi with
    | 0, _ => rfl
    | 1, _ => rfl
  | 2, _ => exact AV.Le.refl _
  | 3, _ => exact AV.Le.refl _
  | 4, _ => exact AV.Le.refl _
  | 5, _ =>
    refine AV.Le.rsl fun i hi => ?_
    match i, hi with
    | 0, _ => rfl
    | 1, _ => rfl
  | 6, _ =>
    refine AV.Le.rsl fun i hi => ?_
    match i, hi with
    | 0, _ => rfl
    | 1, _ => rfl
theorem gint2 (a b : Int) : AV.Le (.rsl 2 1 (fun i => [[i64 a], [i64 b]].getD i [])) (intsAV [a, b]) := AV.Le.rsl fun i hi => by
 match i, hi with
 | 0, _ => rfl
 | 1, _ => rfl
theorem gint3 (a b c : Int) : AV.Le (.rsl 3 1 (fun i => [[i64 a], [i64 b], [i64 c]].getD i [])) (intsAV [a, b, c]) := AV.Le.rsl fun i hi => by
 match i, hi with
 | 0, _ => rfl
 | 1, _ => rfl
 | 2, _ => rfl
theorem gint4 (a b c d : Int) : AV.Le (.rsl 4 1 (fun i => [[i64 a], [i64 b], [i64 c], [i64 d]].getD i [])) (intsAV [a, b, c, d]) := AV.Le.rsl fun i hi => by
 match i, hi with
 | 0, _ => rfl
 | 1, _ => rfl
 | 2, _ => rfl
 | 3, _ => rfl
theorem gsp3 (a b c d e f : Int) : AV.Le (.rsl 3 2 (fun i => [[i64 a, i64 b], [i64 c, i64 d], [i64 e, i64 f]].getD i [])) (spaAV [(a, b), (c, d), (e, f)]) := AV.Le.rsl fun i hi => by
 match i, hi with
 | 0, _ => rfl
 | 1, _ => rfl
 | 2, _ => rfl
theorem args2 {f : Nat} {x y y' : AV} {H : Hp} {v : AV} (h : PTri Tryz.prog (fnA f) [x, y'] H v) (hy : AV.Le y y') : PTri Tryz.prog (fnA f) [x, y] H v := Tri.args h rfl fun j hj => by
 match j, hj with
 | 0, _ => exact AV.Le.refl _
 | 1, _ => exact hy
theorem args3 {f : Nat} {x z y y' : AV} {H : Hp} {v : AV} (h : PTri Tryz.prog (fnA f) [x, z, y'] H v) (hy : AV.Le y y') : PTri Tryz.prog (fnA f) [x, z, y] H v := Tri.args h rfl fun j hj => by
 match j, hj with
 | 0, _ => exact AV.Le.refl _
 | 1, _ => exact AV.Le.refl _
 | 2, _ => exact hy
theorem awake_tri (H : Hp) : PTri Tryz.prog (fnA 8) [] H (boo true) := by
 have kn := sm_ok.near
 have kn8 := sm_ok8.near
 refine Tri.drop ?_
 refine tri_v0 (fun _ => false) Tryz.func8 (by kernel_rfl) rfl (by simp only [List.length_append, List.length_nil, Tryz.ntmps8]; decide) ?_
 simp only [vsAll, okAll, stAll, opsA, opA, dstOk, nilSliceOp, Nat.reduceLT, eq_self, Tryz.ntmps8]
 refine callK_pure (gsample_tri 10 _) ?_
 simp only [vsAll, loadA, loadRow, partA, partOk, cellA, okAll, stAll, opsA, opA, allocA, newCells, okCells, storeObj, dstOk, Nat.reduceAdd, Nat.reduceLT, Nat.reduceEqDiff, ↓reduceIte, eq_self, wtAll]
 intro i1 hh_i1; (try simp only [Hp.set_none, ite_none] at hh_i1)
 refine callK_pure (wready_tri (smG 10) 1 _ kn) ?_
 simp only [vsAll, loadA, loadRow, partA, partOk, extractA, cellA, cellsA, okParts, buildSliceA, partIdx, elemsA, lensA, okAll, stAll, opsA, partsA, partsOk, opA, dstOk, nilSliceOp, Nat.reduceAdd, Nat.reduceMul, Nat.reduceLT, Nat.reduceLeDiff, Nat.reduceEqDiff, ↓reduceIte, eq_self, wtAll, sm1, sm2]
 refine callK_pure (args3 (wrow_tri (smG 10) 0 [0, 1, 2] _ kn (by decide)) (gint3 0 1 2)) ?_
 simp only [vsAll, loadA, loadRow, partA, partOk, extractA, cellA, cellsA, okParts, buildSliceA, partIdx, elemsA, lensA, okAll, stAll, opsA, partsA, partsOk, opA, dstOk, nilSliceOp, Nat.reduceAdd, Nat.reduceMul, Nat.reduceLT, Nat.reduceLeDiff, Nat.reduceEqDiff, ↓reduceIte, eq_self, wtAll, sm3, sm4]
 refine callK_pure (args3 (wchk_tri (smG 10) 0 [1, 0] _ kn (by decide)) (gint2 1 0)) ?_
 simp only [vsAll, loadA, loadRow, partA, partOk, extractA, okAll, stAll, opsA, opA, dstOk, nilSliceOp, Nat.reduceAdd, Nat.reduceLT, Nat.reduceEqDiff, ↓reduceIte, eq_self, wtAll, sm5, sm6]
 refine callK_pure (wcan_tri (smG 10) 1 6 _ kn) ?_
 simp only [vsAll, loadA, loadRow, partA, partOk, extractA, okAll, stAll, opsA, opA, dstOk, nilSliceOp, Nat.reduceAdd, Nat.reduceLT, Nat.reduceEqDiff, ↓reduceIte, eq_self, wtAll, sm7, sm8]
 refine callK_pure (wsets_tri (smG 10) 1 _ kn) ?_
 simp only [vsAll, loadA, loadRow, partA, partOk, extractA, okAll, stAll, opsA, opA, dstOk, nilSliceOp, Nat.reduceAdd, Nat.reduceLT, Nat.reduceEqDiff, ↓reduceIte, eq_self, wtAll, sm9, sm10]
 refine callK_pure (wdeal_tri (smG 10) _ kn) ?_
 simp only [vsAll, loadA, loadRow, partA, partOk, extractA, okAll, stAll, opsA, opA, dstOk, nilSliceOp, Nat.reduceAdd, Nat.reduceLT, Nat.reduceEqDiff, ↓reduceIte, eq_self, wtAll, sm11, sm12, sm13]
 refine callK_pure (wenough_tri (smG 10) _ kn) ?_
 simp only [vsAll, extractA, okAll, stAll, opsA, opA, dstOk, nilSliceOp, Nat.reduceAdd, Nat.reduceLT, Nat.reduceEqDiff, ↓reduceIte, eq_self, sm14, sm15]
 refine callK_pure (gsample_tri 8 _) ?_
 simp only [vsAll, okAll, stAll, opsA, opA, dstOk, Nat.reduceLT, ↓reduceIte, eq_self]
 refine callK_pure (wleave_tri (smG 8) _ kn8) ?_
 simp only [vsAll, loadA, loadRow, partA, partOk, extractA, okAll, stAll, opsA, opA, dstOk, nilSliceOp, Nat.reduceAdd, Nat.reduceLT, Nat.reduceEqDiff, ↓reduceIte, eq_self, wtAll, sm16, sm17]
 refine callK_pure (wcan_tri (smG 10) 0 7 _ kn) ?_
 simp only [vsAll, binA, binLitA, intA, extractA, pickA, opA, guardV, dstOk, nilSliceOp, Nat.reduceAdd, Nat.reduceLT, Nat.reduceEqDiff, ↓reduceIte, implies_true, eq_self, sm18, sm19]
 refine gcall _ (fun hg => ⟨by simp only [vsAll, opA], by simp only [vsAll, okAll, opsA, opA], gspan_tri 6 6 _⟩) ?_
 simp only [vsAll, guardV, dstOk, Nat.reduceLT, Nat.reduceEqDiff, ↓reduceIte, eq_self]
 refine gcall _ (fun hg => ⟨by simp only [vsAll, opA], by simp only [vsAll, okAll, opsA, opA], gspan_tri 8 9 _⟩) ?_
 simp only [vsAll, guardV, dstOk, Nat.reduceLT, Nat.reduceEqDiff, ↓reduceIte, eq_self]
 refine gcall _ (fun hg => ⟨by simp only [vsAll, opA], by simp only [vsAll, okAll, opsA, opA], gspan_tri 10 11 _⟩) ?_
 simp only [vsAll, cellsA, okParts, buildSliceA, partIdx, elemsA, lensA, partsA, partsOk, opA, guardV, dstOk, Nat.reduceAdd, Nat.reduceMul, Nat.reduceLT, Nat.reduceLeDiff, Nat.reduceEqDiff, ↓reduceIte, eq_self, wtAll]
 refine gcall (boo true) (fun hg => ⟨by simp only [vsAll, opA], by simp only [vsAll, okAll, opsA, opA, Nat.reduceEqDiff, ↓reduceIte, eq_self], args2 (gspans_tri [(6, 6), (8, 9), (10, 11)] [(6, 6), (8, 9), (10, 11)] _ (by decide) (by decide)) (gsp3 6 6 8 9 10 11)⟩) ?_
 simp only [vsAll, binA, binLitA, intA, unA, cellA, cellsA, okParts, buildSliceA, partIdx, elemsA, lensA, pickA, partsA, partsOk, opA, guardV, dstOk, Nat.reduceAdd, Nat.reduceMul, Nat.reduceLT, Nat.reduceLeDiff, Nat.reduceEqDiff, ↓reduceIte, implies_true, eq_self, wtAll]
 refine gcall (boo true) (fun hg => ⟨by simp only [vsAll, opA], by simp only [vsAll, okAll, opsA, opA, Nat.reduceEqDiff, ↓reduceIte, eq_self], args2 (gints_tri [1, 2] [1, 2] _ (by decide) (by decide)) (gint2 1 2)⟩) ?_
 simp only [vsAll, binA, binLitA, intA, unA, cellA, cellsA, okParts, buildSliceA, partIdx, elemsA, lensA, pickA, partsA, partsOk, opA, guardV, dstOk, Nat.reduceAdd, Nat.reduceMul, Nat.reduceLT, Nat.reduceLeDiff, Nat.reduceEqDiff, ↓reduceIte, implies_true, eq_self, wtAll]
 refine gcall (boo true) (fun hg => ⟨by simp only [vsAll, opA], by simp only [vsAll, okAll, opsA, opA, Nat.reduceEqDiff, ↓reduceIte, eq_self], args2 (gints_tri [0, 1, 2] [0, 1, 2] _ (by decide) (by decide)) (gint3 0 1 2)⟩) ?_
 simp only [vsAll, binA, binLitA, intA, unA, cellA, cellsA, okParts, buildSliceA, partIdx, elemsA, lensA, pickA, okAll, stAll, opsA, partsA, partsOk, opA, guardV, dstOk, Nat.reduceAdd, Nat.reduceMul, Nat.reduceLT, Nat.reduceLeDiff, Nat.reduceEqDiff, ↓reduceIte, implies_true, eq_self, wtAll]
 refine callK_pure (v := boo true) (args2 (gints_tri [0, 2, 4, 6] [0, 2, 4, 6] _ (by decide) (by decide)) (gint4 0 2 4 6)) ?_
 simp only [vsAll, binA, binLitA, intA, cellA, cellsA, okParts, buildSliceA, partIdx, elemsA, lensA, pickA, partsA, partsOk, opA, guardV, dstOk, Nat.reduceAdd, Nat.reduceMul, Nat.reduceLT, Nat.reduceLeDiff, Nat.reduceEqDiff, ↓reduceIte, implies_true, eq_self, wtAll]
 refine gcall (boo true) (fun hg => ⟨by simp only [vsAll, opA], by simp only [vsAll, okAll, opsA, opA, Nat.reduceEqDiff, ↓reduceIte, eq_self], args2 (gints_tri [0, 0, 1] [0, 0, 1] _ (by decide) (by decide)) (gint3 0 0 1)⟩) ?_
 simp only [vsAll, binA, binLitA, intA, pickA, opA, guardV, dstOk, nilSliceOp, resA, retA.eq_1, Nat.reduceLT, Nat.reduceEqDiff, ↓reduceIte, implies_true, eq_self, Tryz.results8]
 exact dropR_pure rfl (by (repeat (first | exact HSub_rfl | refine HSub_put_eq (by simp only [vsAll, ↓reduceIte, eq_self, reduceCtorEq, Nat.reduceEqDiff, hh_i1]) ?_ | refine HSub_drop2 (by simp only [eq_self, hh_i1]) ?_ | refine HSub_keep_eq (by simp only [vsAll, ↓reduceIte, eq_self, reduceCtorEq, Nat.reduceEqDiff, hh_i1]) ?_)))
end Go.Proofs.YtdopkbldjagmlaaGreat
end
section
set_option linter.unusedVariables false
set_option linter.unusedSimpArgs false
set_option maxHeartbeats 4000000
set_option maxRecDepth 100000
namespace Go.Proofs.YtdopkbldjagmlaaGreat
open Go.V
/-- Places of one pot, at least 1. -/
def hvM (g : Gg) : Nat := (max 1 ((g.pt.fs.length : Int) * g.pt.hr)).toNat
def heavyB (g : Gg) (n : Nat) (a b : Int) : Bool := if farG g n = true then true else if OkG g then decide (a < ((hvM g ^ g.pt.ps.length : Nat) : Int)) || decide (b < (g.sm.length : Int)) else false
theorem heavy_far {g : Gg} {n : Nat} {a b : Int} (h : heavyB g n a b = false) : farG g n = false := by
 unfold heavyB at h
 split at h
 ·cases h
 ·rename_i h1
  simpa using h1
theorem hvM_eq {g : Gg} (k : OkG g) : ((hvM g : Nat) : Int) = max 1 ((g.pt.fs.length : Int) * g.pt.hr) ∧ 1 ≤ hvM g ∧ hvM g ≤ 36 := by
 have h1 := k.p.hr
 have h2 := k.p.nF
 unfold hvM
 have h3 : (g.pt.fs.length : Int) * g.pt.hr ≤ 3 * g.pt.hr := Int.mul_le_mul_of_nonneg_right (by omega) h1.1
 generalize (g.pt.fs.length : Int) * g.pt.hr = q at *
 omega
theorem heavy_tri (g : Gg) (l : List Int) (a b : Int) (H : Hp) : PTri Tryz.prog (fnA 7) [g.av, intsAV l, i64 a, i64 b] H (boo (heavyB g l.length a b)) := by
 refine tri_v0 (fun _ => false) Tryz.func7 (by kernel_rfl) rfl (by simp only [List.length_append, List.length_cons, List.length_nil, Tryz.ntmps7]; decide) ?_
 simp only [vsAll, loadA, loadRow, partA, partOk, boxA, boxZ, okAll, stAll, opsA, opA, dstOk, nilSliceOp, argFr, Nat.reduceAdd, Nat.reduceLT, Nat.reduceEqDiff, ↓reduceIte, eq_self, wtAll, Tryz.ntmps7]
 refine callK_pure (gfar_tri g l _) ?_
 simp only [vsAll, loadA, loadRow, partA, partOk, opA, guardV, dstOk, Nat.reduceLT, Nat.reduceEqDiff, ↓reduceIte, implies_true, eq_self, wtAll]
 refine gcall (boo (decide (OkG g))) (fun hg => ⟨by simp only [vsAll, opA], by simp only [vsAll, okAll, opsA, opA, ↓reduceIte, eq_self, hg], gangs_tri g _ (farG_near (n := l.length) (by simpa using hg)).1⟩) ?_
 simp only [vsAll, unA, loadA, loadRow, partA, partOk, fieldAddrA, pickA, opA, guardV, dstOk, Nat.reduceAdd, Nat.reduceLT, Nat.reduceEqDiff, ↓reduceIte, implies_true, eq_self, wtAll]
 refine gcall (boo (decide (Ok g.pt))) (fun hg => ⟨by simp only [vsAll, opA], by simp only [vsAll, okAll, opsA, opA, ↓reduceIte, eq_self, hg], rpitch_tri g.pt _ (farG_near (n := l.length) (by
  cases h : farG g l.length with
  | false => rfl
  | true => rw [h] at hg; simp at hg)).1.p⟩) ?_
 simp only [vsAll, unA, pickA, opA, guardV, dstOk, Nat.reduceLT, Nat.reduceEqDiff, ↓reduceIte, implies_true, eq_self]
 refine condV (fun hc => ?_) (fun hc => ?_)
 ·have e : heavyB g l.length a b = farG g l.length := by
   unfold heavyB
   cases hf : farG g l.length with
   | true => rfl
   | false =>
     rw [hf] at hc
     have hn : ¬ OkG g := fun k => by
      have kp := k.p
      rw [decide_eq_true k, decide_eq_true kp] at hc
      cases hc
     rw [if_neg (by decide), if_neg hn]
  rw [e]
  simp only [vsAll, loadA, loadRow, partA, partOk, okAll, stAll, opsA, opA, dstOk, argFr, Nat.reduceLT, Nat.reduceEqDiff, ↓reduceIte, eq_self, wtAll]
  refine callK_pure (gfar_tri g l _) ?_
  simp only [vsAll, opA, dstOk, nilSliceOp, resA, retA.eq_1, Nat.reduceLT, ↓reduceIte, eq_self, Tryz.results7]
 ·have hf : farG g l.length = false := by
   cases h : farG g l.length with
   | false => rfl
   | true => rw [h] at hc; simp at hc
  have k : OkG g := by
   rw [hf] at hc
   by_cases k : OkG g
   ·exact k
   ·rw [decide_eq_false k] at hc; simp at hc
  have e : heavyB g l.length a b = (decide (a < ((hvM g ^ g.pt.ps.length : Nat) : Int)) || decide (b < (g.sm.length : Int))) := by
   unfold heavyB
   rw [if_neg (by rw [hf]; decide), if_pos k]
  have nP := k.p.nP
  have nF := k.p.nF
  have hr := k.p.hr
  have nS := k.nS
  obtain ⟨m1, m2, m3⟩ := hvM_eq k
  have hq : 0 ≤ (g.pt.fs.length : Int) * g.pt.hr ∧ (g.pt.fs.length : Int) * g.pt.hr ≤ 36 := by
   have h3 : (g.pt.fs.length : Int) * g.pt.hr ≤ 3 * g.pt.hr := Int.mul_le_mul_of_nonneg_right (by omega) hr.1
   have h4 : 0 ≤ (g.pt.fs.length : Int) * g.pt.hr := Int.mul_nonneg (by omega) hr.1
   omega
  have hpw : ∀ i, i ≤ 4 → hvM g ^ i ≤ 1679616 := fun i hi => by
   have a1 : hvM g ^ i ≤ 36 ^ i := Nat.pow_le_pow_left m3 i
   have a2 : 36 ^ i ≤ 36 ^ 4 := Nat.pow_le_pow_right (by decide) hi
   omega
  rw [e]
  simp only [vsAll, loadA, loadRow, partA, partOk, fieldAddrA, lenA, opA, dstOk, nilSliceOp, Nat.reduceAdd, Nat.reduceLT, Nat.reduceEqDiff, ↓reduceIte, eq_self, wtAll]
  refine vs_loop (σ := Nat) (fun i => i ≤ g.pt.ps.length) (fun i => [(2, i64 a), (3, i64 b), (4, gptr g), (9, i64 (hvM g ^ i : Nat)), (30, i64 g.pt.ps.length), (31, i64 i)]) (fun _ => H) (fun i => g.pt.ps.length - i) 0 (Nat.zero_le _) ?_ HSub_rfl fun i hi => ?_
  ·simp only [vsAll, argFr, Nat.reduceEqDiff, ↓reduceIte, eq_self, Int.natCast_zero, Nat.pow_zero]
   try exact AV.Le.refl _
  ·simp only [vsAll, binA, binLitA, intA, opA, dstOk, Nat.reduceLT, Nat.reduceEqDiff, ↓reduceIte, eq_self]
   refine condD (fun hd => ?_) (fun hd => ?_)
   ·have his : i < g.pt.ps.length := by omega
    have b1 := hpw i (by omega)
    have b2 := hpw (i + 1) (by omega)
    have e2 : ((hvM g ^ i : Nat) : Int) * ((hvM g : Nat) : Int) = ((hvM g ^ (i + 1) : Nat) : Int) := by rw [Nat.pow_succ, Int.natCast_mul]
    simp only [vsAll, binA, binLitA, intA, loadA, loadRow, partA, partOk, fieldAddrA, lenA, mmA, okAll, stAll, opsA, opA, dstOk, nilSliceOp, Nat.reduceAdd, Nat.reduceLT, Nat.reduceEqDiff, ↓reduceIte, eq_self, wtAll, ← m1, e2]
    refine ⟨by simp only [InR_i64]; omega, by simp only [InR_i64]; omega, by simp only [InR_i64]; omega, loop_next (i + 1) his (by omega) ?_ HSub_rfl⟩
    simp only [vsAll, Nat.reduceEqDiff, ↓reduceIte, eq_self, Int.natCast_add, Int.natCast_one]
   ·have ei : i = g.pt.ps.length := by omega
    subst ei
    simp only [vsAll, binA, binLitA, intA, loadA, loadRow, partA, partOk, fieldAddrA, lenA, pickA, opA, guardV, dstOk, nilSliceOp, resA, retA.eq_1, Nat.reduceLT, Nat.reduceEqDiff, ↓reduceIte, implies_true, eq_self, wtAll, Tryz.results7]
theorem heavy0_tri (g : Gg) (a b : Int) (H : Hp) : PTri Tryz.prog (fnA 7) [g.av, .lit (.slice none 0 0), i64 a, i64 b] H (boo (heavyB g 0 a b)) := Tri.args (heavy_tri g [] a b H) rfl fun j hj => by
 match j, hj with
 | 0, _ => exact AV.Le.refl _
 | 1, _ => exact AV.Le.nil _ _
 | 2, _ => exact AV.Le.refl _
 | 3, _ => exact AV.Le.refl _
theorem looks_law (g : Gg) (crew seams : Int) (H : Hp) : PTri Tryz.prog (fnA 4) [g.av, i64 crew, i64 seams] H (boo true) := by
 refine tri_v0 (fun _ => false) Tryz.func4 (by kernel_rfl) rfl (by simp only [List.length_append, List.length_cons, List.length_nil, Tryz.ntmps4]; decide) ?_
 simp only [vsAll, loadA, loadRow, partA, partOk, boxA, boxZ, okAll, stAll, opsA, opA, dstOk, nilSliceOp, argFr, Nat.reduceAdd, Nat.reduceLT, Nat.reduceEqDiff, ↓reduceIte, eq_self, wtAll, Tryz.ntmps4]
 refine callK_pure (heavy0_tri g 1000 5 _) ?_
 simp only [vsAll, opA, ↓reduceIte, eq_self]
 refine condV (fun hc => ?_) (fun hc => ?_)
 ·simp only [vsAll, okAll, stAll, opsA, opA, dstOk, Nat.reduceLT]
  refine callK_pure (awake_tri _) ?_
  simp only [vsAll, opA, dstOk, nilSliceOp, resA, retA.eq_1, Nat.reduceLT, ↓reduceIte, eq_self, Tryz.results4]
 ·obtain ⟨kn, hl⟩ := farG_near (heavy_far hc)
  have hv : (canV g crew seams).length < 2 ^ 60 := by
   have hE : canE g crew seams = 0 → OkG g ∧ vCan g crew seams = true := fun h => by
    unfold canE at h
    split at h
    ·rename_i h1; exact errG_zero h1
    ·exact errG_zero h
   by_cases h : canE g crew seams = 0
   ·obtain ⟨k, hv⟩ := hE h
    unfold vCan isSet at hv
    simp only [Bool.and_eq_true, decide_eq_true_eq] at hv
    obtain ⟨hv1, hn0, hn1⟩ := hv
    have hS : seams.toNat < 2 ^ g.N := by
     have := Nat.two_pow_pos g.N
     omega
    unfold canV
    rw [if_pos h]
    cases hh : (rowsL g crew.toNat seams.toNat).head? with
    | none => decide
    | some l =>
      have hm := (mem_rows hS).1 (head_mem hh)
      have := pop5 (lt32 k.nS hS)
      show l.length < 2 ^ 60
      omega
   ·have : canV g crew seams = [] := if_neg h
    rw [this]; decide
  have hs : (setsV g crew).length < 2 ^ 60 := by
   by_cases h : setsE g crew = 0
   ·obtain ⟨k, _⟩ := errG_zero h
    have e : setsV g crew = stsN g crew.toNat (2 ^ g.N) := if_pos h
    have h1 := stsN_len g crew.toNat (2 ^ g.N)
    have h2 : 2 ^ g.N ≤ 2 ^ 5 := Nat.pow_le_pow_right (by decide) k.nS
    rw [e]; omega
   ·have : setsV g crew = [] := if_neg h
    rw [this]; decide
  have hin := gints_tri (canV g crew seams) (canV g crew seams)
  rw [decide_eq_true (rfl : canV g crew seams = canV g crew seams)] at hin
  have hin2 := gints_tri (setsV g crew) (setsV g crew)
  rw [decide_eq_true (rfl : setsV g crew = setsV g crew)] at hin2
  simp only [vsAll, loadA, loadRow, partA, partOk, okAll, stAll, opsA, opA, dstOk, argFr, Nat.reduceLT, Nat.reduceEqDiff, ↓reduceIte, eq_self, wtAll]
  refine callK_pure (wcan_tri g crew seams _ kn) ?_
  simp only [vsAll, loadA, loadRow, partA, partOk, extractA, okAll, stAll, opsA, opA, dstOk, nilSliceOp, argFr, Nat.reduceAdd, Nat.reduceLT, Nat.reduceEqDiff, ↓reduceIte, eq_self, wtAll]
  refine callK_pure (dcan_tri g crew seams _ kn) ?_
  simp only [vsAll, loadA, loadRow, partA, partOk, extractA, okAll, stAll, opsA, opA, dstOk, nilSliceOp, argFr, Nat.reduceAdd, Nat.reduceLT, Nat.reduceEqDiff, ↓reduceIte, eq_self, wtAll]
  refine callK_pure (wsets_tri g crew _ kn) ?_
  simp only [vsAll, loadA, loadRow, partA, partOk, extractA, okAll, stAll, opsA, opA, dstOk, nilSliceOp, argFr, Nat.reduceAdd, Nat.reduceLT, Nat.reduceEqDiff, ↓reduceIte, eq_self, wtAll]
  refine callK_pure (dsets_tri g crew _ kn) ?_
  simp only [vsAll, extractA, okAll, stAll, opsA, opA, dstOk, nilSliceOp, Nat.reduceAdd, Nat.reduceLT, Nat.reduceEqDiff, ↓reduceIte, eq_self]
  refine callK_pure (hin _ hv hv) ?_
  simp only [vsAll, binA, binLitA, intA, pickA, opA, guardV, dstOk, Nat.reduceLT, Nat.reduceEqDiff, ↓reduceIte, implies_true, eq_self]
  refine gcall (boo true) (fun g => ⟨by simp only [vsAll, opA], by simp only [vsAll, okAll, opsA, opA, Nat.reduceEqDiff, ↓reduceIte, eq_self], hin2 _ hs hs⟩) ?_
  simp only [vsAll, binA, binLitA, intA, pickA, opA, guardV, dstOk, Nat.reduceLT, Nat.reduceEqDiff, ↓reduceIte, implies_true, eq_self]
  refine gcall (boo true) (fun g => ⟨trivial, by simp only [okAll, opsA], awake_tri _⟩) ?_
  simp only [vsAll, pickA, opA, dstOk, nilSliceOp, resA, retA.eq_1, Nat.reduceLT, Nat.reduceEqDiff, ↓reduceIte, implies_true, eq_self, Tryz.results4]
end Go.Proofs.YtdopkbldjagmlaaGreat
end
section
set_option linter.unusedVariables false
namespace Go.Proofs.YtdopkbldjagmlaaGreat
open Go.V
def byF (b : Nat → Int) : Nat → List AV := fun i => [.lit (.int .u8 (b i))]
end Go.Proofs.YtdopkbldjagmlaaGreat
end
section
set_option linter.unusedVariables false
set_option linter.unusedSimpArgs false
set_option maxRecDepth 100000
namespace Go.Proofs.YtdopkbldjagmlaaGreat
open Go.V Go.ChangeShapes Go.WideShapes Go.ChangeAt Go.RowKit
theorem gang_cells : cellsT Tryz.prog 9 29 = some [.sl [.int .i64, .int .i64, .int .i64, .int .i64], .sl [.int .i64, .int .i64, .int .i64], .int .i64, .int .i64, .int .i64, .sl [.int .i64], .sl [.int .i64, .int .i64, .int .i64]] := by kernel_rfl
theorem ints_of {av : AV} (h : CKA (.sl [.int .i64]) av) : ∃ l : List Int, l.length ≤ maxLen ∧ AV.Le av (intsAV l) := by
 obtain ⟨l, h1, h2⟩ := told_slice (α := Int) (fun z => [i64 z]) 0 (fun cs hcs => by
  obtain ⟨z, hz, _⟩ := told_int 0 hcs rfl
  exact ⟨z, rfl, fun j hj => by
   match j, hj with
   | 0, _ => rw [hz]; exact AV.Le.refl _⟩) h
 exact ⟨l, h1, h2⟩
theorem seams_of {av : AV} (h : CKA (.sl [.int .i64, .int .i64, .int .i64, .int .i64]) av) : ∃ l : List Sm, l.length ≤ maxLen ∧ AV.Le av (smAV l) := by
 obtain ⟨l, h1, h2⟩ := told_slice (α := Sm) Sm.cs sm0 (fun cs hcs => by
  obtain ⟨a, ha, _⟩ := told_int 0 hcs rfl
  obtain ⟨b, hb, _⟩ := told_int 1 hcs rfl
  obtain ⟨c, hc, _⟩ := told_int 2 hcs rfl
  obtain ⟨d, hd, _⟩ := told_int 3 hcs rfl
  exact ⟨⟨a, b, c, d⟩, rfl, fun j hj => by
   match j, hj with
   | 0, _ => rw [ha]; exact AV.Le.refl _
   | 1, _ => rw [hb]; exact AV.Le.refl _
   | 2, _ => rw [hc]; exact AV.Le.refl _
   | 3, _ => rw [hd]; exact AV.Le.refl _⟩) h
 exact ⟨l, h1, h2⟩
theorem crews_of {av : AV} (h : CKA (.sl [.int .i64, .int .i64, .int .i64]) av) : ∃ l : List Cw, l.length ≤ maxLen ∧ AV.Le av (cwAV l) := by
 obtain ⟨l, h1, h2⟩ := told_slice (α := Cw) Cw.cs cw0 (fun cs hcs => by
  obtain ⟨a, ha, _⟩ := told_int 0 hcs rfl
  obtain ⟨b, hb, _⟩ := told_int 1 hcs rfl
  obtain ⟨c, hc, _⟩ := told_int 2 hcs rfl
  exact ⟨⟨a, b, c⟩, rfl, fun j hj => by
   match j, hj with
   | 0, _ => rw [ha]; exact AV.Le.refl _
   | 1, _ => rw [hb]; exact AV.Le.refl _
   | 2, _ => rw [hc]; exact AV.Le.refl _⟩) h
 exact ⟨l, h1, h2⟩
theorem pots_of {av : AV} (h : CKA (.sl [.int .i64, .int .i64, .int .i64]) av) : ∃ l : List Po, l.length ≤ maxLen ∧ AV.Le av (psAV l) := by
 obtain ⟨l, h1, h2⟩ := told_slice (α := Po) Po.cs po0 (fun cs hcs => by
  obtain ⟨a, ha, _⟩ := told_int 0 hcs rfl
  obtain ⟨b, hb, _⟩ := told_int 1 hcs rfl
  obtain ⟨c, hc, _⟩ := told_int 2 hcs rfl
  exact ⟨⟨a, b, c⟩, rfl, fun j hj => by
   match j, hj with
   | 0, _ => rw [ha]; exact AV.Le.refl _
   | 1, _ => rw [hb]; exact AV.Le.refl _
   | 2, _ => rw [hc]; exact AV.Le.refl _⟩) h
 exact ⟨l, h1, h2⟩
theorem gang_rel {H : Type} {enc : TypeId × Value → H} {W : World} {sp : Nat → Bool} {held : Bool} {v : Value} {d : DataW H} {ps : List MemPlace}
  {base : Nat} (hv : Value.okWide Tryz.prog W .any base 29 v) (h : DataW.Trod enc Tryz.prog W 0 sp held 29 v d ps) : ∃ g : Gg, True ∧ VRel (st0 W) g.av v := by
 obtain ⟨cs, hcs, hv⟩ := trod_agg gang_cells (by decide) h
 obtain ⟨sm, l0, h0⟩ := seams_of (hcs.2 0 _ rfl)
 obtain ⟨cw, l1, h1⟩ := crews_of (hcs.2 1 _ rfl)
 obtain ⟨hr, h2, _⟩ := told_int 2 hcs rfl
 obtain ⟨fro, h3, _⟩ := told_int 3 hcs rfl
 obtain ⟨per, h4, _⟩ := told_int 4 hcs rfl
 obtain ⟨fs, l5, h5⟩ := ints_of (hcs.2 5 _ rfl)
 obtain ⟨ps, l6, h6⟩ := pots_of (hcs.2 6 _ rfl)
 refine ⟨⟨sm, cw, ⟨hr, fro, per, fs, ps⟩⟩, trivial, AV.Le.aggD (cs := cs) hcs.1.symm (fun j hj => ?_) _ _ hv⟩
 have hj7 : j < 7 := by have := hcs.1; simp at this; omega
 match j, hj7 with
 | 0, _ => exact h0
 | 1, _ => exact h1
 | 2, _ => rw [h2]; exact AV.Le.refl _
 | 3, _ => rw [h3]; exact AV.Le.refl _
 | 4, _ => rw [h4]; exact AV.Le.refl _
 | 5, _ => exact h5
 | 6, _ => exact h6
theorem Tryz.own : ownKnob Tryz.prog.godebug = none := by kernel_rfl
theorem u3 : Tryz.prog.underlying 3 = some (.int .i64) := by kernel_rfl
theorem u4 : Tryz.prog.underlying 4 = some .bool := by kernel_rfl
def iz : Value → Int
 | .int _ n => n
 | _ => 0
end Go.Proofs.YtdopkbldjagmlaaGreat
end
section
set_option linter.unusedVariables false
set_option linter.unusedSimpArgs false
set_option maxRecDepth 100000
namespace Go.Proofs.YtdopkbldjagmlaaGreat
open Go.V Go.ChangeShapes Go.WideShapes Go.ChangeAt Go.RowKit
theorem gangLooks_lifted (os : Os) (started : os.Started) (H : Type) (enc : TypeId × Value → H) :
  ReturnsInHanded {} Tryz.checked os 4 .any (Rows.gangLooksSpec.pre6 enc Tryz.prog Tryz.f4 Rows.gangLooksRow.domain false) (Rows.gangLooksSpec.post enc Tryz.prog Tryz.f4 false true false false) := by
 refine returnsInHanded_of_change (C := Tryz.checked) Tryz.own started (by kernel_rfl) Tryz.func4
  (ChangeSpec.witness6 (enc := enc) (C := Tryz.checked) false ⟨#[], #[.agg #[.slice none 0 0, .slice none 0 0, .int .i64 0, .int .i64 0, .int .i64 0, .slice none 0 0, .slice none 0 0], .int .i64 0, .int .i64 0], []⟩ 8 (by kernel_rfl) (by kernel_rfl) (by kernel_rfl) (by kernel_rfl)) ?_
 intro W base args ds gs before hval hW hcnd _
 have hW' := hW
 obtain ⟨p, q, hA, hV, rfl, hfz, hnd⟩ := hW
 obtain ⟨rfl, rfl⟩ := trodVars_none hV
 rw [show Tryz.f4.params.toList = [29, 3, 3] from by kernel_rfl] at hA
 obtain ⟨v0, v1, v2, d0, d1, d2, p0, p1, p2, rfl, rfl, rfl, h0, h1, h2⟩ := trodAll_three hA
 have hval : ∀ (j : Nat) t v, Tryz.f4.params[j]? = some t → (#[v0, v1, v2] : Array Value)[j]? = some v → Value.okWide Tryz.prog W .any base t v := hval
 rw [show Tryz.f4.params = #[29, 3, 3] from by kernel_rfl] at hval
 obtain ⟨x0, b0, r0⟩ := gang_rel (hval 0 29 v0 rfl rfl) h0
 obtain ⟨x1, rfl, rfl, rfl, w1⟩ := open_int u3 (hval 1 3 v1 rfl rfl) h1
 obtain ⟨x2, rfl, rfl, rfl, w2⟩ := open_int u3 (hval 2 3 v2 rfl rfl) h2
 refine (law_calls (W := W) (args := #[v0, .int .i64 x1, .int .i64 x2]) Tryz.func4 (by kernel_rfl) rfl (Tri.mono (looks_law x0 x1 x2 H0 ) ?_) (fun p hp => by cases hp) ⟨rfl, fun k hk => match k, hk with | 0, _ => r0 | 1, _ => .lit _ | 2, _ => .lit _⟩).mono fun e W' he => ?_
 ·rintro r H' ⟨rfl, _⟩; rfl
 ·obtain ⟨rfl, hh, ho, hp⟩ := he
  exact ⟨_, rfl, law_post (d := 6) rfl (tb := 4) (by kernel_rfl) u4 (by decide +kernel) hW' rfl hh ho hp⟩

theorem gangLooks_holds : Rows.GangLooksSaid :=
 OpenClaim.holds_of_wide (p := Tryz.pinned) (s := Rows.gangLooksSpec) (c := Rows.gangLooksRow) 4 Tryz.f4 rfl rfl rfl rfl rfl rfl rfl ⟨rfl, rfl, rfl, rfl, rfl⟩ rfl rfl rfl rfl rfl (by kernel_rfl) Tryz.func4 (by kernel_rfl)
  (of_decide_eq_true (by kernel_rfl)) (by unfold Func.isWrapper; first | (rw [if_pos (by decide +kernel)]; kernel_rfl) | (rw [if_neg (by decide +kernel)]; exact ⟨rfl, rfl⟩))
  (fun os started H enc _ => gangLooks_lifted os started H enc)

end Go.Proofs.YtdopkbldjagmlaaGreat
end
