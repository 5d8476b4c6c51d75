/- WHAT IS PROVED: the given statement of this claim. Conditions: none beyond the given row. -/
import Derived.Test.YtdopkbldjagmlaaRows
import Derived.ChangeVars
import Derived.Test.YtdopkbldjagmlaaMo5
section
set_option linter.unusedVariables false
set_option linter.unusedSimpArgs false
namespace Go.Proofs.Ytdopkbldjagmlaa
open Go.V
/-- Seams of some gangs are those of others, by other numbers. -/
structure RenS (h g : Gg) (φ : Nat → Nat) : Prop where
 s : ∀ n, n < h.N → φ n < g.N ∧ begV h n = begV g (φ n) ∧ (h.seam n).fa = (g.seam (φ n)).fa ∧ (h.seam n).fl = (g.seam (φ n)).fl
 i : ∀ n m, n < h.N → m < h.N → φ n = φ m → n = m
/-- A crew is another one, by other numbers of seams. -/
structure RenC (h g : Gg) (φ : Nat → Nat) (c d : Nat) : Prop where
 lo : (h.crew c).lo = (g.crew d).lo
 hi : (h.crew c).hi = (g.crew d).hi
 k : ∀ n, n < h.N → (h.crew c).st.toNat.testBit n = (g.crew d).st.toNat.testBit (φ n)
structure Ren (h g : Gg) (φ ψ : Nat → Nat) : Prop extends RenS h g φ where
 c : ∀ c, c < h.cw.length → ψ c < g.cw.length ∧ RenC h g φ c (ψ c)
def mpL (φ : Nat → Nat) (l : List Int) : List Int := l.map fun x => ((φ x.toNat : Nat) : Int)
theorem mpL_len (φ : Nat → Nat) (l : List Int) : (mpL φ l).length = l.length := by simp [mpL]
theorem mpL_at (φ : Nat → Nat) (l : List Int) {i : Nat} (h : i < l.length) : (mpL φ l).getD i 0 = ((φ (l.getD i 0).toNat : Nat) : Int) := by
 simp [mpL, List.getD_eq_getElem?_getD, h]
/-- All of a list are seams. -/
def InG (h : Gg) (l : List Int) : Prop := ∀ i, i < l.length → ∃ n : Nat, l.getD i 0 = (n : Int) ∧ n < h.N
theorem ren_don {h g : Gg} {φ : Nat → Nat} (R : RenS h g φ) (sp : Int) {l : List Int} (hl : InG h l) : ∀ i, i ≤ l.length → donN g sp (mpL φ l) i = donN h sp l i
 | 0, _ => rfl
 | i + 1, hi => by
   obtain ⟨n, e, hn⟩ := hl i (by omega)
   obtain ⟨s1, s2, s3, s4⟩ := R.s n hn
   simp only [donN]
   rw [ren_don R sp hl i (by omega), mpL_at φ l (by omega), e, Int.toNat_natCast, Int.toNat_natCast]
   unfold stT tkG
   rw [s2, s3]
theorem ren_kn {h g : Gg} {φ : Nat → Nat} {c d : Nat} (R : RenS h g φ) (rc : RenC h g φ c d) {n : Nat} (hn : n < h.N) : knB g d (φ n) = knB h c n := by
 unfold knB
 rw [rc.k n hn, (R.s n hn).2.1]
theorem ren_rgt {h g : Gg} {φ : Nat → Nat} {c d : Nat} (R : RenS h g φ) (rc : RenC h g φ c d) {l : List Int} (hl : InG h l) : rgtB g d (mpL φ l) = rgtB h c l := by
 rw [Bool.eq_iff_iff, rgt_iff, rgt_iff, mpL_len]
 refine forall_congr' fun i => forall_congr' fun hi => ?_
 obtain ⟨n, e, hn⟩ := hl i hi
 rw [mpL_at φ l hi, e, Int.toNat_natCast, Int.toNat_natCast, ren_kn R rc hn, ren_don R _ hl _ hi, (R.s n hn).2.2.2, rc.lo]
/-- A set, by the other numbers. -/
def Img (h : Gg) (φ : Nat → Nat) (S T : Nat) : Prop := S < 2 ^ h.N ∧ ∀ n, T.testBit n = true ↔ ∃ m, S.testBit m = true ∧ φ m = n
theorem Img.lt {h g : Gg} {φ : Nat → Nat} (R : RenS h g φ) {S T : Nat} (I : Img h φ S T) : T < 2 ^ g.N := by
 refine Nat.lt_pow_two_of_testBit _ fun i hi => ?_
 cases e : T.testBit i with
 | false => rfl
 | true =>
   obtain ⟨m, h1, h2⟩ := (I.2 i).1 e
   have := (R.s m (bit_lt I.1 h1)).1
   omega
theorem row_in {h : Gg} {S : Nat} (hS : S < 2 ^ h.N) {l : List Int} (hl : RowOf S l) : InG h l := fun i hi => by
 obtain ⟨n, e, hn⟩ := hl.at_ i hi
 exact ⟨n, e, bit_lt hS hn⟩
theorem mpL_mem {φ : Nat → Nat} {l : List Int} {x : Int} : x ∈ mpL φ l ↔ ∃ y ∈ l, ((φ y.toNat : Nat) : Int) = x := by simp [mpL]
theorem ren_row {h g : Gg} {φ : Nat → Nat} (R : RenS h g φ) {S T : Nat} (I : Img h φ S T) {l : List Int} (hl : RowOf S l) : RowOf T (mpL φ l) := by
 have hi := row_in I.1 hl
 refine ⟨fun i hi2 => ?_, fun i j hij hj e => ?_⟩
 ·rw [mpL_len] at hi2
  obtain ⟨n, e, hn⟩ := hl.at_ i hi2
  exact ⟨φ n, by rw [mpL_at φ l hi2, e, Int.toNat_natCast], (I.2 _).2 ⟨n, hn, rfl⟩⟩
 ·rw [mpL_len] at hj
  rw [mpL_at φ l (by omega), mpL_at φ l hj] at e
  obtain ⟨n, e1, hn⟩ := hi i (by omega)
  obtain ⟨m, e2, hm⟩ := hi j hj
  rw [e1, e2, Int.toNat_natCast, Int.toNat_natCast] at e
  have := R.i n m hn hm (by omega)
  subst this
  exact hl.nd i j hij hj (by rw [e1, e2])
theorem ren_full {h g : Gg} {φ : Nat → Nat} (R : RenS h g φ) (hN : g.N ≤ 5) (hM : h.N ≤ 5) {S T : Nat} (I : Img h φ S T) {l : List Int} (hl : RowOf S l) : (mpL φ l).length = pop T ↔ l.length = pop S := by
 have hr := ren_row R I hl
 rw [← (rowOf_full (lt32 hN (Img.lt R I)) hr).2, ← (rowOf_full (lt32 hM I.1) hl).2]
 have hi := row_in I.1 hl
 constructor
 ·intro e
  refine Nat.eq_of_testBit_eq fun n => ?_
  rw [Bool.eq_iff_iff]
  constructor
  ·exact fun hb => rowOf_sub hl hb
  ·intro hb
   have : T.testBit (φ n) = true := (I.2 _).2 ⟨n, hb, rfl⟩
   rw [← e, setL_bit] at this
   obtain ⟨x, hx, ex⟩ := this
   obtain ⟨y, hy, ey⟩ := mpL_mem.1 hx
   obtain ⟨i, hi1, hi2⟩ := mem_at.1 hy
   obtain ⟨m, e1, hm⟩ := hi i hi1
   rw [setL_bit]
   refine ⟨y, hy, ?_⟩
   rw [hi2] at e1
   subst e1
   rw [Int.toNat_natCast] at ey ⊢
   exact R.i m n hm (bit_lt I.1 hb) (by omega)
 ·intro e
  refine Nat.eq_of_testBit_eq fun n => ?_
  rw [Bool.eq_iff_iff]
  constructor
  ·exact fun hb => rowOf_sub hr hb
  ·intro hb
   obtain ⟨m, hm, em⟩ := (I.2 n).1 hb
   rw [← e, rowOf_set hl] at hm
   rw [rowOf_set hr, mpL_mem]
   exact ⟨(m : Int), hm, by rw [Int.toNat_natCast, em]⟩
theorem ren_back {h g : Gg} {φ : Nat → Nat} (R : RenS h g φ) {S T : Nat} (I : Img h φ S T) {l : List Int} : RowOf T l → ∃ m, l = mpL φ m ∧ RowOf S m := by
 refine snoc_ind (P := fun l => RowOf T l → ∃ m, l = mpL φ m ∧ RowOf S m) (fun _ => ⟨[], rfl, rowOf_nil S⟩) (fun b x ih hr => ?_) l
 obtain ⟨m, e, hm⟩ := ih (rowOf_pre hr)
 obtain ⟨n, ex, hn⟩ := hr.at_ b.length (by simp)
 rw [snoc_end] at ex
 subst ex
 obtain ⟨q, hq, eq⟩ := (I.2 n).1 hn
 have e2 : b ++ [(n : Int)] = mpL φ (m ++ [(q : Int)]) := by
  rw [e]
  simp [mpL, eq]
 refine ⟨m ++ [(q : Int)], e2, rowOf_snoc.2 ⟨hm, hq, fun hmem => ?_⟩⟩
 have h3 := (rowOf_snoc.1 hr).2.2
 refine h3 ?_
 rw [e, mpL_mem]
 exact ⟨(q : Int), hmem, by rw [Int.toNat_natCast, eq]⟩
theorem ren_end {h g : Gg} {φ : Nat → Nat} {c d : Nat} (R : RenS h g φ) (rc : RenC h g φ c d) (hN : g.N ≤ 5) (hM : h.N ≤ 5) {S T : Nat} (I : Img h φ S T) : endO h c S = endO g d T := by
 refine (end_min I.1).uniq ((end_min (Img.lt R I)).congr fun x => ?_)
 constructor
 ·rintro ⟨l, h1, h2, h3, h4⟩
  obtain ⟨m, e, hm⟩ := ren_back R I h2
  subst e
  have hi := row_in I.1 hm
  rw [ren_rgt R rc hi] at h3
  refine ⟨m, (ren_full R hN hM I hm).1 h1, hm, h3, ?_⟩
  rw [← h4]
  unfold lastT
  rw [mpL_len, ren_don R _ hi _ (Nat.le_refl _), rc.lo]
 ·rintro ⟨l, h1, h2, h3, h4⟩
  have hi := row_in I.1 h2
  refine ⟨mpL φ l, (ren_full R hN hM I h2).2 h1, ren_row R I h2, by rw [ren_rgt R rc hi]; exact h3, ?_⟩
  rw [← h4]
  unfold lastT
  rw [mpL_len, ren_don R _ hi _ (Nat.le_refl _), rc.lo]

/-- Crews are numbered otherwise, all of them. -/
structure Prm (M : Nat) (ψ ψ' : Nat → Nat) : Prop where
 a : ∀ c, c < M → ψ c < M ∧ ψ' (ψ c) = c
 b : ∀ c, c < M → ψ' c < M ∧ ψ (ψ' c) = c
theorem dom_prm {g h : Gg} {f f' : Nat → Nat} {ψ ψ' : Nat → Nat} {M : Nat} (p : Prm M ψ ψ') (e : ∀ c, c < M → endO h c (f' c) = endO g (ψ c) (f (ψ c))) : domN h f' M = domN g f M := by
 have hs : (domN h f' M).isSome = (domN g f M).isSome := by
  rw [Bool.eq_iff_iff, domN_some, domN_some]
  constructor
  ·intro q c hc
   have := q (ψ' c) (p.b c hc).1
   rw [e _ (p.b c hc).1, (p.b c hc).2] at this
   exact this
  ·intro q c hc
   rw [e c hc]
   exact q _ (p.a c hc).1
 cases h1 : domN h f' M with
 | none =>
   rw [h1] at hs
   cases h2 : domN g f M with
   | none => rfl
   | some n => rw [h2] at hs; cases hs
 | some m =>
   rw [h1] at hs
   cases h2 : domN g f M with
   | none => rw [h2] at hs; cases hs
   | some n =>
     obtain ⟨a1, a2, a3⟩ := domN_le M h1
     obtain ⟨b1, b2, b3⟩ := domN_le M h2
     congr 1
     refine Int.le_antisymm ?_ ?_
     ·rcases a3 with a3 | ⟨c, hc, a3⟩
      ·omega
      ·rw [e c hc] at a3
       obtain ⟨t, ht, hle⟩ := b2 (ψ c) (p.a c hc).1
       rw [ht] at a3
       cases a3
       exact hle
     ·rcases b3 with b3 | ⟨c, hc, b3⟩
      ·omega
      ·obtain ⟨t, ht, hle⟩ := a2 (ψ' c) (p.b c hc).1
       rw [e _ (p.b c hc).1, (p.b c hc).2] at ht
       rw [ht] at b3
       cases b3
       exact hle
/-- The same deal, by either numbers. -/
structure DR (h g : Gg) (φ ψ : Nat → Nat) (S T C D : Nat) (l l' : List Int) : Prop where
 n1 : l.length = h.N
 n2 : l'.length = g.N
 at_ : ∀ m, m < h.N → S.testBit m = true → ∃ c : Nat, c < h.cw.length ∧ l.getD m 0 = (c : Int) ∧ C.testBit c = true ∧ l'.getD (φ m) 0 = ((ψ c : Nat) : Int)
 o1 : ∀ m, m < h.N → S.testBit m = false → l.getD m 0 = -1
 o2 : ∀ n, n < g.N → T.testBit n = false → l'.getD n 0 = -1
section
variable {h g : Gg} {φ ψ ψ' : Nat → Nat} {S T C D : Nat} {l l' : List Int}
theorem DR.img (d : DR h g φ ψ S T C D l l') (R : Ren h g φ ψ) (p : Prm h.cw.length ψ ψ') (I : Img h φ S T) {c : Nat} (hc : c < h.cw.length) : Img h φ (crS l c) (crS l' (ψ c)) := by
 refine ⟨by have := crN_lt l c l.length; rw [d.n1] at this; unfold crS; rw [d.n1]; exact this, fun n => ?_⟩
 rw [crS_bit, d.n2]
 constructor
 ·rintro ⟨hn, e⟩
  cases ht : T.testBit n with
  | false => rw [d.o2 n hn ht] at e; omega
  | true =>
    obtain ⟨m, hm, em⟩ := (I.2 n).1 ht
    have hm2 := bit_lt I.1 hm
    obtain ⟨c2, hc2, e1, _, e3⟩ := d.at_ m hm2 hm
    rw [em, e] at e3
    have : c2 = c := by rw [← (p.a c2 hc2).2, ← (p.a c hc).2]; congr 1; omega
    subst this
    exact ⟨m, crS_bit.2 ⟨by rw [d.n1]; exact hm2, e1⟩, em⟩
 ·rintro ⟨m, hm, em⟩
  rw [crS_bit, d.n1] at hm
  obtain ⟨hm2, e⟩ := hm
  cases hs : S.testBit m with
  | false => rw [d.o1 m hm2 hs] at e; omega
  | true =>
    obtain ⟨c2, hc2, e1, _, e3⟩ := d.at_ m hm2 hs
    have : c2 = c := by omega
    subst this
    subst em
    exact ⟨(R.s m hm2).1, e3⟩
theorem DR.dom (d : DR h g φ ψ S T C D l l') (R : Ren h g φ ψ) (p : Prm h.cw.length ψ ψ') (I : Img h φ S T) (hN : g.N ≤ 5) (hM : h.N ≤ 5) (hL : h.cw.length = g.cw.length) : domO h l = domO g l' := by
 unfold domO
 rw [← hL]
 exact dom_prm p fun c hc => ren_end R.toRenS (R.c c hc).2 hN hM (d.img R p I hc)
end
end Go.Proofs.Ytdopkbldjagmlaa
end
section
set_option linter.unusedVariables false
set_option linter.unusedSimpArgs false
namespace Go.Proofs.Ytdopkbldjagmlaa
open Go.V
def onlN (g : Gg) (s i : Nat) : List Cw := (List.range g.cw.length).map fun c => if c < i ∧ s.testBit c = false then ⟨(g.crew c).lo, (g.crew c).hi, 0⟩ else g.crew c
def onlG (g : Gg) (s : Nat) : Gg := ⟨g.sm, onlN g s g.cw.length, g.pt⟩
/-- The seams that are kept, of the first ones. -/
def kpN (S i : Nat) : List Nat := (List.range i).filter fun n => !S.testBit n
/-- A set, by the new numbers. -/
def mkN (st : Nat) (l : List Nat) : Nat → Nat
 | 0 => 0
 | i + 1 => if st.testBit (l.getD i 0) = true then mkN st l i ||| 2 ^ i else mkN st l i
/-- The gangs, if so many seams have been looked at. -/
def wthN (g : Gg) (S i : Nat) : Gg := ⟨(kpN S i).map g.seam, (List.range g.cw.length).map fun c => ⟨(g.crew c).lo, (g.crew c).hi, (mkN (g.crew c).st.toNat (kpN S i) (kpN S i).length : Nat)⟩, g.pt⟩
def wthG (g : Gg) (S : Nat) : Gg := wthN g S g.N
end Go.Proofs.Ytdopkbldjagmlaa
end
section
set_option linter.unusedVariables false
set_option linter.unusedSimpArgs false
set_option maxHeartbeats 2000000
set_option maxRecDepth 100000
namespace Go.Proofs.Ytdopkbldjagmlaa
open Go.V
/-- The crews, if the first ones have been told of one seam more. -/
def wcN (g : Gg) (S i j : Nat) : List Cw := (List.range g.cw.length).map fun c => if c < j then (wthN g S (i + 1)).crew c else (wthN g S i).crew c
def bI (S i : Nat) : Nat := if S.testBit i = true then 1 else 0
def wthR (g : Gg) (S : Nat) (H : Hp) : Res → Hp → Prop := fun r H' => ∃ is ic, H is = none ∧ H ic = none ∧ ¬ is = ic ∧ r = .ret (.agg [.sl is 4 (kpN S g.N).length, .sl ic 3 g.cw.length, i64 g.pt.hr, i64 g.pt.fro, i64 g.pt.per, intsAV g.pt.fs, psAV g.pt.ps]) ∧
 H' = (H.set ic (.row 3 g.cw.length (cwF (wthG g S).cw))).set is (.row 4 (kpN S g.N).length (smF (wthG g S).sm))
end Go.Proofs.Ytdopkbldjagmlaa
end
section
set_option linter.unusedVariables false
set_option linter.unusedSimpArgs false
namespace Go.Proofs.Ytdopkbldjagmlaa
open Go.V
/-- All is as easy, or easier, for the second gangs. -/
structure EasG (g x : Gg) : Prop where
 kg : OkG g
 kx : OkG x
 n : x.N = g.N
 m : x.cw.length = g.cw.length
 s : ∀ n, n < g.N → 0 ≤ begV g n → 0 ≤ begV x n ∧ begV x n ≤ begV g n
 f : ∀ n, n < g.N → (x.seam n).fa ≤ (g.seam n).fa ∧ (g.seam n).fl ≤ (x.seam n).fl
 c : ∀ c, c < g.cw.length → (g.crew c).lo ≤ (x.crew c).lo
 k : ∀ c n, c < g.cw.length → n < g.N → (g.crew c).st.toNat.testBit n = true → (x.crew c).st.toNat.testBit n = true
theorem okC_lo {g : Gg} (k : OkG g) {c : Nat} (hc : c < g.cw.length) : 1 ≤ (g.crew c).lo ∧ (g.crew c).lo ≤ 12 := by
 have h := k.crew hc
 unfold okC at h
 omega
theorem eas_tk {g x : Gg} (E : EasG g x) {n c : Nat} (hn : n < g.N) (hc : c < g.cw.length) : tkG x n (x.crew c).lo ≤ tkG g n (g.crew c).lo := by
 have h1 := okC_lo E.kg hc
 have h2 := okC_lo E.kx (c := c) (by rw [E.m]; exact hc)
 have h3 := E.c c hc
 have h4 := (E.f n hn).1
 have h5 := (E.kg.seam hn).1
 have h6 := (E.kx.seam (by rw [E.n]; exact hn)).1
 unfold tkG
 rw [Int.tdiv_eq_ediv_of_nonneg (by omega), Int.tdiv_eq_ediv_of_nonneg (by omega)]
 generalize (g.crew c).lo = a at *
 generalize (x.crew c).lo = b at *
 generalize (g.seam n).fa = p at *
 generalize (x.seam n).fa = q at *
 have e1 : p + a - 1 < ((p + a - 1) / a + 1) * a := Int.lt_ediv_add_one_mul_self _ (by omega)
 have hq : 0 ≤ (p + a - 1) / a := Int.ediv_nonneg (by omega) (by omega)
 generalize (p + a - 1) / a = r at *
 have e2 : (r + 1) * a = r * a + a := by rw [Int.add_mul, Int.one_mul]
 have e3 : r * a ≤ r * b := Int.mul_le_mul_of_nonneg_left h3 hq
 have e4 : (r + 1) * b = r * b + b := by rw [Int.add_mul, Int.one_mul]
 have : (q + b - 1) / b < r + 1 := by
  rw [Int.ediv_lt_iff_lt_mul (by omega)]
  omega
 omega
theorem eas_kn {g x : Gg} (E : EasG g x) {n c : Nat} (hn : n < g.N) (hc : c < g.cw.length) (h : knB g c n = true) : knB x c n = true := by
 unfold knB at *
 rw [Bool.and_eq_true, decide_eq_true_eq] at *
 exact ⟨E.k c n hc hn h.1, (E.s n hn h.2).1⟩
/-- A right row stays right, and is done no later. -/
theorem eas_row {g x : Gg} (E : EasG g x) {c : Nat} (hc : c < g.cw.length) (l : List Int) : (∀ i, i < l.length → ∃ n : Nat, l.getD i 0 = (n : Int) ∧ n < g.N) → rgtB g c l = true → rgtB x c l = true ∧ lastT x c l ≤ lastT g c l := by
 refine snoc_ind (P := fun l => (∀ i, i < l.length → ∃ n : Nat, l.getD i 0 = (n : Int) ∧ n < g.N) → rgtB g c l = true → rgtB x c l = true ∧ lastT x c l ≤ lastT g c l) (fun _ _ => ⟨rgt_nil x c, Int.le_refl _⟩) (fun b y ih hr hg => ?_) l
 obtain ⟨n, ex, hn⟩ := hr b.length (by simp)
 rw [snoc_end] at ex
 subst ex
 obtain ⟨g1, g2, g3⟩ := rgt_snoc.1 hg
 obtain ⟨i1, i2⟩ := ih (fun i hi => by
  have := hr i (by simp; omega)
  rwa [snoc_at _ _ hi] at this) g1
 rw [Int.toNat_natCast] at g2 g3
 have hk := eas_kn E hn hc g2
 have hbg : 0 ≤ begV g n := by
  unfold knB at g2
  rw [Bool.and_eq_true, decide_eq_true_eq] at g2
  exact g2.2
 have h1 := E.s n hn hbg
 have h2 := eas_tk E hn hc
 have h3 := (E.f n hn).2
 have em : stT x (x.crew c).lo (lastT x c b) n ≤ stT g (g.crew c).lo (lastT g c b) n := by
  unfold stT
  omega
 have el : ∀ (g : Gg) , lastT g c (b ++ [(n : Int)]) = stT g (g.crew c).lo (lastT g c b) n := fun g => by
  unfold lastT
  rw [List.length_append, List.length_cons, List.length_nil, donN_last, Int.toNat_natCast]
 refine ⟨rgt_snoc.2 ⟨i1, by rw [Int.toNat_natCast]; exact hk, ?_⟩, by rw [el, el]; exact em⟩
 rw [Int.toNat_natCast]
 unfold lastT at em
 omega
theorem eas_end {g x : Gg} (E : EasG g x) {c S : Nat} (hc : c < g.cw.length) (hS : S < 2 ^ g.N) {t : Int} (h : endO g c S = some t) : ∃ u, endO x c S = some u ∧ u ≤ t := by
 obtain ⟨l, h1, h2, h3, h4⟩ := (end_min hS).is t h
 obtain ⟨r1, r2⟩ := eas_row E hc l (fun i hi => by
  obtain ⟨n, e, hn⟩ := h2.at_ i hi
  exact ⟨n, e, bit_lt hS hn⟩) h3
 obtain ⟨u, hu, hle⟩ := (end_min (g := x) (c := c) (by rw [E.n]; exact hS)).le _ ⟨l, h1, h2, r1, rfl⟩
 exact ⟨u, hu, by omega⟩
theorem eas_dom {g x : Gg} (E : EasG g x) {f : Nat → Nat} (hf : ∀ c, f c < 2 ^ g.N) : ∀ M, M ≤ g.cw.length → ∀ m, domN g f M = some m → ∃ n, domN x f M = some n ∧ n ≤ m
 | 0, _, m, h => ⟨m, h, Int.le_refl _⟩
 | M + 1, hM, m, h => by
   simp only [domN] at h ⊢
   cases h1 : domN g f M with
   | none => rw [h1] at h; simp only [mx2] at h; cases h
   | some a =>
     cases h2 : endO g M (f M) with
     | none => rw [h1, h2] at h; simp only [mx2] at h; cases h
     | some b =>
       rw [h1, h2] at h
       simp only [mx2, Option.some.injEq] at h
       obtain ⟨a', ha, hle⟩ := eas_dom E hf M (by omega) a h1
       obtain ⟨b', hb, hle2⟩ := eas_end E (by omega) (hf M) h2
       rw [ha, hb]
       exact ⟨_, rfl, by omega⟩
theorem eas_dO {g x : Gg} (E : EasG g x) {S C : Nat} {t : Int} (h : dO g S C g.N [] = some t) : ∃ u, dO x S C x.N [] = some u ∧ u ≤ t := by
 obtain ⟨l, h1, h2⟩ := (dO_min g S C g.N []).is t h
 have hl := mem_deals.1 h1
 have hd : domO g l = some t := by
  have := hl.dom
  obtain ⟨m, hm⟩ := Option.isSome_iff_exists.1 this
  unfold domI at h2
  rw [hm] at h2 ⊢
  rw [← h2]; rfl
 have hf : ∀ c, crS l c < 2 ^ g.N := fun c => by
  have := crN_lt l c l.length
  rw [hl.len] at this
  unfold crS
  rw [hl.len]; exact this
 obtain ⟨n, hn, hle⟩ := eas_dom E hf g.cw.length (Nat.le_refl _) t hd
 have hdx : domO x l = some n := by unfold domO; rw [E.m]; exact hn
 have hlx : DealOf x S C l := ⟨by rw [hl.len, E.n], fun i hi => by
  have := hl.at_ i (by rw [← E.n]; exact hi)
  unfold crOk at this ⊢
  rw [E.m]; exact this, by rw [hdx]; rfl⟩
 obtain ⟨u, hu, hle2⟩ := (dO_min x S C x.N []).le _ ⟨l, mem_deals.2 hlx, rfl⟩
 refine ⟨u, hu, ?_⟩
 unfold domI at hle2
 rw [hdx] at hle2
 simp only [Option.getD_some] at hle2
 omega
theorem eas_F {g x : Gg} (E : EasG g x) : x.F = g.F := by unfold Gg.F; rw [E.n]
theorem eas_A {g x : Gg} (E : EasG g x) : x.A = g.A := by unfold Gg.A; rw [E.m]
theorem eas_gen {g x : Gg} (E : EasG g x) {C : Nat} (h : genB g C = true) : genB x C = true := by
 unfold genB at *
 obtain ⟨t, ht⟩ := Option.isSome_iff_exists.1 h
 obtain ⟨u, hu, _⟩ := eas_dO E ht
 rw [eas_F E, hu]; rfl
theorem eas_lea {g x : Gg} (E : EasG g x) {C : Nat} (h : leaB g C = true) : leaB x C = true := by
 unfold leaB at *
 obtain ⟨t, ht⟩ := Option.isSome_iff_exists.1 h
 obtain ⟨u, hu, _⟩ := eas_dO E ht
 rw [eas_F E, eas_A E, hu]; rfl
/-- If more suits, a smaller set does. -/
theorem few_le {f f' : Nat → Bool} {m s : Nat} (hm : m ≤ 8) (hf : ∀ i, i < 2 ^ m → f i = true → f' i = true) (h : fewV f m = some s) : ∃ s', fewV f' m = some s' ∧ pop s' ≤ pop s := by
 have hs := fewV_some h
 cases h' : fewV f' m with
 | none =>
   have := fewV_none hm h' s hs.lt
   rw [hf s hs.lt hs.is] at this
   cases this
 | some s' =>
   refine ⟨s', rfl, ?_⟩
   have := (fewV_some h').le s hs.lt (hf s hs.lt hs.is)
   omega
end Go.Proofs.Ytdopkbldjagmlaa
end
section
set_option linter.unusedVariables false
set_option linter.unusedSimpArgs false
set_option maxHeartbeats 4000000
set_option maxRecDepth 100000
namespace Go.Proofs.Ytdopkbldjagmlaa
open Go.V
theorem fineG_ok {g : Gg} (h : (!fineG g) = false) : OkG g ∧ NearG g := by
 unfold fineG at h
 simp only [Bool.not_eq_false', Bool.and_eq_true, decide_eq_true_eq] at h
 exact ⟨h.2, h.2.near⟩
def rdN (g : Gg) (l : List Int) (i : Nat) : List Int := (List.range i).map fun j => readyV g (l.getD j 0)
def kaN (g : Gg) (l : List Int) (b : Bool) : Nat → Bool
 | 0 => b
 | i + 1 => kaN g l b i && decide (readyE g (l.getD i 0) = 0)
def spk (a b c : Int) (q : Nat) : Int := [a, b, c].getD q 0
def mxF (g : Gg) (a b c : Int) (l : List Int) (i k : Nat) : Nat → List AV := fun q => [i64 (donN g (spk a b c q) l (if q < k then i + 1 else i))]
def lateV (g : Gg) (c : Nat) (l : List Int) (i : Nat) : Int := match (List.range i).find? (ltB g c l) with
 | some j => l.getD j 0
 | none => -1
end Go.Proofs.Ytdopkbldjagmlaa
end
section
set_option linter.unusedVariables false
set_option linter.unusedSimpArgs false
namespace Go.Proofs.Ytdopkbldjagmlaa
open Go.V
theorem filt_sorted (p : Nat → Bool) : ∀ n, ((List.range n).filter p).Pairwise (· < ·) := fun n => List.Pairwise.filter _ List.pairwise_lt_range
theorem map_get {l : List Nat} {i : Nat} (h : i < l.length) : (l.map fun n : Nat => (n : Int)).getD i 0 = ((l.getD i 0 : Nat) : Int) := by
 simp [List.getD_eq_getElem?_getD, h]
theorem sorted_at {l : List Nat} (h : l.Pairwise (· < ·)) {i j : Nat} (hij : i < j) (hj : j < l.length) : l.getD i 0 < l.getD j 0 := by
 have := List.pairwise_iff_getElem.1 h i j (by omega) hj hij
 simpa [List.getD_eq_getElem?_getD, hj, (show i < l.length by omega)] using this
theorem mem_filt {p : Nat → Bool} {n i : Nat} (h : i < ((List.range n).filter p).length) : ((List.range n).filter p).getD i 0 < n ∧ p (((List.range n).filter p).getD i 0) = true := by
 have : ((List.range n).filter p).getD i 0 ∈ (List.range n).filter p := by
  rw [List.getD_eq_getElem?_getD, List.getElem?_eq_getElem h]
  exact List.getElem_mem h
 rw [List.mem_filter, List.mem_range] at this
 exact this
end Go.Proofs.Ytdopkbldjagmlaa
end
section
set_option linter.unusedVariables false
set_option linter.unusedSimpArgs false
set_option maxHeartbeats 4000000
set_option maxRecDepth 100000
namespace Go.Proofs.Ytdopkbldjagmlaa
open Go.V
theorem mapZ64 : mapZ Try.prog 64 = some (.bool false) := by kernel_rfl
theorem und64 : Program.underlying Try.prog 64 = some (.map 3 4) := by kernel_rfl
theorem key3 : Maps.Keyed Try.prog 3 := Maps.int_keyed (q := .i64) (by kernel_rfl)
theorem und3 : Program.underlying Try.prog 3 = some (.int .i64) := by kernel_rfl
theorem key_int {d : Int} (hd : InR .i64 d) : ∃ l, keyOf Try.prog 3 (.int .i64 d) = some l := by
 refine ⟨.int .i64 d, ?_⟩
 simp only [keyOf, mapKey, und3]
 rw [if_pos ⟨trivial, wf_i64 hd⟩]
open Classical in
noncomputable def thrF (l : List Int) : Value → Option Value := fun v => if ∃ x ∈ l, v = .int .i64 x then some (.bool true) else none
theorem thrF_nil : thrF [] = fun _ => none := by
 funext v
 unfold thrF
 rw [if_neg]
 rintro ⟨x, hx, _⟩
 cases hx
theorem thrF_get (l : List Int) (x : Int) : thrF l (.int .i64 x) = if l.contains x = true then some (.bool true) else none := by
 unfold thrF
 by_cases h : x ∈ l
 ·rw [if_pos ⟨x, h, rfl⟩, if_pos (by simpa using h)]
 ·rw [if_neg, if_neg (by simpa using h)]
  rintro ⟨y, hy, e⟩
  cases e
  exact h hy
theorem thrF_upd (l : List Int) (x : Int) : updV (thrF l) (.int .i64 x) (.bool true) = thrF (l ++ [x]) := by
 funext v
 by_cases h : v = .int .i64 x
 ·subst h
  rw [updV_same, thrF_get, if_pos (by simp)]
 ·rw [updV_ne _ _ h]
  unfold thrF
  by_cases q : ∃ y ∈ l, v = .int .i64 y
  ·rw [if_pos q, if_pos]
   obtain ⟨y, hy, e⟩ := q
   exact ⟨y, List.mem_append_left _ hy, e⟩
  ·rw [if_neg q, if_neg]
   rintro ⟨y, hy, e⟩
   rcases List.mem_append.1 hy with hy | hy
   ·exact q ⟨y, hy, e⟩
   ·rw [List.mem_singleton] at hy
    subst hy
    exact h e
theorem thrF_key {l : List Int} (hl : ∀ x ∈ l, InR .i64 x) {k v : Value} (h : thrF l k = some v) : ∃ s, keyOf Try.prog 3 k = some s := by
 unfold thrF at h
 split at h
 ·rename_i q
  obtain ⟨x, hx, rfl⟩ := q
  exact key_int (hl x hx)
 ·cases h
theorem thr_val {l : List Int} {x : Int} : (thrF l (.int .i64 x)).getD (.bool false) = .bool (l.contains x) := by
 rw [thrF_get]
 split
 ·rename_i h; rw [h]; rfl
 ·rename_i h
  rw [Bool.not_eq_true] at h
  rw [h]; rfl

theorem chk4 {g : Gg} (k : OkG g) {c S : Nat} (hc : c < g.cw.length) (hS : S < 2 ^ g.N) {l : List Int} (h : RowOf S l) : decide (chkE g (c : Int) l = 4) = rgtB g c l := by
 have hv : vRow g (c : Int) l = true := by
  unfold vRow
  rw [rowB_of hS h, (isCw_iff g _).2 (by omega)]; rfl
 have hE : rowE g (c : Int) l = if kwnB g c l = true then 0 else 11 := by
  unfold rowE
  rw [hv, errG_ok k, if_pos rfl, Int.toNat_natCast]
 unfold chkE rgtB
 rw [hE, Int.toNat_natCast]
 cases kwnB g c l <;> cases latO g c l <;> rfl
theorem sets_at {g : Gg} (k : OkG g) {c : Nat} (hc : c < g.cw.length) : setsE g (c : Int) = 0 ∧ setsV g (c : Int) = stsN g c (2 ^ g.N) := by
 have e : setsE g (c : Int) = 0 := by
  unfold setsE
  rw [(isCw_iff g _).2 (by omega)]
  exact errG_ok k
 refine ⟨e, ?_⟩
 unfold setsV
 rw [if_pos e, Int.toNat_natCast]
theorem sts_mem {g : Gg} {c n x : Nat} : (stsN g c n).contains (x : Int) = (decide (x < n) && (endO g c x).isSome) := by
 rw [Bool.eq_iff_iff]
 simp only [stsN, List.contains_iff_mem, List.mem_map, List.mem_filter, List.mem_range, Bool.and_eq_true, decide_eq_true_eq]
 constructor
 ·rintro ⟨m, ⟨h1, h2⟩, e⟩
  have : m = x := by omega
  subst this
  exact ⟨h1, h2⟩
 ·rintro ⟨h1, h2⟩
  exact ⟨x, ⟨h1, h2⟩, rfl⟩
theorem sts_at {g : Gg} {c n i : Nat} (h : i < (stsN g c n).length) : ∃ s : Nat, (stsN g c n).getD i 0 = (s : Int) ∧ s < n ∧ (endO g c s).isSome = true ∧ ∀ j, j < i → (stsN g c n).getD j 0 < (s : Int) := by
 have hl : (stsN g c n).length = ((List.range n).filter fun S => (endO g c S).isSome).length := by simp [stsN]
 rw [hl] at h
 obtain ⟨h1, h2⟩ := mem_filt h
 refine ⟨((List.range n).filter fun S => (endO g c S).isSome).getD i 0, map_get h, h1, h2, fun j hj => ?_⟩
 have e : (stsN g c n).getD j 0 = ((((List.range n).filter fun S => (endO g c S).isSome).getD j 0 : Nat) : Int) := map_get (by omega)
 rw [e]
 have := sorted_at (filt_sorted (fun S => (endO g c S).isSome) n) hj h
 omega
theorem sts_InR {g : Gg} {c n : Nat} (hn : n ≤ 32) : ∀ x ∈ stsN g c n, InR .i64 x := by
 intro x hx
 simp only [stsN, List.mem_map, List.mem_filter, List.mem_range] at hx
 obtain ⟨m, ⟨h1, _⟩, e⟩ := hx
 simp only [InR_i64]
 omega
end Go.Proofs.Ytdopkbldjagmlaa
end
section
set_option linter.unusedVariables false
set_option linter.unusedSimpArgs false
namespace Go.Proofs.Ytdopkbldjagmlaa
open Go.V
def setSm (g : Gg) (j : Nat) (s : Sm) : Gg := ⟨g.sm.set j s, g.cw, g.pt⟩
def setCw (g : Gg) (j : Nat) (c : Cw) : Gg := ⟨g.sm, g.cw.set j c, g.pt⟩
theorem setSm_N (g : Gg) (j : Nat) (s : Sm) : (setSm g j s).N = g.N := by simp [setSm, Gg.N]
theorem setCw_len (g : Gg) (j : Nat) (c : Cw) : (setCw g j c).cw.length = g.cw.length := by simp [setCw]
theorem get_set {α : Type} {l : List α} {j : Nat} (x d : α) (hj : j < l.length) (n : Nat) : (l.set j x).getD n d = if n = j then x else l.getD n d := by
 simp only [List.getD_eq_getElem?_getD, List.getElem?_set]
 by_cases e : n = j
 ·subst e; simp [hj]
 ·rw [if_neg (fun h => e h.symm), if_neg e]
theorem setSm_seam {g : Gg} {j : Nat} (s : Sm) (hj : j < g.N) (n : Nat) : (setSm g j s).seam n = if n = j then s else g.seam n := get_set s sm0 hj n
theorem setCw_crew {g : Gg} {j : Nat} (c : Cw) (hj : j < g.cw.length) (n : Nat) : (setCw g j c).crew n = if n = j then c else g.crew n := get_set c cw0 hj n
theorem eas_sm {g : Gg} (k : OkG g) {j : Nat} (hj : j < g.N) {s : Sm} (ok : okS g s) (hp : s.po = (g.seam j).po) (hf : s.fa ≤ (g.seam j).fa) (hd : s.dr ≤ (g.seam j).dr) (hl : (g.seam j).fl ≤ s.fl) : EasG g (setSm g j s) := by
 have hb : ∀ n, n < g.N → 0 ≤ begV g n → 0 ≤ begV (setSm g j s) n ∧ begV (setSm g j s) n ≤ begV g n := fun n hn h => by
  have e := setSm_seam s hj n
  have eh : hotL (setSm g j s) = hotL g := rfl
  have hk := k.seam hj
  unfold okS at hk ok
  unfold begV at h ⊢
  rw [e, eh]
  by_cases q : n = j
  ·subst q
   rw [if_pos rfl, hp]
   by_cases c1 : (g.seam n).po < 0
   ·rw [if_pos c1, if_pos c1]; omega
   ·rw [if_neg c1] at h ⊢
    rw [if_neg c1]
    by_cases c2 : (hotL g).length = 0
    ·rw [if_pos c2] at h; omega
    ·rw [if_neg c2, if_neg c2]; omega
  ·rw [if_neg q]
   exact ⟨h, Int.le_refl _⟩
 refine ⟨k, ⟨k.p, by have h1 := setSm_N g j s; have h2 : g.N ≤ 5 := k.nS; show (setSm g j s).N ≤ 5; omega, k.nC, fun i hi => ?_, fun c hc => ?_⟩, setSm_N g j s, rfl, hb, fun n hn => ?_, fun c hc => Int.le_refl _, fun c n hc hn h => h⟩
 ·have hi' : i < g.N := by have := setSm_N g j s; show i < g.N; have h2 : (setSm g j s).sm.length = (setSm g j s).N := rfl; omega
  show okS (setSm g j s) ((setSm g j s).seam i)
  rw [setSm_seam s hj i]
  split
  ·exact ok
  ·exact k.seam hi'
 ·have h := k.c c hc
  unfold okC at h ⊢
  have e : (setSm g j s).sm.length = g.sm.length := setSm_N g j s
  rw [e]
  exact h
 ·rw [setSm_seam s hj n]
  split
  ·rename_i e; subst e; exact ⟨hf, hl⟩
  ·exact ⟨Int.le_refl _, Int.le_refl _⟩
theorem eas_cw {g : Gg} (k : OkG g) {j : Nat} (hj : j < g.cw.length) {c : Cw} (ok : okC g c) (hl : (g.crew j).lo ≤ c.lo) (hb : ∀ n, n < g.N → (g.crew j).st.toNat.testBit n = true → c.st.toNat.testBit n = true) : EasG g (setCw g j c) := by
 refine ⟨k, ⟨k.p, k.nS, by rw [setCw_len]; exact k.nC, k.s, fun i hi => ?_⟩, rfl, setCw_len g j c, fun n hn h => ⟨h, Int.le_refl _⟩, fun n hn => ⟨Int.le_refl _, Int.le_refl _⟩, fun i hi => ?_, fun i n hi hn h => ?_⟩
 ·rw [setCw_len] at hi
  show okC (setCw g j c) ((setCw g j c).crew i)
  rw [setCw_crew c hj i]
  split
  ·exact ok
  ·exact k.crew hi
 ·rw [setCw_crew c hj i]
  split
  ·rename_i e; subst e; exact hl
  ·exact Int.le_refl _
 ·rw [setCw_crew c hj i]
  split
  ·rename_i e; subst e; exact hb n hn h
  ·exact h
end Go.Proofs.Ytdopkbldjagmlaa
end
section
set_option linter.unusedVariables false
set_option linter.unusedSimpArgs false
set_option maxHeartbeats 4000000
set_option maxRecDepth 100000
namespace Go.Proofs.Ytdopkbldjagmlaa
open Go.V
/-- What is known behind the copying. -/
structure MoreA (H : Hp) (y : Nat × Nat × Nat) : Prop where
 h1 : H y.1 = none
 h2 : H y.2.1 = none
 h3 : H y.2.2 = none
 n12 : ¬ y.1 = y.2.1
 n13 : ¬ y.1 = y.2.2
 n23 : ¬ y.2.1 = y.2.2
abbrev mgC (x : Gg) (a b : Nat) : List AV := [.sl a 4 x.sm.length, .sl b 3 x.cw.length, i64 x.pt.hr, i64 x.pt.fro, i64 x.pt.per, intsAV x.pt.fs, psAV x.pt.ps]
/-- Behind the change nothing is written any more. -/
theorem cut_more {σ : Type} {inv : σ → Prop} {fr : σ → List (Nat × AV)} {hp : σ → Hp} {dsf : σ → List AD} {Q : Post} {sF : Fr} {ds : List AD} {A H : Hp} (x : Gg) (i11 ih is : Nat) (h2 : H ih = none) (h3 : H is = none) (n12 : ¬ i11 = ih) (n13 : ¬ i11 = is) (n23 : ¬ ih = is)
  (hH : Go.V.HSub A (((H.set ih (.row 4 x.sm.length (smF x.sm))).set is (.row 3 x.cw.length (cwF x.cw))).set i11 (.box 7 1 fun _ => mgC x ih is)))
  (h : CutG inv fr hp dsf Q .normal sF ds (H.set i11 (.box 7 1 fun _ => x.cs))) : CutG inv fr hp dsf Q .normal sF ds A := by
 refine cutG_ent (Ent.weak (s' := sF) (fun t => AV.Le.refl _) hH ?_)
 refine cutG_ent (Ent.freezeBox (s' := sF) (id := ih) (st := 4) (n := x.sm.length) (f := smF x.sm) (j := i11) (st' := 7) (n' := 1) (g := fun _ => mgC x ih is) (g' := fun _ => [smAV x.sm, .sl is 3 x.cw.length, i64 x.pt.hr, i64 x.pt.fro, i64 x.pt.per, intsAV x.pt.fs, psAV x.pt.ps]) ?_ ?_ (fun t => .rfl) (fun _ _ => rfl) (fun q c hq hc => ?_) ?_)
 ·rw [Hp.set_ne _ _ (fun e => n12 e.symm), Hp.set_ne _ _ n23, Hp.set_same]
 ·exact Hp.set_same _ _ _
 ·match c, hc with
  | 0, _ => exact .hit
  | 1, _ => exact .rfl
  | 2, _ => exact .rfl
  | 3, _ => exact .rfl
  | 4, _ => exact .rfl
  | 5, _ => exact .rfl
  | 6, _ => exact .rfl
 refine cutG_ent (Ent.freezeBox (s' := sF) (id := is) (st := 3) (n := x.cw.length) (f := cwF x.cw) (j := i11) (st' := 7) (n' := 1) (g := fun _ => [smAV x.sm, .sl is 3 x.cw.length, i64 x.pt.hr, i64 x.pt.fro, i64 x.pt.per, intsAV x.pt.fs, psAV x.pt.ps]) (g' := fun _ => x.cs) ?_ ?_ (fun t => .rfl) (fun _ _ => rfl) (fun q c hq hc => ?_) ?_)
 ·rw [Hp.set_ne _ _ (fun e => n13 e.symm), Hp.del_ne _ (fun e => n23 e.symm), Hp.set_ne _ _ (fun e => n13 e.symm), Hp.set_same]
 ·exact Hp.set_same _ _ _
 ·match c, hc with
  | 0, _ => exact .rfl
  | 1, _ => exact .hit
  | 2, _ => exact .rfl
  | 3, _ => exact .rfl
  | 4, _ => exact .rfl
  | 5, _ => exact .rfl
  | 6, _ => exact .rfl
 refine cutG_ent (Ent.weak (s' := sF) (fun t => AV.Le.refl _) (H' := H.set i11 (.box 7 1 fun _ => x.cs)) ?_ h)
 intro q o hq
 by_cases e : q = i11
 ·subst e
  rw [Hp.set_same] at hq ⊢
  exact ⟨_, hq, .refl _⟩
 ·rw [Hp.set_ne _ _ e] at hq
  have e2 : q ≠ ih := fun e2 => by rw [e2, h2] at hq; cases hq
  have e3 : q ≠ is := fun e3 => by rw [e3, h3] at hq; cases hq
  exact ⟨o, by rw [Hp.set_ne _ _ e, Hp.del_ne _ e3, Hp.set_ne _ _ e, Hp.del_ne _ e2, Hp.set_ne _ _ e, Hp.set_ne _ _ e3, Hp.set_ne _ _ e2]; exact hq, .refl _⟩
theorem row_setG {α : Type} (en : α → List AV) (d : α) (l : List α) (st i : Nat) (x : α) (c : List AV) (hc : c = en x) (hi : i < l.length) : Obj.Le (.row st l.length (updF l.length i (fun k => en (l.getD k d)) c)) (.row st l.length (fun k => en ((l.set i x).getD k d))) := by
 refine row_ext fun q hq => ?_
 rw [Go.V.updF_at hi hq, get_set x d hi]
 split
 ·exact hc
 ·rfl
theorem more_law (g : Gg) (wh w bt : Int) (N : Nat) (b : Nat → Int) (H : Hp) (hwh : 0 ≤ wh ∧ wh ≤ 255) (hw : 0 ≤ w ∧ w ≤ 255) (hbt : 0 ≤ bt ∧ bt ≤ 255) (hB : N < 2 ^ 63 ∧ ∀ i, i < N → 0 ≤ b i ∧ b i ≤ 255) :
  PTri Try.prog (fnA 7) [g.av, .lit (.int .u8 wh), .lit (.int .u8 w), .lit (.int .u8 bt), .rsl N 1 (byF b)] H (boo true) := by
 refine Tri.drop ?_
 refine tri_w0 Try.func7 (by kernel_rfl) rfl (by simp only [List.length_append, List.length_cons, List.length_nil, Try.ntmps7]; decide) ?_
 refine wps_cutG4 (m := mset [58, 62]) (σ := Nat × Nat × Nat) (fun y => MoreA H y ∧ OkG g ∧ 0 < g.cw.length ∧ 0 < g.N)
  (fun y => [(1, .lit (.int .u8 wh)), (2, .lit (.int .u8 w)), (3, .lit (.int .u8 bt)), (4, .rsl N 1 (byF b)), (5, gptr g), (11, .ref y.1 0 7 0 0)])
  (fun y => ((H.set y.2.1 (.row 4 g.sm.length (smF g.sm))).set y.2.2 (.row 3 g.cw.length (cwF g.cw))).set y.1 (.box 7 1 fun _ => mgC g y.2.1 y.2.2)) (fun _ => []) ?_ fun y hy => ?_
 ·simp only [vsAll, loadA, loadRow, partA, partOk, boxA, boxZ, okAll, stAll, opsA, opA, dstOk, nilSliceOp, argFr, Nat.reduceAdd, Nat.reduceLT, Nat.reduceEqDiff, Nat.reduceBEq, ↓reduceIte, eq_self, wtAll, Try.ntmps7]
  refine callK_pure (gfine_tri g _) ?_
  simp only [vsAll, binA, binLitA, intA, unA, loadA, loadRow, partA, partOk, fieldAddrA, lenA, pickA, opA, guardV, dstOk, Nat.reduceLT, Nat.reduceEqDiff, ↓reduceIte, implies_true, eq_self, wtAll]
  refine condV (fun hc => ?_) (fun hc => ?_)
  ·simp only [vsAll, okAll, stAll, opsA, opA, dstOk, Nat.reduceLT]
   refine callK_pure (awake_tri _) ?_
   simp only [vsAll, opA, dstOk, nilSliceOp, resA, retA.eq_1, Nat.reduceLT, Nat.reduceBEq, ↓reduceIte, eq_self, Try.results7, CutG_ret]
   exact dropR_pure rfl (by (repeat (first | exact HSub_rfl | refine HSub_put_eq (by simp only [vsAll, ↓reduceIte, eq_self, reduceCtorEq, Nat.reduceEqDiff]) ?_ | refine HSub_drop2 (by simp only [vsAll, ↓reduceIte, eq_self, reduceCtorEq, Nat.reduceEqDiff]) ?_ | refine HSub_keep_eq (by simp only [vsAll, ↓reduceIte, eq_self, reduceCtorEq, Nat.reduceEqDiff]) ?_)))
  ·rw [Bool.or_eq_false_iff, Bool.or_eq_false_iff, decide_eq_false_iff_not, decide_eq_false_iff_not] at hc
   obtain ⟨⟨hc1, hc2⟩, hc3⟩ := hc
   obtain ⟨k, kn⟩ := fineG_ok hc1
   have nS := k.nS
   have nC := k.nC
   have hNe : g.N = g.sm.length := rfl
   have h0 : 0 < g.cw.length := by omega
   have h0' : 0 < g.N := by omega
   simp only [vsAll, loadA, loadRow, partA, partOk, cellA, opA, allocA, newCells, okCells, storeObj, dstOk, Nat.reduceAdd, Nat.reduceLT, Nat.reduceEqDiff, ↓reduceIte, eq_self, wtAll]
   intro i11 hh_i11; (try simp only [Hp.set_none, ite_none] at hh_i11)
   rw [Hp.set_set]
   refine vs_draw3 [0, 3, 4, 7, 9, 11] [([1, 0, 0, 3, 5, 0, 0, 7, 4, 9, 10, 11], [([1, 2, 5, 6], [2, 6], 0), ([], [6], 3), ([8], [6], 4), ([], [], 7), ([], [], 9), ([10], [], 11)], []), ([1, 0, 0, 5, 3, 0, 0, 7, 6, 9, 10, 11], [([1, 2, 5, 6], [2, 6], 0), ([], [2, 6], 4), ([], [6], 3), ([8], [], 7), ([], [], 9), ([10], [], 11)], []), ([3, 0, 0, 5, 1, 0, 0, 7, 6, 9, 10, 11], [([1, 2, 5, 6], [2, 6], 4), ([], [2, 6], 0), ([], [6], 3), ([8], [], 7), ([], [], 9), ([10], [], 11)], [])] (by decide +kernel) fun pn hpn => ?_
   have okF : ∀ i, i < g.sm.length → okCells (smF g.sm i) := fun i _ => ⟨rfl, rfl, rfl, rfl, trivial⟩
   have okS' : ∀ i, i < g.cw.length → okCells (cwF g.cw i) := fun i _ => ⟨rfl, rfl, rfl, trivial⟩
   have leF : Obj.Le (.row 4 g.sm.length (appF 0 g.sm.length (fun _ => []) (smF g.sm))) (.row 4 g.sm.length (smF g.sm)) := row_ext fun q hq => by rw [appF_at (by ((try clear hh_i11); omega)), if_neg (by ((try clear hh_i11); omega)), Nat.sub_zero]
   have leS : Obj.Le (.row 3 g.cw.length (appF 0 g.cw.length (fun _ => []) (cwF g.cw))) (.row 3 g.cw.length (cwF g.cw)) := row_ext fun q hq => by rw [appF_at (by ((try clear hh_i11); omega)), if_neg (by ((try clear hh_i11); omega)), Nat.sub_zero]
   simp only [List.mem_cons, List.not_mem_nil, or_false] at hpn
   rcases hpn with rfl | rfl | rfl
   ·simp only [vsAll, loadA, loadRow, partA, partOk, fieldAddrA, cellA, cellsA, okParts, buildMutA, partIdx, elemsA, lensA, partsA, partsOk, opA, newCells, okCells, storeObj, appendA, dstOk, Nat.reduceAdd, Nat.reduceMul, Nat.reduceLT, Nat.reduceLeDiff, Nat.reduceEqDiff, Nat.reduceBEq, ↓reduceIte, eq_self, wtAll]
    intro ih hh_ih; (try simp only [ite_none] at hh_ih)
    simp only [↓reduceIte, hh_ih]
    refine ⟨okF, by ((try clear hh_i11); (try clear hh_ih); omega), by ((try clear hh_i11); (try clear hh_ih); omega), ?_⟩
    intro is hh_is; (try simp only [ite_none] at hh_is)
    simp only [vsAll, Nat.reduceLT, ↓reduceIte, eq_self, hh_is]
    refine ⟨okS', by ((try clear hh_i11); (try clear hh_ih); (try clear hh_is); omega), by ((try clear hh_i11); (try clear hh_ih); (try clear hh_is); omega), ?_⟩
    have q1 : H ih = none ∧ ¬ ih = i11 := by simp_all
    have q2 : H is = none ∧ ¬ is = i11 ∧ ¬ is = ih ∧ ¬ ih = is := by simp_all
    refine cutG_of (i11, ih, is) ⟨⟨hh_i11, q1.1, q2.1, fun e => q1.2 e.symm, fun e => q2.2.1 e.symm, q2.2.2.2⟩, k, h0, h0'⟩ (by simp only [vsAll, argFr, Nat.reduceEqDiff, ↓reduceIte, eq_self]) rfl ?_
    simp only []
    refine Go.V.HSub.trans (B := ((H.set ih (.row 4 g.sm.length (appF 0 g.sm.length (fun _ => []) (smF g.sm)))).set is (.row 3 g.cw.length (appF 0 g.cw.length (fun _ => []) (cwF g.cw)))).set i11 (.box 7 1 fun _ => mgC g ih is)) (by (repeat (first | exact HSub_rfl | refine HSub_put_eq (by simp only [vsAll, ↓reduceIte, eq_self, hh_ih, hh_is]) ?_ | refine HSub_drop2 (by simp only [eq_self, hh_i11, hh_ih, hh_is]) ?_ | refine HSub_keep_eq (by simp only [vsAll, ↓reduceIte, eq_self, reduceCtorEq, Nat.reduceEqDiff, hh_i11, hh_ih, hh_is]) ?_))) (HSub.set (HSub.set (HSub.set (HSub.refl H) leF) leS) (.refl _))
   ·simp only [vsAll, loadA, loadRow, partA, partOk, fieldAddrA, cellA, cellsA, okParts, buildMutA, partIdx, elemsA, lensA, partsA, partsOk, opA, newCells, okCells, storeObj, appendA, dstOk, Nat.reduceAdd, Nat.reduceMul, Nat.reduceLT, Nat.reduceLeDiff, Nat.reduceEqDiff, Nat.reduceBEq, ↓reduceIte, eq_self, wtAll]
    intro ih hh_ih; (try simp only [ite_none] at hh_ih); intro is hh_is; (try simp only [ite_none] at hh_is)
    simp only [vsAll, Nat.reduceLT, ↓reduceIte, eq_self, hh_ih, hh_is]
    refine ⟨okF, by ((try clear hh_i11); (try clear hh_ih); (try clear hh_is); omega), by ((try clear hh_i11); (try clear hh_ih); (try clear hh_is); omega), okS', by ((try clear hh_i11); (try clear hh_ih); (try clear hh_is); omega), by ((try clear hh_i11); (try clear hh_ih); (try clear hh_is); omega), ?_⟩
    have q1 : H ih = none ∧ ¬ ih = i11 := by simp_all
    have q2 : H is = none ∧ ¬ is = i11 ∧ ¬ is = ih ∧ ¬ ih = is := by simp_all
    refine cutG_of (i11, ih, is) ⟨⟨hh_i11, q1.1, q2.1, fun e => q1.2 e.symm, fun e => q2.2.1 e.symm, q2.2.2.2⟩, k, h0, h0'⟩ (by simp only [vsAll, argFr, Nat.reduceEqDiff, ↓reduceIte, eq_self]) rfl ?_
    simp only []
    refine Go.V.HSub.trans (B := ((H.set ih (.row 4 g.sm.length (appF 0 g.sm.length (fun _ => []) (smF g.sm)))).set is (.row 3 g.cw.length (appF 0 g.cw.length (fun _ => []) (cwF g.cw)))).set i11 (.box 7 1 fun _ => mgC g ih is)) (by (repeat (first | exact HSub_rfl | refine HSub_put_eq (by simp only [vsAll, ↓reduceIte, eq_self, hh_ih, hh_is]) ?_ | refine HSub_drop2 (by simp only [eq_self, hh_i11, hh_ih, hh_is]) ?_ | refine HSub_keep_eq (by simp only [vsAll, ↓reduceIte, eq_self, reduceCtorEq, Nat.reduceEqDiff, hh_i11, hh_ih, hh_is]) ?_))) (HSub.set (HSub.set (HSub.set (HSub.refl H) leF) leS) (.refl _))
   ·simp only [vsAll, loadA, loadRow, partA, partOk, fieldAddrA, cellA, cellsA, okParts, buildMutA, partIdx, elemsA, lensA, partsA, partsOk, opA, newCells, okCells, storeObj, appendA, dstOk, Nat.reduceAdd, Nat.reduceMul, Nat.reduceLT, Nat.reduceLeDiff, Nat.reduceEqDiff, Nat.reduceBEq, ↓reduceIte, eq_self, wtAll]
    intro is hh_is; (try simp only [ite_none] at hh_is); intro ih hh_ih; (try simp only [ite_none] at hh_ih)
    simp only [vsAll, Nat.reduceLT, ↓reduceIte, eq_self, hh_is, hh_ih]
    refine ⟨okF, by ((try clear hh_i11); (try clear hh_is); (try clear hh_ih); omega), by ((try clear hh_i11); (try clear hh_is); (try clear hh_ih); omega), okS', by ((try clear hh_i11); (try clear hh_is); (try clear hh_ih); omega), by ((try clear hh_i11); (try clear hh_is); (try clear hh_ih); omega), ?_⟩
    have q1 : H ih = none ∧ ¬ ih = i11 := by simp_all
    have q2 : H is = none ∧ ¬ is = i11 ∧ ¬ is = ih ∧ ¬ ih = is := by simp_all
    refine cutG_of (i11, ih, is) ⟨⟨hh_i11, q1.1, q2.1, fun e => q1.2 e.symm, fun e => q2.2.1 e.symm, q2.2.2.2⟩, k, h0, h0'⟩ (by simp only [vsAll, argFr, Nat.reduceEqDiff, ↓reduceIte, eq_self]) rfl ?_
    simp only []
    refine Go.V.HSub.trans (B := ((H.set ih (.row 4 g.sm.length (appF 0 g.sm.length (fun _ => []) (smF g.sm)))).set is (.row 3 g.cw.length (appF 0 g.cw.length (fun _ => []) (cwF g.cw)))).set i11 (.box 7 1 fun _ => mgC g ih is)) (by (repeat (first | exact HSub_rfl | refine HSub_put_eq (by simp only [vsAll, ↓reduceIte, eq_self, hh_is, hh_ih]) ?_ | refine HSub_drop2 (by simp only [eq_self, hh_i11, hh_is, hh_ih]) ?_ | refine HSub_keep_eq (by simp only [vsAll, ↓reduceIte, eq_self, reduceCtorEq, Nat.reduceEqDiff, hh_i11, hh_is, hh_ih]) ?_))) (HSub.set (HSub.set (HSub.set (HSub.refl H) leF) leS) (.refl _))
 ·obtain ⟨i11, ih, is⟩ := y
  obtain ⟨⟨h1, h2, h3, n12, n13, n23⟩, k, h0, h0'⟩ := hy
  simp only [] at h1 h2 h3 n12 n13 n23
  have m12 : ¬ ih = i11 := fun e => n12 e.symm
  have m13 : ¬ is = i11 := fun e => n13 e.symm
  have m23 : ¬ is = ih := fun e => n23 e.symm
  skip
  have kn := k.near
  have nS := k.nS
  have nC := k.nC
  have hNe : g.N = g.sm.length := rfl
  have hN5 : g.N ≤ 5 := nS
  have hm0 : 0 ≤ w.tmod (g.cw.length : Int) := Int.tmod_nonneg _ hw.1
  have hm1 : w.tmod (g.cw.length : Int) < g.cw.length := Int.tmod_lt_of_pos _ (by ((try clear h1); (try clear h2); (try clear h3); (try clear n12); (try clear n13); (try clear n23); (try clear m12); (try clear m13); (try clear m23); omega))
  have hn0 : 0 ≤ w.tmod (g.sm.length : Int) := Int.tmod_nonneg _ hw.1
  have hn1 : w.tmod (g.sm.length : Int) < g.sm.length := Int.tmod_lt_of_pos _ (by ((try clear h1); (try clear h2); (try clear h3); (try clear n12); (try clear n13); (try clear n23); (try clear m12); (try clear m13); (try clear m23); omega))
  obtain ⟨c, hcw⟩ : ∃ i : Nat, w.tmod (g.cw.length : Int) = (i : Int) := ⟨(w.tmod (g.cw.length : Int)).toNat, by ((try clear h1); (try clear h2); (try clear h3); (try clear n12); (try clear n13); (try clear n23); (try clear m12); (try clear m13); (try clear m23); omega)⟩
  obtain ⟨j, hjw⟩ : ∃ i : Nat, w.tmod (g.sm.length : Int) = (i : Int) := ⟨(w.tmod (g.sm.length : Int)).toNat, by ((try clear h1); (try clear h2); (try clear h3); (try clear n12); (try clear n13); (try clear n23); (try clear m12); (try clear m13); (try clear m23); omega)⟩
  have hc : c < g.cw.length := by ((try clear h1); (try clear h2); (try clear h3); (try clear n12); (try clear n13); (try clear n23); (try clear m12); (try clear m13); (try clear m23); omega)
  have hj : j < g.N := by ((try clear h1); (try clear h2); (try clear h3); (try clear n12); (try clear n13); (try clear n23); (try clear m12); (try clear m13); (try clear m23); omega)
  have eC : g.cw.getD c cw0 = g.crew c := rfl
  have eS : g.sm.getD j sm0 = g.seam j := rfl
  refine wps_cutG3 (m := fun _ => false) (σ := Gg) (fun x => EasG g x)
   (fun x => [(3, .lit (.int .u8 bt)), (4, .rsl N 1 (byF b)), (5, gptr g), (11, .ref i11 0 7 0 0), (12, i64 c)])
   (fun x => H.set i11 (.box 7 1 fun _ => x.cs)) (fun _ => []) ?_ fun x hx => ?_
  ·simp only [Try.ntmps7]
   refine vs_draw2 [0, 0, 0, 0, 0, 0, 0, 0, 0, 0, 0, 0, 0, 0] [] [0, 1, 2, 3, 4, 5, 6, 7, 8, 9, 10, 11, 12, 13] (by decide +kernel) ?_
   simp only [vsAll, binA, binLitA, intA, loadA, loadRow, partA, partOk, fieldAddrA, lenA, convA, opA, dstOk, Nat.reduceLT, Nat.reduceEqDiff, ↓reduceIte, eq_self, ne_eq, wtAll, hcw, hjw]
   refine ⟨by simp only [InR_i64]; ((try clear h1); (try clear h2); (try clear h3); (try clear n12); (try clear n13); (try clear n23); (try clear m12); (try clear m13); (try clear m23); omega), by ((try clear h1); (try clear h2); (try clear h3); (try clear n12); (try clear n13); (try clear n23); (try clear m12); (try clear m13); (try clear m23); omega), by simp only [InR_i64]; ((try clear h1); (try clear h2); (try clear h3); (try clear n12); (try clear n13); (try clear n23); (try clear m12); (try clear m13); (try clear m23); omega), by ((try clear h1); (try clear h2); (try clear h3); (try clear n12); (try clear n13); (try clear n23); (try clear m12); (try clear m13); (try clear m23); omega), ?_⟩
   refine vs_draw2 [0, 0, 0, 0, 0, 0, 0, 0, 0, 0] [] [0, 1, 2, 3, 4, 5, 6, 7, 8, 9] (by decide +kernel) ?_
   simp only [vsAll, binA, binLitA, intA, loadA, loadRow, partA, partOk, fieldAddrA, indexAddrA, opA, dstOk, nilSliceOp, Nat.reduceLT, Nat.reduceEqDiff, Int.reduceEq, ↓reduceIte, eq_self, ne_eq, wtAll]
   refine ⟨⟨by ((try clear h1); (try clear h2); (try clear h3); (try clear n12); (try clear n13); (try clear n23); (try clear m12); (try clear m13); (try clear m23); omega), by ((try clear h1); (try clear h2); (try clear h3); (try clear n12); (try clear n13); (try clear n23); (try clear m12); (try clear m13); (try clear m23); omega)⟩, ⟨by ((try clear h1); (try clear h2); (try clear h3); (try clear n12); (try clear n13); (try clear n23); (try clear m12); (try clear m13); (try clear m23); omega), by ((try clear h1); (try clear h2); (try clear h3); (try clear n12); (try clear n13); (try clear n23); (try clear m12); (try clear m13); (try clear m23); omega)⟩, ?_⟩
   have hw5 : 0 ≤ wh.tmod 5 := Int.tmod_nonneg _ (by ((try clear h1); (try clear h2); (try clear h3); (try clear n12); (try clear n13); (try clear n23); (try clear m12); (try clear m13); (try clear m23); omega))
   have hw5b : wh.tmod 5 < 5 := Int.tmod_lt_of_pos _ (by ((try clear h1); (try clear h2); (try clear h3); (try clear n12); (try clear n13); (try clear n23); (try clear m12); (try clear m13); (try clear m23); omega))
   have hcc := k.crew hc
   have hss := k.seam hj
   unfold okC at hcc
   unfold okS at hss
   refine condV (fun hc0 => ?_) (fun hc0 => ?_)
   ·simp only [vsAll, binA, binLitA, intA, loadA, loadRow, partA, partOk, fieldAddrA, nilCheckA, cellA, cellsA, mmA, okAll, stAll, opsA, opA, newCells, okCells, storeObj, dstOk, Nat.reduceAdd, Nat.reduceLT, Nat.reduceLeDiff, Nat.reduceEqDiff, ↓reduceIte, eq_self, wtAll, m13, cwF_at, eC]
    refine ⟨by ((try clear h1); (try clear h2); (try clear h3); (try clear n12); (try clear n13); (try clear n23); (try clear m12); (try clear m13); (try clear m23); omega), by simp only [InR_i64]; ((try clear h1); (try clear h2); (try clear h3); (try clear n12); (try clear n13); (try clear n23); (try clear m12); (try clear m13); (try clear m23); omega), by ((try clear h1); (try clear h2); (try clear h3); (try clear n12); (try clear n13); (try clear n23); (try clear m12); (try clear m13); (try clear m23); omega), ?_⟩
    have eu : updF g.cw.length c (cwF g.cw) [i64 (g.crew c).lo, i64 (min 12 ((g.crew c).hi + 1)), i64 (g.crew c).st] c = [i64 (g.crew c).lo, i64 (min 12 ((g.crew c).hi + 1)), i64 (g.crew c).st] := by rw [Go.V.updF_at hc hc, if_pos rfl]
    refine vs_draw2 [0, 0, 0, 0, 0, 0, 0, 0, 0, 0, 0, 0, 0, 0, 0, 0, 1] [([0, 1, 2, 3, 4, 5, 6, 7, 8, 9, 10, 11, 12, 13, 14, 15], [], 16)] [] (by decide +kernel) ?_
    simp only [vsAll, binA, binLitA, intA, loadA, loadRow, partA, partOk, fieldAddrA, nilCheckA, cellA, cellsA, mmA, okAll, stAll, opsA, opA, newCells, okCells, storeObj, dstOk, Nat.reduceLT, Nat.reduceLeDiff, Nat.reduceEqDiff, ↓reduceIte, eq_self, wtAll, eu]
    refine ⟨by ((try clear h1); (try clear h2); (try clear h3); (try clear n12); (try clear n13); (try clear n23); (try clear m12); (try clear m13); (try clear m23); omega), by ((try clear h1); (try clear h2); (try clear h3); (try clear n12); (try clear n13); (try clear n23); (try clear m12); (try clear m13); (try clear m23); omega), by simp only [InR_i64]; ((try clear h1); (try clear h2); (try clear h3); (try clear n12); (try clear n13); (try clear n23); (try clear m12); (try clear m13); (try clear m23); omega), by ((try clear h1); (try clear h2); (try clear h3); (try clear n12); (try clear n13); (try clear n23); (try clear m12); (try clear m13); (try clear m23); omega), ?_⟩
    have E := eas_cw k hc (c := ⟨min (min 12 ((g.crew c).hi + 1)) ((g.crew c).lo + 1), min 12 ((g.crew c).hi + 1), (g.crew c).st⟩) (by unfold okC; simp only []; ((try clear h1); (try clear h2); (try clear h3); (try clear n12); (try clear n13); (try clear n23); (try clear m12); (try clear m13); (try clear m23); omega)) (by simp only []; ((try clear h1); (try clear h2); (try clear h3); (try clear n12); (try clear n13); (try clear n23); (try clear m12); (try clear m13); (try clear m23); omega)) (fun n hn hb => hb)
    refine cut_more (setCw g c ⟨min (min 12 ((g.crew c).hi + 1)) ((g.crew c).lo + 1), min 12 ((g.crew c).hi + 1), (g.crew c).st⟩) i11 ih is h2 h3 n12 n13 n23 ?_ (cutG_of (setCw g c ⟨min (min 12 ((g.crew c).hi + 1)) ((g.crew c).lo + 1), min 12 ((g.crew c).hi + 1), (g.crew c).st⟩) E (by simp only [vsAll, Nat.reduceEqDiff, ↓reduceIte, eq_self]) rfl HSub_rfl)
    have hle : Obj.Le (.row 3 g.cw.length (updF g.cw.length c (updF g.cw.length c (cwF g.cw) [i64 (g.crew c).lo, i64 (min 12 ((g.crew c).hi + 1)), i64 (g.crew c).st]) [i64 (min (min 12 ((g.crew c).hi + 1)) ((g.crew c).lo + 1)), i64 (min 12 ((g.crew c).hi + 1)), i64 (g.crew c).st])) (.row 3 g.cw.length (cwF (setCw g c ⟨min (min 12 ((g.crew c).hi + 1)) ((g.crew c).lo + 1), min 12 ((g.crew c).hi + 1), (g.crew c).st⟩).cw)) := by
     refine row_ext fun q hq => ?_
     rw [Go.V.updF_at hc hq, Go.V.updF_at hc hq]
     have := setCw_crew (⟨min (min 12 ((g.crew c).hi + 1)) ((g.crew c).lo + 1), min 12 ((g.crew c).hi + 1), (g.crew c).st⟩ : Cw) hc q
     unfold Gg.crew at this
     unfold cwF
     simp only [Gg.crew, this]
     by_cases e : q = c
     ·rw [if_pos e, if_pos e]
     ·rw [if_neg e, if_neg e, if_neg e]
    have el : (setCw g c ⟨min (min 12 ((g.crew c).hi + 1)) ((g.crew c).lo + 1), min 12 ((g.crew c).hi + 1), (g.crew c).st⟩).cw.length = g.cw.length := List.length_set
    simp only [mgC, el]
    refine Go.V.HSub.trans (B := ((H.set ih (.row 4 g.sm.length (smF g.sm))).set is _).set i11 (.box 7 1 fun _ => mgC g ih is)) (by (repeat (first | exact HSub_rfl | refine HSub_put_eq (by simp only [vsAll, ↓reduceIte, eq_self, n13, n23, m12]) ?_ | refine HSub_drop2 (by simp only [eq_self, h1, h2, h3]) ?_ | refine HSub_keep_eq (by simp only [vsAll, ↓reduceIte, eq_self, reduceCtorEq, Nat.reduceEqDiff, h1, h2, h3, n12, n13, n23, m12, m13, m23]) ?_))) (HSub.set (HSub.set (HSub.set (HSub.refl H) (.refl _)) hle) (.refl _))
   ·simp only [vsAll, binA, binLitA, intA, opA, dstOk, nilSliceOp, Nat.reduceLT, Nat.reduceEqDiff, ↓reduceIte, eq_self]
    refine condV (fun hc1 => ?_) (fun hc1 => ?_)
    ·simp only [vsAll, binA, binLitA, intA, loadA, loadRow, partA, partOk, fieldAddrA, nilCheckA, cellA, cellsA, mmA, okAll, stAll, opsA, opA, newCells, okCells, storeObj, dstOk, Nat.reduceLT, Nat.reduceLeDiff, Nat.reduceEqDiff, ↓reduceIte, eq_self, wtAll, n23, m12, smF_at, eS]
     refine ⟨by ((try clear h1); (try clear h2); (try clear h3); (try clear n12); (try clear n13); (try clear n23); (try clear m12); (try clear m13); (try clear m23); omega), by simp only [InR_i64]; ((try clear h1); (try clear h2); (try clear h3); (try clear n12); (try clear n13); (try clear n23); (try clear m12); (try clear m13); (try clear m23); omega), by ((try clear h1); (try clear h2); (try clear h3); (try clear n12); (try clear n13); (try clear n23); (try clear m12); (try clear m13); (try clear m23); omega), ?_⟩
     have E := eas_sm k hj (s := ⟨max 1 ((g.seam j).fa - 2), (g.seam j).dr, (g.seam j).fl, (g.seam j).po⟩) (by unfold okS; simp only []; ((try clear h1); (try clear h2); (try clear h3); (try clear n12); (try clear n13); (try clear n23); (try clear m12); (try clear m13); (try clear m23); omega)) rfl (by simp only []; ((try clear h1); (try clear h2); (try clear h3); (try clear n12); (try clear n13); (try clear n23); (try clear m12); (try clear m13); (try clear m23); omega)) (by simp only []; ((try clear h1); (try clear h2); (try clear h3); (try clear n12); (try clear n13); (try clear n23); (try clear m12); (try clear m13); (try clear m23); omega)) (by simp only []; ((try clear h1); (try clear h2); (try clear h3); (try clear n12); (try clear n13); (try clear n23); (try clear m12); (try clear m13); (try clear m23); omega))
     refine cut_more (setSm g j ⟨max 1 ((g.seam j).fa - 2), (g.seam j).dr, (g.seam j).fl, (g.seam j).po⟩) i11 ih is h2 h3 n12 n13 n23 ?_ (cutG_of (setSm g j ⟨max 1 ((g.seam j).fa - 2), (g.seam j).dr, (g.seam j).fl, (g.seam j).po⟩) E (by simp only [vsAll, Nat.reduceEqDiff, ↓reduceIte, eq_self]) rfl HSub_rfl)
     have hle : Obj.Le (.row 4 g.sm.length (updF g.sm.length j (smF g.sm) [i64 (max 1 ((g.seam j).fa - 2)), i64 ((g.seam j).dr), i64 ((g.seam j).fl), i64 ((g.seam j).po)])) (.row 4 g.sm.length (smF (setSm g j ⟨max 1 ((g.seam j).fa - 2), (g.seam j).dr, (g.seam j).fl, (g.seam j).po⟩).sm)) := row_setG Sm.cs sm0 g.sm 4 j (⟨max 1 ((g.seam j).fa - 2), (g.seam j).dr, (g.seam j).fl, (g.seam j).po⟩ : Sm) _ rfl hj
     have el : (setSm g j ⟨max 1 ((g.seam j).fa - 2), (g.seam j).dr, (g.seam j).fl, (g.seam j).po⟩).sm.length = g.sm.length := List.length_set
     simp only [mgC, el]
     refine Go.V.HSub.trans (B := ((H.set ih _).set is (.row 3 g.cw.length (cwF g.cw))).set i11 (.box 7 1 fun _ => mgC g ih is)) (by (repeat (first | exact HSub_rfl | refine HSub_put_eq (by simp only [vsAll, ↓reduceIte, eq_self, n12, m13, m23]) ?_ | refine HSub_drop2 (by simp only [eq_self, h1, h2, h3]) ?_ | refine HSub_keep_eq (by simp only [vsAll, ↓reduceIte, eq_self, reduceCtorEq, Nat.reduceEqDiff, h1, h2, h3, n12, n13, n23, m12, m13, m23]) ?_))) (HSub.set (HSub.set (HSub.set (HSub.refl H) hle) (.refl _)) (.refl _))
    ·simp only [vsAll, binA, binLitA, intA, opA, dstOk, nilSliceOp, Nat.reduceLT, Nat.reduceEqDiff, ↓reduceIte, eq_self]
     refine condV (fun hc2 => ?_) (fun hc2 => ?_)
     ·simp only [vsAll, binA, binLitA, intA, loadA, loadRow, partA, partOk, fieldAddrA, nilCheckA, cellA, cellsA, mmA, okAll, stAll, opsA, opA, newCells, okCells, storeObj, dstOk, Nat.reduceAdd, Nat.reduceLT, Nat.reduceLeDiff, Nat.reduceEqDiff, ↓reduceIte, eq_self, wtAll, n23, m12, smF_at, eS]
      refine ⟨by ((try clear h1); (try clear h2); (try clear h3); (try clear n12); (try clear n13); (try clear n23); (try clear m12); (try clear m13); (try clear m23); omega), by simp only [InR_i64]; ((try clear h1); (try clear h2); (try clear h3); (try clear n12); (try clear n13); (try clear n23); (try clear m12); (try clear m13); (try clear m23); omega), by ((try clear h1); (try clear h2); (try clear h3); (try clear n12); (try clear n13); (try clear n23); (try clear m12); (try clear m13); (try clear m23); omega), ?_⟩
      have E := eas_sm k hj (s := ⟨(g.seam j).fa, max 0 ((g.seam j).dr - 1), (g.seam j).fl, (g.seam j).po⟩) (by unfold okS; simp only []; ((try clear h1); (try clear h2); (try clear h3); (try clear n12); (try clear n13); (try clear n23); (try clear m12); (try clear m13); (try clear m23); omega)) rfl (by simp only []; ((try clear h1); (try clear h2); (try clear h3); (try clear n12); (try clear n13); (try clear n23); (try clear m12); (try clear m13); (try clear m23); omega)) (by simp only []; ((try clear h1); (try clear h2); (try clear h3); (try clear n12); (try clear n13); (try clear n23); (try clear m12); (try clear m13); (try clear m23); omega)) (by simp only []; ((try clear h1); (try clear h2); (try clear h3); (try clear n12); (try clear n13); (try clear n23); (try clear m12); (try clear m13); (try clear m23); omega))
      refine cut_more (setSm g j ⟨(g.seam j).fa, max 0 ((g.seam j).dr - 1), (g.seam j).fl, (g.seam j).po⟩) i11 ih is h2 h3 n12 n13 n23 ?_ (cutG_of (setSm g j ⟨(g.seam j).fa, max 0 ((g.seam j).dr - 1), (g.seam j).fl, (g.seam j).po⟩) E (by simp only [vsAll, Nat.reduceEqDiff, ↓reduceIte, eq_self]) rfl HSub_rfl)
      have hle : Obj.Le (.row 4 g.sm.length (updF g.sm.length j (smF g.sm) [i64 ((g.seam j).fa), i64 (max 0 ((g.seam j).dr - 1)), i64 ((g.seam j).fl), i64 ((g.seam j).po)])) (.row 4 g.sm.length (smF (setSm g j ⟨(g.seam j).fa, max 0 ((g.seam j).dr - 1), (g.seam j).fl, (g.seam j).po⟩).sm)) := row_setG Sm.cs sm0 g.sm 4 j (⟨(g.seam j).fa, max 0 ((g.seam j).dr - 1), (g.seam j).fl, (g.seam j).po⟩ : Sm) _ rfl hj
      have el : (setSm g j ⟨(g.seam j).fa, max 0 ((g.seam j).dr - 1), (g.seam j).fl, (g.seam j).po⟩).sm.length = g.sm.length := List.length_set
      simp only [mgC, el]
      refine Go.V.HSub.trans (B := ((H.set ih _).set is (.row 3 g.cw.length (cwF g.cw))).set i11 (.box 7 1 fun _ => mgC g ih is)) (by (repeat (first | exact HSub_rfl | refine HSub_put_eq (by simp only [vsAll, ↓reduceIte, eq_self, n12, m13, m23]) ?_ | refine HSub_drop2 (by simp only [eq_self, h1, h2, h3]) ?_ | refine HSub_keep_eq (by simp only [vsAll, ↓reduceIte, eq_self, reduceCtorEq, Nat.reduceEqDiff, h1, h2, h3, n12, n13, n23, m12, m13, m23]) ?_))) (HSub.set (HSub.set (HSub.set (HSub.refl H) hle) (.refl _)) (.refl _))
     ·simp only [vsAll, binA, binLitA, intA, opA, dstOk, nilSliceOp, Nat.reduceLT, Nat.reduceEqDiff, ↓reduceIte, eq_self]
      refine condV (fun hc3 => ?_) (fun hc3 => ?_)
      ·simp only [vsAll, binA, binLitA, intA, loadA, loadRow, partA, partOk, fieldAddrA, nilCheckA, cellA, cellsA, mmA, okAll, stAll, opsA, opA, newCells, okCells, storeObj, dstOk, Nat.reduceAdd, Nat.reduceLT, Nat.reduceLeDiff, Nat.reduceEqDiff, ↓reduceIte, eq_self, wtAll, n23, m12, smF_at, eS]
       refine ⟨by ((try clear h1); (try clear h2); (try clear h3); (try clear n12); (try clear n13); (try clear n23); (try clear m12); (try clear m13); (try clear m23); omega), by simp only [InR_i64]; ((try clear h1); (try clear h2); (try clear h3); (try clear n12); (try clear n13); (try clear n23); (try clear m12); (try clear m13); (try clear m23); omega), by ((try clear h1); (try clear h2); (try clear h3); (try clear n12); (try clear n13); (try clear n23); (try clear m12); (try clear m13); (try clear m23); omega), ?_⟩
       have E := eas_sm k hj (s := ⟨(g.seam j).fa, (g.seam j).dr, min 24 ((g.seam j).fl + 1), (g.seam j).po⟩) (by unfold okS; simp only []; ((try clear h1); (try clear h2); (try clear h3); (try clear n12); (try clear n13); (try clear n23); (try clear m12); (try clear m13); (try clear m23); omega)) rfl (by simp only []; ((try clear h1); (try clear h2); (try clear h3); (try clear n12); (try clear n13); (try clear n23); (try clear m12); (try clear m13); (try clear m23); omega)) (by simp only []; ((try clear h1); (try clear h2); (try clear h3); (try clear n12); (try clear n13); (try clear n23); (try clear m12); (try clear m13); (try clear m23); omega)) (by simp only []; ((try clear h1); (try clear h2); (try clear h3); (try clear n12); (try clear n13); (try clear n23); (try clear m12); (try clear m13); (try clear m23); omega))
       refine cut_more (setSm g j ⟨(g.seam j).fa, (g.seam j).dr, min 24 ((g.seam j).fl + 1), (g.seam j).po⟩) i11 ih is h2 h3 n12 n13 n23 ?_ (cutG_of (setSm g j ⟨(g.seam j).fa, (g.seam j).dr, min 24 ((g.seam j).fl + 1), (g.seam j).po⟩) E (by simp only [vsAll, Nat.reduceEqDiff, ↓reduceIte, eq_self]) rfl HSub_rfl)
       have hle : Obj.Le (.row 4 g.sm.length (updF g.sm.length j (smF g.sm) [i64 ((g.seam j).fa), i64 ((g.seam j).dr), i64 (min 24 ((g.seam j).fl + 1)), i64 ((g.seam j).po)])) (.row 4 g.sm.length (smF (setSm g j ⟨(g.seam j).fa, (g.seam j).dr, min 24 ((g.seam j).fl + 1), (g.seam j).po⟩).sm)) := row_setG Sm.cs sm0 g.sm 4 j (⟨(g.seam j).fa, (g.seam j).dr, min 24 ((g.seam j).fl + 1), (g.seam j).po⟩ : Sm) _ rfl hj
       have el : (setSm g j ⟨(g.seam j).fa, (g.seam j).dr, min 24 ((g.seam j).fl + 1), (g.seam j).po⟩).sm.length = g.sm.length := List.length_set
       simp only [mgC, el]
       refine Go.V.HSub.trans (B := ((H.set ih _).set is (.row 3 g.cw.length (cwF g.cw))).set i11 (.box 7 1 fun _ => mgC g ih is)) (by (repeat (first | exact HSub_rfl | refine HSub_put_eq (by simp only [vsAll, ↓reduceIte, eq_self, n12, m13, m23]) ?_ | refine HSub_drop2 (by simp only [eq_self, h1, h2, h3]) ?_ | refine HSub_keep_eq (by simp only [vsAll, ↓reduceIte, eq_self, reduceCtorEq, Nat.reduceEqDiff, h1, h2, h3, n12, n13, n23, m12, m13, m23]) ?_))) (HSub.set (HSub.set (HSub.set (HSub.refl H) hle) (.refl _)) (.refl _))
      ·have ep2 : (1 : Int) * 2 ^ j = ((2 ^ j : Nat) : Int) := by rw [Int.one_mul]; simp
       have hpj : 2 ^ j ≤ 2 ^ 4 := Nat.pow_le_pow_right (by decide) (by ((try clear h1); (try clear h2); (try clear h3); (try clear n12); (try clear n13); (try clear n23); (try clear m12); (try clear m13); (try clear m23); omega))
       have hst := st_lt k hc
       have est : (g.crew c).st = (((g.crew c).st.toNat : Nat) : Int) := by ((try clear h1); (try clear h2); (try clear h3); (try clear n12); (try clear n13); (try clear n23); (try clear m12); (try clear m13); (try clear m23); omega)
       have hor : (g.crew c).st.toNat ||| 2 ^ j < 2 ^ g.N := Nat.or_lt_two_pow hst.2.1 (Nat.pow_lt_pow_right (by decide) hj)
       refine vs_draw2 [0, 0, 0, 0, 0, 0, 0, 0, 0, 1] [([0, 1, 2, 3, 4, 5, 6, 7, 8], [], 9)] [] (by decide +kernel) ?_
       simp only [vsAll, binA, binLitA, intA, loadA, loadRow, partA, partOk, fieldAddrA, nilCheckA, cellA, cellsA, opA, newCells, okCells, storeObj, dstOk, Nat.reduceAdd, Nat.reduceLT, Nat.reduceEqDiff, ↓reduceIte, eq_self, wtAll, m13, cwF_at, eC, ep2]
       generalize 2 ^ j = Q at hpj hor ep2 ⊢
       refine ⟨by ((try clear h1); (try clear h2); (try clear h3); (try clear n12); (try clear n13); (try clear n23); (try clear m12); (try clear m13); (try clear m23); omega), ⟨by ((try clear h1); (try clear h2); (try clear h3); (try clear n12); (try clear n13); (try clear n23); (try clear m12); (try clear m13); (try clear m23); omega), by ((try clear h1); (try clear h2); (try clear h3); (try clear n12); (try clear n13); (try clear n23); (try clear m12); (try clear m13); (try clear m23); omega), by simp only [InR_i64]; ((try clear h1); (try clear h2); (try clear h3); (try clear n12); (try clear n13); (try clear n23); (try clear m12); (try clear m13); (try clear m23); omega)⟩, ⟨by ((try clear h1); (try clear h2); (try clear h3); (try clear n12); (try clear n13); (try clear n23); (try clear m12); (try clear m13); (try clear m23); omega), by ((try clear h1); (try clear h2); (try clear h3); (try clear n12); (try clear n13); (try clear n23); (try clear m12); (try clear m13); (try clear m23); omega), by simp only [InR_i64]; ((try clear h1); (try clear h2); (try clear h3); (try clear n12); (try clear n13); (try clear n23); (try clear m12); (try clear m13); (try clear m23); omega), by simp only [InR_i64]; ((try clear h1); (try clear h2); (try clear h3); (try clear n12); (try clear n13); (try clear n23); (try clear m12); (try clear m13); (try clear m23); omega)⟩, by ((try clear h1); (try clear h2); (try clear h3); (try clear n12); (try clear n13); (try clear n23); (try clear m12); (try clear m13); (try clear m23); omega), ?_⟩
       have E := eas_cw k hc (c := ⟨(g.crew c).lo, (g.crew c).hi, (((g.crew c).st.toNat ||| Q : Nat) : Int)⟩) (by unfold okC; simp only []; rw [← hNe]; ((try clear h1); (try clear h2); (try clear h3); (try clear n12); (try clear n13); (try clear n23); (try clear m12); (try clear m13); (try clear m23); omega)) (Int.le_refl _) (fun n hn hb => by
        show (((g.crew c).st.toNat ||| Q : Nat) : Int).toNat.testBit n = true
        rw [Int.toNat_natCast, Nat.testBit_or, hb, Bool.true_or])
       refine cut_more (setCw g c ⟨(g.crew c).lo, (g.crew c).hi, (((g.crew c).st.toNat ||| Q : Nat) : Int)⟩) i11 ih is h2 h3 n12 n13 n23 ?_ (cutG_of (setCw g c ⟨(g.crew c).lo, (g.crew c).hi, (((g.crew c).st.toNat ||| Q : Nat) : Int)⟩) E (by simp only [vsAll, Nat.reduceEqDiff, ↓reduceIte, eq_self]) rfl HSub_rfl)
       have hle : Obj.Le (.row 3 g.cw.length (updF g.cw.length c (cwF g.cw) [i64 (g.crew c).lo, i64 (g.crew c).hi, i64 (((g.crew c).st.toNat ||| Q : Nat) : Int)])) (.row 3 g.cw.length (cwF (setCw g c ⟨(g.crew c).lo, (g.crew c).hi, (((g.crew c).st.toNat ||| Q : Nat) : Int)⟩).cw)) := row_setG Cw.cs cw0 g.cw 3 c (⟨(g.crew c).lo, (g.crew c).hi, (((g.crew c).st.toNat ||| Q : Nat) : Int)⟩ : Cw) _ rfl hc
       have el : (setCw g c ⟨(g.crew c).lo, (g.crew c).hi, (((g.crew c).st.toNat ||| Q : Nat) : Int)⟩).cw.length = g.cw.length := List.length_set
       simp only [mgC, el]
       refine Go.V.HSub.trans (B := ((H.set ih (.row 4 g.sm.length (smF g.sm))).set is _).set i11 (.box 7 1 fun _ => mgC g ih is)) (by (repeat (first | exact HSub_rfl | refine HSub_put_eq (by simp only [vsAll, ↓reduceIte, eq_self, n13, n23, m12]) ?_ | refine HSub_drop2 (by simp only [eq_self, h1, h2, h3]) ?_ | refine HSub_keep_eq (by simp only [vsAll, ↓reduceIte, eq_self, reduceCtorEq, Nat.reduceEqDiff, h1, h2, h3, n12, n13, n23, m12, m13, m23]) ?_))) (HSub.set (HSub.set (HSub.set (HSub.refl H) (.refl _)) hle) (.refl _))
  ·have kx := hx.kx
   have knx := kx.near
   have exN := hx.n
   have exM := hx.m
   have hpw : 2 ^ g.N ≤ 2 ^ 5 := Nat.pow_le_pow_right (by ((try clear h1); (try clear h2); (try clear h3); (try clear n12); (try clear n13); (try clear n23); (try clear m12); (try clear m13); (try clear m23); omega)) hN5
   have hp0 : 0 < 2 ^ g.N := Nat.two_pow_pos _
   have ep : (1 : Int) * 2 ^ g.sm.length = ((2 ^ g.N : Nat) : Int) := by rw [Int.one_mul]; simp [Gg.N]
   have eTN : (((2 ^ g.N : Nat) : Int) - 1).toNat = 2 ^ g.N - 1 := by ((try clear h1); (try clear h2); (try clear h3); (try clear n12); (try clear n13); (try clear n23); (try clear m12); (try clear m13); (try clear m23); omega)
   refine wps_vs (m := fun _ => false) ?_
   simp only [vsAll, Try.ntmps7]
   refine vs_draw2 [0, 0, 0, 0, 0, 0, 0, 0, 0, 0, 1, 2] [([0, 1, 2, 3, 4, 5, 6, 7, 8, 9], [], 10)] [11] (by decide +kernel) ?_
   simp only [vsAll, binA, binLitA, intA, loadA, loadRow, partA, partOk, fieldAddrA, lenA, convA, okAll, stAll, opsA, opA, dstOk, Nat.reduceLT, Nat.reduceEqDiff, ↓reduceIte, eq_self, wtAll, ep, eTN]
   refine ⟨by simp only [InR_i64]; ((try clear h1); (try clear h2); (try clear h3); (try clear n12); (try clear n13); (try clear n23); (try clear m12); (try clear m13); (try clear m23); omega), ⟨by ((try clear h1); (try clear h2); (try clear h3); (try clear n12); (try clear n13); (try clear n23); (try clear m12); (try clear m13); (try clear m23); omega), by ((try clear h1); (try clear h2); (try clear h3); (try clear n12); (try clear n13); (try clear n23); (try clear m12); (try clear m13); (try clear m23); omega), by simp only [InR_i64]; ((try clear h1); (try clear h2); (try clear h3); (try clear n12); (try clear n13); (try clear n23); (try clear m12); (try clear m13); (try clear m23); omega)⟩, by simp only [InR_i64]; ((try clear h1); (try clear h2); (try clear h3); (try clear n12); (try clear n13); (try clear n23); (try clear m12); (try clear m13); (try clear m23); omega), ⟨by ((try clear h1); (try clear h2); (try clear h3); (try clear n12); (try clear n13); (try clear n23); (try clear m12); (try clear m13); (try clear m23); omega), by ((try clear h1); (try clear h2); (try clear h3); (try clear n12); (try clear n13); (try clear n23); (try clear m12); (try clear m13); (try clear m23); omega), by simp only [InR_i64]; ((try clear h1); (try clear h2); (try clear h3); (try clear n12); (try clear n13); (try clear n23); (try clear m12); (try clear m13); (try clear m23); omega), by simp only [InR_i64]; ((try clear h1); (try clear h2); (try clear h3); (try clear n12); (try clear n13); (try clear n23); (try clear m12); (try clear m13); (try clear m23); omega)⟩, ?_⟩
   have hSle : bt.toNat &&& (2 ^ g.N - 1) < 2 ^ g.N := by
    have := Nat.and_le_right (n := bt.toNat) (m := 2 ^ g.N - 1)
    ((try clear h1); (try clear h2); (try clear h3); (try clear n12); (try clear n13); (try clear n23); (try clear m12); (try clear m13); (try clear m23); omega)
   generalize bt.toNat &&& (2 ^ g.N - 1) = S at hSle ⊢
   refine callK (drawn_tri g S N b _ k hSle hB.1 hB.2) ?_
   rintro r H' ⟨rfl, l, hro, hlen, rfl⟩
   have hll := row_len k (rowB_of hSle hro)
   have h4 := chk4 k hc hSle hro
   have h4x := chk4 kx (c := c) (by ((try clear h1); (try clear h2); (try clear h3); (try clear n12); (try clear n13); (try clear n23); (try clear m12); (try clear m13); (try clear m23); omega)) (show S < 2 ^ x.N by rw [exN]; exact hSle) hro
   have g1 : (rgtB g c l && !rgtB x c l) = false := by
    cases h : rgtB g c l with
    | false => rfl
    | true =>
      have := (eas_row hx hc l (row_in hSle hro) h).1
      rw [this]; rfl
   simp only [vsAll, loadA, loadRow, partA, partOk, okAll, stAll, opsA, opA, dstOk, Nat.reduceLT, Nat.reduceEqDiff, ↓reduceIte, eq_self, wtAll]
   refine callK_pure (gright_tri g (c : Int) l _ kn (by ((try clear h1); (try clear h2); (try clear h3); (try clear n12); (try clear n13); (try clear n23); (try clear m12); (try clear m13); (try clear m23); omega))) ?_
   rw [h4]
   simp only [vsAll, loadA, loadRow, partA, partOk, opA, guardV, dstOk, Nat.reduceLT, Nat.reduceEqDiff, ↓reduceIte, implies_true, eq_self, wtAll]
   refine gcall (boo (rgtB x c l)) (fun hg => ⟨by simp only [vsAll, opA], by simp only [vsAll, okAll, opsA, opA, Nat.reduceEqDiff, ↓reduceIte, eq_self, hg], h4x ▸ gright_tri x (c : Int) l _ knx (by ((try clear h1); (try clear h2); (try clear h3); (try clear n12); (try clear n13); (try clear n23); (try clear m12); (try clear m13); (try clear m23); omega))⟩) ?_
   simp only [vsAll, unA, loadA, loadRow, partA, partOk, pickA, okAll, stAll, opsA, opA, guardV, dstOk, Nat.reduceLT, Nat.reduceEqDiff, ↓reduceIte, implies_true, eq_self, wtAll, g1]
   obtain ⟨s1, s2⟩ := sets_at k hc
   obtain ⟨s3, s4⟩ := sets_at kx (c := c) (by ((try clear h1); (try clear h2); (try clear h3); (try clear n12); (try clear n13); (try clear n23); (try clear m12); (try clear m13); (try clear m23); omega))
   rw [exN] at s4
   refine callK_pure (wsets_tri g (c : Int) _ kn) ?_
   rw [s1, s2]
   simp only [vsAll, loadA, loadRow, partA, partOk, extractA, okAll, stAll, opsA, opA, dstOk, nilSliceOp, Nat.reduceAdd, Nat.reduceLT, Nat.reduceEqDiff, ↓reduceIte, eq_self, wtAll]
   refine callK_pure (wsets_tri x (c : Int) _ knx) ?_
   rw [s3, s4]
   have hsm := fun q => sts_mem (g := x) (c := c) (n := 2 ^ g.N) (x := q)
   have hsI := sts_InR (g := x) (c := c) (n := 2 ^ g.N) (by ((try clear h1); (try clear h2); (try clear h3); (try clear n12); (try clear n13); (try clear n23); (try clear m12); (try clear m13); (try clear m23); omega))
   have hsl := stsN_len x c (2 ^ g.N)
   have hsl1 := stsN_len g c (2 ^ g.N)
   have hsa := fun i h => sts_at (g := g) (c := c) (n := 2 ^ g.N) (i := i) h
   have hes1 : ∀ q, q < 2 ^ g.N → (endO g c q).isSome = true → (stsN x c (2 ^ g.N)).contains (q : Int) = true := fun q hq hq2 => by
    obtain ⟨t, ht⟩ := Option.isSome_iff_exists.1 hq2
    obtain ⟨u, hu, _⟩ := eas_end hx hc hq ht
    rw [hsm, decide_eq_true hq, hu]; rfl
   generalize stsN x c (2 ^ g.N) = L2 at hsm hsI hsl hes1 ⊢
   generalize stsN g c (2 ^ g.N) = L1 at hsl1 hsa ⊢
   simp only [vsAll, binA, binLitA, intA, extractA, lenA, pickA, opA, guardV, nM, dstOk, nilSliceOp, Nat.reduceAdd, Nat.reduceLT, Nat.reduceEqDiff, ↓reduceIte, implies_true, eq_self, wtAll]
   intro im hh_im; (try simp only [ite_none] at hh_im)
   refine vs_loop (σ := Nat × Array MapEntry × Nat) (fun y => y.1 ≤ L2.length ∧ MapIs (thrF (L2.take y.1)) y.2.1) (fun y => [(5, gptr g), (11, .ref i11 0 7 0 0), (17, intsAV L1), (21, .map im), (202, intsAV L2), (203, i64 L2.length), (204, i64 y.1)]) (fun y => (H.set i11 (.box 7 1 fun _ => x.cs)).set im (.raw (.map y.2.1 y.2.2))) (fun y => L2.length - y.1) (0, #[], 0) ⟨Nat.zero_le _, by rw [List.take_zero, thrF_nil]; exact MapIs.empty⟩ ?_ HSub_rfl fun y hy => ?_
   ·simp only [vsAll, Nat.reduceEqDiff, ↓reduceIte, eq_self, Int.natCast_zero]
   ·obtain ⟨i, es, ck⟩ := y
    obtain ⟨hi, hes⟩ := hy
    simp only [] at hi hes
    simp only [vsAll, binA, binLitA, intA, opA, dstOk, Nat.reduceLT, Nat.reduceEqDiff, ↓reduceIte, eq_self]
    refine condD (fun hd => ?_) (fun hd => ?_)
    ·have his : i < L2.length := by ((try clear h1); (try clear h2); (try clear h3); (try clear n12); (try clear n13); (try clear n23); (try clear m12); (try clear m13); (try clear m23); (try clear hh_im); omega)
     have hmz : L2.getD i 0 ∈ L2 := mem_getD L2 i 0 his
     have htk : L2.take (i + 1) = L2.take i ++ [L2.getD i 0] := by
      rw [List.take_add_one, List.getElem?_eq_getElem his, List.getD_eq_getElem?_getD, List.getElem?_eq_getElem his]
      rfl
     obtain ⟨o, f1, f2, f3, f4, f5⟩ := hes.find und64 key3 (key_int (hsI _ hmz)) (fun q v hq => thrF_key (fun x hx => hsI x (List.mem_of_mem_take hx)) hq)
     have hi' := f5 (.bool true) ck
     rw [thrF_upd, ← htk] at hi'
     simp only [vsAll, binA, binLitA, intA, loadA, loadRow, partA, partOk, indexAddrA, opA, mapUpA, dstOk, nilSliceOp, Nat.reduceLT, Nat.reduceEqDiff, ↓reduceIte, eq_self, wtAll, intF_at]
     refine ⟨⟨by ((try clear h1); (try clear h2); (try clear h3); (try clear n12); (try clear n13); (try clear n23); (try clear m12); (try clear m13); (try clear m23); (try clear hh_im); omega), by ((try clear h1); (try clear h2); (try clear h3); (try clear n12); (try clear n13); (try clear n23); (try clear m12); (try clear m13); (try clear m23); (try clear hh_im); omega)⟩, his, o, f2, by simp only [InR_i64]; ((try clear h1); (try clear h2); (try clear h3); (try clear n12); (try clear n13); (try clear n23); (try clear m12); (try clear m13); (try clear m23); (try clear hh_im); omega), loop_next (i + 1, updM es (.int .i64 (L2.getD i 0)) (.bool true) ck o, updC ck o) ⟨his, hi'⟩ (by simp only []; ((try clear h1); (try clear h2); (try clear h3); (try clear n12); (try clear n13); (try clear n23); (try clear m12); (try clear m13); (try clear m23); (try clear hh_im); omega)) ?_ ?_⟩
     ·simp only [vsAll, Nat.reduceEqDiff, ↓reduceIte, eq_self, Int.natCast_add, Int.natCast_one]
     ·rw [Hp.set_set]; exact HSub_rfl
    ·have ei : i = L2.length := by ((try clear h1); (try clear h2); (try clear h3); (try clear n12); (try clear n13); (try clear n23); (try clear m12); (try clear m13); (try clear m23); (try clear hh_im); omega)
     subst ei
     rw [List.take_length] at hes
     have hlk : ∀ q : Nat, q < 32 → ∃ o, (∀ em, FoundAt Try.prog 64 em es (.int .i64 (q : Int)) o) ∧ gotV (.bool false) o = .bool (L2.contains (q : Int)) := fun q hq => by
      obtain ⟨o, f1, f2, f3, f4, f5⟩ := hes.find und64 key3 (key := .int .i64 (q : Int)) (key_int (by simp only [InR_i64]; ((try clear h1); (try clear h2); (try clear h3); (try clear n12); (try clear n13); (try clear n23); (try clear m12); (try clear m13); (try clear m23); (try clear hh_im); omega))) (fun q v hq => thrF_key hsI hq)
      exact ⟨o, f1, by rw [f3, thr_val]⟩
     simp only [vsAll, lenA, opA, dstOk, Nat.reduceLT, Nat.reduceEqDiff, ↓reduceIte, eq_self, wtAll]
     refine vs_loop (σ := Nat) (fun i => i ≤ L1.length) (fun i => [(5, gptr g), (11, .ref i11 0 7 0 0), (21, .map im), (211, intsAV L1), (212, i64 L1.length), (213, i64 i)]) (fun _ => (H.set i11 (.box 7 1 fun _ => x.cs)).set im (.raw (.map es ck))) (fun i => L1.length - i) 0 (Nat.zero_le _) ?_ HSub_rfl fun i hi => ?_
     ·simp only [vsAll, Nat.reduceEqDiff, ↓reduceIte, eq_self, Int.natCast_zero]
     ·simp only [vsAll, binA, binLitA, intA, opA, dstOk, Nat.reduceLT, Nat.reduceEqDiff, ↓reduceIte, eq_self]
      refine condD (fun hd => ?_) (fun hd => ?_)
      ·have his : i < L1.length := by ((try clear h1); (try clear h2); (try clear h3); (try clear n12); (try clear n13); (try clear n23); (try clear m12); (try clear m13); (try clear m23); (try clear hh_im); omega)
       obtain ⟨s, e1, e2, e3, _⟩ := hsa i his
       obtain ⟨o, o1, o2⟩ := hlk s (by ((try clear h1); (try clear h2); (try clear h3); (try clear n12); (try clear n13); (try clear n23); (try clear m12); (try clear m13); (try clear m23); (try clear hh_im); omega))
       rw [hes1 s e2 e3] at o2
       simp only [vsAll, unA, loadA, loadRow, partA, partOk, indexAddrA, opA, lookA, dstOk, nilSliceOp, Nat.reduceLT, Nat.reduceEqDiff, ↓reduceIte, eq_self, wtAll, intF_at, e1, mapZ64]
       refine ⟨⟨by ((try clear h1); (try clear h2); (try clear h3); (try clear n12); (try clear n13); (try clear n23); (try clear m12); (try clear m13); (try clear m23); (try clear hh_im); omega), by ((try clear h1); (try clear h2); (try clear h3); (try clear n12); (try clear n13); (try clear n23); (try clear m12); (try clear m13); (try clear m23); (try clear hh_im); omega)⟩, his, o, o1 _, ?_⟩
       rw [o2]
       simp only [vsAll, binA, binLitA, intA, opA, dstOk, Nat.reduceLT, Nat.reduceEqDiff, ↓reduceIte, eq_self]
       refine ⟨by simp only [InR_i64]; ((try clear h1); (try clear h2); (try clear h3); (try clear n12); (try clear n13); (try clear n23); (try clear m12); (try clear m13); (try clear m23); (try clear hh_im); omega), loop_next (i + 1) his (by ((try clear h1); (try clear h2); (try clear h3); (try clear n12); (try clear n13); (try clear n23); (try clear m12); (try clear m13); (try clear m23); (try clear hh_im); omega)) ?_ HSub_rfl⟩
       simp only [vsAll, Nat.reduceEqDiff, ↓reduceIte, eq_self, Int.natCast_add, Int.natCast_one]
      ·have ei : i = L1.length := by ((try clear h1); (try clear h2); (try clear h3); (try clear n12); (try clear n13); (try clear n23); (try clear m12); (try clear m13); (try clear m23); (try clear hh_im); omega)
       subst ei
       obtain ⟨L, hL1, hL2'⟩ := lea_some (g := g) (by ((try clear h1); (try clear h2); (try clear h3); (try clear n12); (try clear n13); (try clear n23); (try clear m12); (try clear m13); (try clear m23); (try clear hh_im); omega))
       obtain ⟨L', hL3, hL4⟩ := few_le (f' := leaB x) (by ((try clear h1); (try clear h2); (try clear h3); (try clear n12); (try clear n13); (try clear n23); (try clear m12); (try clear m13); (try clear m23); (try clear hh_im); omega)) (fun q _ hq => eas_lea hx hq) hL1
       have a1 : leaE g = 0 := errG_ok k
       have a2 : leaV g = L := by unfold leaV; rw [a1, hL1]; rfl
       have a3 : leaE x = 0 := errG_ok kx
       have a4 : leaV x = L' := by unfold leaV; rw [a3, exN, hL3]; rfl
       have b1 := fewV_lt (leaB g) g.N
       have b2 := fewV_lt (leaB x) g.N
       rw [hL1] at b1
       rw [hL3] at b2
       simp only [Option.getD_some] at b1 b2
       have c1 : decide ((pop L : Int) < (pop L' : Int)) = false := decide_eq_false (by ((try clear h1); (try clear h2); (try clear h3); (try clear n12); (try clear n13); (try clear n23); (try clear m12); (try clear m13); (try clear m23); (try clear hh_im); omega))
       have c2 : decide ((L : Int) < 0) = false := decide_eq_false (by ((try clear h1); (try clear h2); (try clear h3); (try clear n12); (try clear n13); (try clear n23); (try clear m12); (try clear m13); (try clear m23); (try clear hh_im); omega))
       have c3 : decide ((L' : Int) < 0) = false := decide_eq_false (by ((try clear h1); (try clear h2); (try clear h3); (try clear n12); (try clear n13); (try clear n23); (try clear m12); (try clear m13); (try clear m23); (try clear hh_im); omega))
       have he0 : errG g true = 0 := errG_ok k
       have he0x : errG x true = 0 := errG_ok kx
       simp only [vsAll, loadA, loadRow, partA, partOk, okAll, stAll, opsA, opA, dstOk, nilSliceOp, Nat.reduceLT, Nat.reduceEqDiff, ↓reduceIte, eq_self, wtAll]
       refine callK_pure (wdeal_tri g _ kn) ?_
       simp only [vsAll, loadA, loadRow, partA, partOk, extractA, okAll, stAll, opsA, opA, dstOk, nilSliceOp, Nat.reduceAdd, Nat.reduceLT, Nat.reduceEqDiff, ↓reduceIte, eq_self, wtAll, hh_im]
       refine callK_pure (wdeal_tri x _ knx) ?_
       simp only [vsAll, loadA, loadRow, partA, partOk, extractA, okAll, stAll, opsA, opA, dstOk, nilSliceOp, Nat.reduceAdd, Nat.reduceLT, Nat.reduceEqDiff, ↓reduceIte, eq_self, wtAll]
       refine callK_pure (wenough_tri g _ kn) ?_
       simp only [vsAll, loadA, loadRow, partA, partOk, extractA, okAll, stAll, opsA, opA, dstOk, nilSliceOp, Nat.reduceAdd, Nat.reduceLT, Nat.reduceEqDiff, ↓reduceIte, eq_self, wtAll, hh_im]
       refine callK_pure (wenough_tri x _ knx) ?_
       simp only [vsAll, loadA, loadRow, partA, partOk, extractA, okAll, stAll, opsA, opA, dstOk, nilSliceOp, Nat.reduceAdd, Nat.reduceLT, Nat.reduceEqDiff, ↓reduceIte, eq_self, wtAll]
       refine callK_pure (wleave_tri g _ kn) ?_
       simp only [vsAll, loadA, loadRow, partA, partOk, extractA, okAll, stAll, opsA, opA, dstOk, nilSliceOp, Nat.reduceAdd, Nat.reduceLT, Nat.reduceEqDiff, ↓reduceIte, eq_self, wtAll, hh_im, a1, a2]
       refine callK_pure (wleave_tri x _ knx) ?_
       simp only [vsAll, binA, binLitA, intA, extractA, pickA, opA, guardV, dstOk, nilSliceOp, Nat.reduceAdd, Nat.reduceLT, Nat.reduceEqDiff, ↓reduceIte, implies_true, eq_self, a3, a4, c2, c3]
       refine gcall (i64 (pop L' : Nat)) (fun hg => ⟨by simp only [vsAll, opA, Nat.reduceEqDiff, ↓reduceIte, eq_self], by simp only [vsAll, okAll, opsA, opA, ↓reduceIte, eq_self], gsize_tri L' _ (by ((try clear h1); (try clear h2); (try clear h3); (try clear n12); (try clear n13); (try clear n23); (try clear m12); (try clear m13); (try clear m23); (try clear hh_im); omega))⟩) ?_
       simp only [vsAll, opA, guardV, dstOk, Nat.reduceLT, Nat.reduceEqDiff, ↓reduceIte, eq_self]
       refine gcall (i64 (pop L : Nat)) (fun hg => ⟨by simp only [vsAll, opA, Nat.reduceEqDiff, ↓reduceIte, eq_self], by simp only [vsAll, okAll, opsA, opA, ↓reduceIte, eq_self], gsize_tri L _ (by ((try clear h1); (try clear h2); (try clear h3); (try clear n12); (try clear n13); (try clear n23); (try clear m12); (try clear m13); (try clear m23); (try clear hh_im); omega))⟩) ?_
       simp only [vsAll, binA, binLitA, intA, pickA, opA, guardV, dstOk, Nat.reduceLT, Nat.reduceEqDiff, ↓reduceIte, implies_true, eq_self, c1]
       cases hdo : dO g g.F g.A g.N [] with
       | none =>
         have d1 : dealE g = 4 := by unfold dealE; rw [he0, hdo]; rfl
         simp only [vsAll, Int.reduceEq, d1]
         refine gcall (i64 0) (fun hg => by cases hg) ?_
         simp only [vsAll, opA, guardV, dstOk, Nat.reduceLT, Nat.reduceEqDiff, ↓reduceIte, implies_true, eq_self]
         refine gcall (i64 0) (fun hg => by cases hg) ?_
         simp only [vsAll, binA, binLitA, intA, pickA, opA, guardV, dstOk, Nat.reduceLT, Nat.reduceEqDiff, Int.reduceLE, ↓reduceIte, implies_true, eq_self]
         refine gcall (boo true) (fun hg => ⟨by simp only [vsAll, opA], by simp only [okAll, opsA], awake_tri _⟩) ?_
         simp only [vsAll, pickA, opA, dstOk, nilSliceOp, resA, retA.eq_1, Nat.reduceLT, Nat.reduceEqDiff, ↓reduceIte, implies_true, eq_self, Try.results7]
         exact dropR_pure rfl (by (repeat (first | exact HSub_rfl | refine HSub_put_eq (by simp only [vsAll, ↓reduceIte, eq_self, reduceCtorEq, Nat.reduceEqDiff, h1, h2, h3, n12, n13, n23, m12, m13, m23, hh_im]) ?_ | refine HSub_drop2 (by simp only [eq_self, h1, hh_im]) ?_ | refine HSub_keep_eq (by simp only [vsAll, ↓reduceIte, eq_self, reduceCtorEq, Nat.reduceEqDiff, h1, h2, h3, n12, n13, n23, m12, m13, m23, hh_im]) ?_)))
       | some t =>
         obtain ⟨u, hu, hut⟩ := eas_dO hx hdo
         rw [← eas_F hx, ← eas_A hx] at hu
         have d1 : dealE g = 0 := by unfold dealE; rw [he0, hdo]; rfl
         have d2 : dealH g = t := by unfold dealH; rw [d1, hdo]; rfl
         have d3 : dealE x = 0 := by unfold dealE; rw [he0x, hu]; rfl
         have d4 : dealH x = u := by unfold dealH; rw [d3, hu]; rfl
         have hgA : genB g g.A = true := by unfold genB; rw [hdo]; rfl
         have hA : g.A < 2 ^ g.cw.length := by
          have := Nat.two_pow_pos g.cw.length
          unfold Gg.A
          ((try clear h1); (try clear h2); (try clear h3); (try clear n12); (try clear n13); (try clear n23); (try clear m12); (try clear m13); (try clear m23); (try clear hh_im); omega)
         obtain ⟨s, hs⟩ : ∃ s, fewV (genB g) g.cw.length = some s := by
          cases e : fewV (genB g) g.cw.length with
          | some s => exact ⟨s, rfl⟩
          | none =>
            have := fewV_none (by ((try clear h1); (try clear h2); (try clear h3); (try clear n12); (try clear n13); (try clear n23); (try clear m12); (try clear m13); (try clear m23); (try clear hh_im); omega)) e g.A hA
            rw [hgA] at this
            cases this
         obtain ⟨s', hs', hle⟩ := few_le (f' := genB x) (by ((try clear h1); (try clear h2); (try clear h3); (try clear n12); (try clear n13); (try clear n23); (try clear m12); (try clear m13); (try clear m23); (try clear hh_im); omega)) (fun q _ hq => eas_gen hx hq) hs
         have v1 : enoV g = s := by unfold enoV; rw [he0, hs]; rfl
         have v2 : enoV x = s' := by unfold enoV; rw [he0x, exM, hs']; rfl
         have l1 := fewV_lt (genB g) g.cw.length
         have l2 := fewV_lt (genB x) g.cw.length
         rw [hs] at l1
         rw [hs'] at l2
         simp only [Option.getD_some] at l1 l2
         have hpC : 2 ^ g.cw.length ≤ 2 ^ 3 := Nat.pow_le_pow_right (by ((try clear h1); (try clear h2); (try clear h3); (try clear n12); (try clear n13); (try clear n23); (try clear m12); (try clear m13); (try clear m23); (try clear hh_im); omega)) nC
         have w1 : decide (u ≤ t) = true := decide_eq_true hut
         have w2 : decide ((0 : Int) ≤ (s : Int)) = true := decide_eq_true (by ((try clear h1); (try clear h2); (try clear h3); (try clear n12); (try clear n13); (try clear n23); (try clear m12); (try clear m13); (try clear m23); (try clear hh_im); omega))
         have w3 : decide ((0 : Int) ≤ (s' : Int)) = true := decide_eq_true (by ((try clear h1); (try clear h2); (try clear h3); (try clear n12); (try clear n13); (try clear n23); (try clear m12); (try clear m13); (try clear m23); (try clear hh_im); omega))
         have w4 : decide ((pop s' : Int) ≤ (pop s : Int)) = true := decide_eq_true (by ((try clear h1); (try clear h2); (try clear h3); (try clear n12); (try clear n13); (try clear n23); (try clear m12); (try clear m13); (try clear m23); (try clear hh_im); omega))
         simp only [vsAll, eq_self, d1, d2, d3, d4, v1, v2, w1, w2, w3]
         refine gcall (i64 (pop s' : Nat)) (fun hg => ⟨by simp only [vsAll, opA, Nat.reduceEqDiff, ↓reduceIte, eq_self], by simp only [vsAll, okAll, opsA, opA, ↓reduceIte, eq_self], gsize_tri s' _ (by ((try clear h1); (try clear h2); (try clear h3); (try clear n12); (try clear n13); (try clear n23); (try clear m12); (try clear m13); (try clear m23); (try clear hh_im); omega))⟩) ?_
         simp only [vsAll, opA, guardV, dstOk, Nat.reduceLT, Nat.reduceEqDiff, ↓reduceIte, eq_self]
         refine gcall (i64 (pop s : Nat)) (fun hg => ⟨by simp only [vsAll, opA, Nat.reduceEqDiff, ↓reduceIte, eq_self], by simp only [vsAll, okAll, opsA, opA, ↓reduceIte, eq_self], gsize_tri s _ (by ((try clear h1); (try clear h2); (try clear h3); (try clear n12); (try clear n13); (try clear n23); (try clear m12); (try clear m13); (try clear m23); (try clear hh_im); omega))⟩) ?_
         simp only [vsAll, binA, binLitA, intA, pickA, opA, guardV, dstOk, Nat.reduceLT, Nat.reduceEqDiff, ↓reduceIte, implies_true, eq_self, w4]
         refine gcall (boo true) (fun hg => ⟨by simp only [vsAll, opA], by simp only [okAll, opsA], awake_tri _⟩) ?_
         simp only [vsAll, pickA, opA, dstOk, nilSliceOp, resA, retA.eq_1, Nat.reduceLT, Nat.reduceEqDiff, ↓reduceIte, implies_true, eq_self, Try.results7]
         exact dropR_pure rfl (by (repeat (first | exact HSub_rfl | refine HSub_put_eq (by simp only [vsAll, ↓reduceIte, eq_self, reduceCtorEq, Nat.reduceEqDiff, h1, h2, h3, n12, n13, n23, m12, m13, m23, hh_im]) ?_ | refine HSub_drop2 (by simp only [eq_self, h1, hh_im]) ?_ | refine HSub_keep_eq (by simp only [vsAll, ↓reduceIte, eq_self, reduceCtorEq, Nat.reduceEqDiff, h1, h2, h3, n12, n13, n23, m12, m13, m23, hh_im]) ?_)))
end Go.Proofs.Ytdopkbldjagmlaa
end
section
set_option linter.unusedVariables false
set_option linter.unusedSimpArgs false
set_option maxRecDepth 100000
namespace Go.Proofs.Ytdopkbldjagmlaa
open Go.V Go.ChangeShapes Go.WideShapes Go.ChangeAt Go.RowKit
theorem gang_cells : cellsT Try.prog 9 29 = some [.sl [.int .i64, .int .i64, .int .i64, .int .i64], .sl [.int .i64, .int .i64, .int .i64], .int .i64, .int .i64, .int .i64, .sl [.int .i64], .sl [.int .i64, .int .i64, .int .i64]] := by kernel_rfl
theorem ints_of {av : AV} (h : CKA (.sl [.int .i64]) av) : ∃ l : List Int, l.length ≤ maxLen ∧ AV.Le av (intsAV l) := by
 obtain ⟨l, h1, h2⟩ := told_slice (α := Int) (fun z => [i64 z]) 0 (fun cs hcs => by
  obtain ⟨z, hz, _⟩ := told_int 0 hcs rfl
  exact ⟨z, rfl, fun j hj => by
   match j, hj with
   | 0, _ => rw [hz]; exact AV.Le.refl _⟩) h
 exact ⟨l, h1, h2⟩
theorem seams_of {av : AV} (h : CKA (.sl [.int .i64, .int .i64, .int .i64, .int .i64]) av) : ∃ l : List Sm, l.length ≤ maxLen ∧ AV.Le av (smAV l) := by
 obtain ⟨l, h1, h2⟩ := told_slice (α := Sm) Sm.cs sm0 (fun cs hcs => by
  obtain ⟨a, ha, _⟩ := told_int 0 hcs rfl
  obtain ⟨b, hb, _⟩ := told_int 1 hcs rfl
  obtain ⟨c, hc, _⟩ := told_int 2 hcs rfl
  obtain ⟨d, hd, _⟩ := told_int 3 hcs rfl
  exact ⟨⟨a, b, c, d⟩, rfl, fun j hj => by
   match j, hj with
   | 0, _ => rw [ha]; exact AV.Le.refl _
   | 1, _ => rw [hb]; exact AV.Le.refl _
   | 2, _ => rw [hc]; exact AV.Le.refl _
   | 3, _ => rw [hd]; exact AV.Le.refl _⟩) h
 exact ⟨l, h1, h2⟩
theorem crews_of {av : AV} (h : CKA (.sl [.int .i64, .int .i64, .int .i64]) av) : ∃ l : List Cw, l.length ≤ maxLen ∧ AV.Le av (cwAV l) := by
 obtain ⟨l, h1, h2⟩ := told_slice (α := Cw) Cw.cs cw0 (fun cs hcs => by
  obtain ⟨a, ha, _⟩ := told_int 0 hcs rfl
  obtain ⟨b, hb, _⟩ := told_int 1 hcs rfl
  obtain ⟨c, hc, _⟩ := told_int 2 hcs rfl
  exact ⟨⟨a, b, c⟩, rfl, fun j hj => by
   match j, hj with
   | 0, _ => rw [ha]; exact AV.Le.refl _
   | 1, _ => rw [hb]; exact AV.Le.refl _
   | 2, _ => rw [hc]; exact AV.Le.refl _⟩) h
 exact ⟨l, h1, h2⟩
theorem pots_of {av : AV} (h : CKA (.sl [.int .i64, .int .i64, .int .i64]) av) : ∃ l : List Po, l.length ≤ maxLen ∧ AV.Le av (psAV l) := by
 obtain ⟨l, h1, h2⟩ := told_slice (α := Po) Po.cs po0 (fun cs hcs => by
  obtain ⟨a, ha, _⟩ := told_int 0 hcs rfl
  obtain ⟨b, hb, _⟩ := told_int 1 hcs rfl
  obtain ⟨c, hc, _⟩ := told_int 2 hcs rfl
  exact ⟨⟨a, b, c⟩, rfl, fun j hj => by
   match j, hj with
   | 0, _ => rw [ha]; exact AV.Le.refl _
   | 1, _ => rw [hb]; exact AV.Le.refl _
   | 2, _ => rw [hc]; exact AV.Le.refl _⟩) h
 exact ⟨l, h1, h2⟩
theorem gang_rel {H : Type} {enc : TypeId × Value → H} {W : World} {sp : Nat → Bool} {held : Bool} {v : Value} {d : DataW H} {ps : List MemPlace}
  {base : Nat} (hv : Value.okWide Try.prog W .any base 29 v) (h : DataW.Trod enc Try.prog W 0 sp held 29 v d ps) : ∃ g : Gg, True ∧ VRel (st0 W) g.av v := by
 obtain ⟨cs, hcs, hv⟩ := trod_agg gang_cells (by decide) h
 obtain ⟨sm, l0, h0⟩ := seams_of (hcs.2 0 _ rfl)
 obtain ⟨cw, l1, h1⟩ := crews_of (hcs.2 1 _ rfl)
 obtain ⟨hr, h2, _⟩ := told_int 2 hcs rfl
 obtain ⟨fro, h3, _⟩ := told_int 3 hcs rfl
 obtain ⟨per, h4, _⟩ := told_int 4 hcs rfl
 obtain ⟨fs, l5, h5⟩ := ints_of (hcs.2 5 _ rfl)
 obtain ⟨ps, l6, h6⟩ := pots_of (hcs.2 6 _ rfl)
 refine ⟨⟨sm, cw, ⟨hr, fro, per, fs, ps⟩⟩, trivial, AV.Le.aggD (cs := cs) hcs.1.symm (fun j hj => ?_) _ _ hv⟩
 have hj7 : j < 7 := by have := hcs.1; simp at this; omega
 match j, hj7 with
 | 0, _ => exact h0
 | 1, _ => exact h1
 | 2, _ => rw [h2]; exact AV.Le.refl _
 | 3, _ => rw [h3]; exact AV.Le.refl _
 | 4, _ => rw [h4]; exact AV.Le.refl _
 | 5, _ => exact h5
 | 6, _ => exact h6
theorem Try.own : ownKnob Try.prog.godebug = none := by kernel_rfl
theorem u4 : Try.prog.underlying 4 = some .bool := by kernel_rfl
theorem u5 : Try.prog.underlying 5 = some (.int .u8) := by kernel_rfl
theorem u49 : Try.prog.underlying 49 = some (.slice 5) := by kernel_rfl
theorem wf_u8 {n : Int} (h : (Lit.int .u8 n).wf = true) : 0 ≤ n ∧ n ≤ 255 := by
 simp [Lit.wf, IntKind.min, IntKind.max, IntKind.signed, IntKind.bits] at h
 omega
def iz : Value → Int
 | .int _ n => n
 | _ => 0
theorem by_rel {H : Type} {enc : TypeId × Value → H} {W : World} {sp : Nat → Bool} {held : Bool} {v : Value} {d : DataW H} {ps : List MemPlace} {base : Nat}
  (hv : Value.okWide Try.prog W .any base 49 v) (h : DataW.Trod enc Try.prog W 0 sp held 49 v d ps) : ∃ (N : Nat) (b : Nat → Int), (N < 2 ^ 63 ∧ ∀ i, i < N → 0 ≤ b i ∧ b i ≤ 255) ∧ VRel (st0 W) (.rsl N 1 (byF b)) v := by
 obtain ⟨a, len, cap, rfl⟩ := okWide_slice u49 hv
 obtain ⟨fuel, h⟩ := h
 obtain ⟨n, g, hn, hl, hr⟩ := trod_slice_rel (d := 4) (e := 5) (ks := [.int .u8]) u49 (by decide +kernel) (by decide +kernel) (by decide) (show DataW.trod enc Try.prog W 0 sp held fuel 49 [.slice a len cap] = some (d, ps) from h)
 have key : ∀ i, i < n → ∃ z : Int, g i = [.int .u8 z] ∧ 0 ≤ z ∧ z ≤ 255 := fun i hi => by
  obtain ⟨h1, h2⟩ := hl i hi
  match hg : g i, h1 with
  | [x], _ =>
    obtain ⟨z, rfl, hz⟩ := h2 0 (.int .u8) x rfl (by rw [hg]; rfl)
    refine ⟨z, rfl, ?_⟩
    simp [Lit.wf, IntKind.min, IntKind.max, IntKind.signed, IntKind.bits] at hz
    omega
 have hm : maxLen < 2 ^ 63 := by decide
 refine ⟨n, fun i => iz ((g i).getD 0 undef), ⟨by omega, fun i hi => ?_⟩, AV.Le.rsl (fun i hi => ?_) _ _ hr⟩
 ·obtain ⟨z, e, hz⟩ := key i hi
  simp only [e]; exact hz
 ·obtain ⟨z, e, hz⟩ := key i hi
  simp only [e]; simp only [byF, e]; rfl
end Go.Proofs.Ytdopkbldjagmlaa
end
section
set_option linter.unusedVariables false
set_option linter.unusedSimpArgs false
set_option maxRecDepth 100000
namespace Go.Proofs.Ytdopkbldjagmlaa
open Go.V Go.ChangeShapes Go.WideShapes Go.ChangeAt Go.RowKit
theorem gangMore_lifted (os : Os) (started : os.Started) (H : Type) (enc : TypeId × Value → H) :
  ReturnsInHanded {} Try.checked os 7 .any (Rows.gangMoreSpec.pre6 enc Try.prog Try.f7 Rows.gangMoreRow.domain false) (Rows.gangMoreSpec.post enc Try.prog Try.f7 false true false false) := by
 refine returnsInHanded_of_change (C := Try.checked) Try.own started (by kernel_rfl) Try.func7
  (ChangeSpec.witness6 (enc := enc) (C := Try.checked) false ⟨#[], #[.agg #[.slice none 0 0, .slice none 0 0, .int .i64 0, .int .i64 0, .int .i64 0, .slice none 0 0, .slice none 0 0], .int .u8 0, .int .u8 0, .int .u8 0, .slice none 0 0], []⟩ 8 (by kernel_rfl) (by kernel_rfl) (by kernel_rfl) (by kernel_rfl)) ?_
 intro W base args ds gs before hval hW hcnd _
 have hW' := hW
 obtain ⟨p, q, hA, hV, rfl, hfz, hnd⟩ := hW
 obtain ⟨rfl, rfl⟩ := trodVars_none hV
 rw [show Try.f7.params.toList = [29, 5, 5, 5, 49] from by kernel_rfl] at hA
 obtain ⟨v0, v1, v2, v3, v4, d0, d1, d2, d3, d4, p0, p1, p2, p3, p4, rfl, rfl, rfl, h0, h1, h2, h3, h4⟩ := trodAll_five hA
 have hval : ∀ (j : Nat) t v, Try.f7.params[j]? = some t → (#[v0, v1, v2, v3, v4] : Array Value)[j]? = some v → Value.okWide Try.prog W .any base t v := hval
 rw [show Try.f7.params = #[29, 5, 5, 5, 49] from by kernel_rfl] at hval
 obtain ⟨x0, b0, r0⟩ := gang_rel (hval 0 29 v0 rfl rfl) h0
 obtain ⟨x1, rfl, rfl, rfl, w1⟩ := open_int u5 (hval 1 5 v1 rfl rfl) h1
 obtain ⟨x2, rfl, rfl, rfl, w2⟩ := open_int u5 (hval 2 5 v2 rfl rfl) h2
 obtain ⟨x3, rfl, rfl, rfl, w3⟩ := open_int u5 (hval 3 5 v3 rfl rfl) h3
 obtain ⟨N4, x4, b4, r4⟩ := by_rel (hval 4 49 v4 rfl rfl) h4
 refine (law_calls (W := W) (args := #[v0, .int .u8 x1, .int .u8 x2, .int .u8 x3, v4]) Try.func7 (by kernel_rfl) rfl (Tri.mono (more_law x0 x1 x2 x3 N4 x4 H0 (wf_u8 w1) (wf_u8 w2) (wf_u8 w3) b4) ?_) (fun p hp => by cases hp) ⟨rfl, fun k hk => match k, hk with | 0, _ => r0 | 1, _ => .lit _ | 2, _ => .lit _ | 3, _ => .lit _ | 4, _ => r4⟩).mono fun e W' he => ?_
 ·rintro r H' ⟨rfl, _⟩; rfl
 ·obtain ⟨rfl, hh, ho, hp⟩ := he
  exact ⟨_, rfl, law_post (d := 6) rfl (tb := 4) (by kernel_rfl) u4 (by decide +kernel) hW' rfl hh ho hp⟩

theorem gangMore_holds : Rows.GangMoreSaid :=
 OpenClaim.holds_of_wide (p := Try.pinned) (s := Rows.gangMoreSpec) (c := Rows.gangMoreRow) 7 Try.f7 rfl rfl rfl rfl rfl rfl rfl ⟨rfl, rfl, rfl, rfl, rfl⟩ rfl rfl rfl rfl rfl (by kernel_rfl) Try.func7 (by kernel_rfl)
  (of_decide_eq_true (by kernel_rfl)) (by unfold Func.isWrapper; first | (rw [if_pos (by decide +kernel)]; kernel_rfl) | (rw [if_neg (by decide +kernel)]; exact ⟨rfl, rfl⟩))
  (fun os started H enc _ => gangMore_lifted os started H enc)

end Go.Proofs.Ytdopkbldjagmlaa
end
