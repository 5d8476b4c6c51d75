/- WHAT IS PROVED: the given statement of this claim. Conditions: none beyond the given row. -/
import Derived.Test.YtdopkbldjagmlaaRows
import Derived.ChangeVars
import Derived.Test.YtdopkbldjagmlaaTr5
section
set_option linter.unusedVariables false
set_option linter.unusedSimpArgs false
namespace Go.Proofs.Ytdopkbldjagmlaa
open Go.V
/-- Seams of some gangs are those of others, by other numbers. -/
structure RenS (h g : Gg) (φ : Nat → Nat) : Prop where
 s : ∀ n, n < h.N → φ n < g.N ∧ begV h n = begV g (φ n) ∧ (h.seam n).fa = (g.seam (φ n)).fa ∧ (h.seam n).fl = (g.seam (φ n)).fl
 i : ∀ n m, n < h.N → m < h.N → φ n = φ m → n = m
/-- A crew is another one, by other numbers of seams. -/
structure RenC (h g : Gg) (φ : Nat → Nat) (c d : Nat) : Prop where
 lo : (h.crew c).lo = (g.crew d).lo
 hi : (h.crew c).hi = (g.crew d).hi
 k : ∀ n, n < h.N → (h.crew c).st.toNat.testBit n = (g.crew d).st.toNat.testBit (φ n)
structure Ren (h g : Gg) (φ ψ : Nat → Nat) : Prop extends RenS h g φ where
 c : ∀ c, c < h.cw.length → ψ c < g.cw.length ∧ RenC h g φ c (ψ c)
def mpL (φ : Nat → Nat) (l : List Int) : List Int := l.map fun x => ((φ x.toNat : Nat) : Int)
theorem mpL_len (φ : Nat → Nat) (l : List Int) : (mpL φ l).length = l.length := by simp [mpL]
theorem mpL_at (φ : Nat → Nat) (l : List Int) {i : Nat} (h : i < l.length) : (mpL φ l).getD i 0 = ((φ (l.getD i 0).toNat : Nat) : Int) := by
 simp [mpL, List.getD_eq_getElem?_getD, h]
/-- All of a list are seams. -/
def InG (h : Gg) (l : List Int) : Prop := ∀ i, i < l.length → ∃ n : Nat, l.getD i 0 = (n : Int) ∧ n < h.N
theorem ren_don {h g : Gg} {φ : Nat → Nat} (R : RenS h g φ) (sp : Int) {l : List Int} (hl : InG h l) : ∀ i, i ≤ l.length → donN g sp (mpL φ l) i = donN h sp l i
 | 0, _ => rfl
 | i + 1, hi => by
   obtain ⟨n, e, hn⟩ := hl i (by omega)
   obtain ⟨s1, s2, s3, s4⟩ := R.s n hn
   simp only [donN]
   rw [ren_don R sp hl i (by omega), mpL_at φ l (by omega), e, Int.toNat_natCast, Int.toNat_natCast]
   unfold stT tkG
   rw [s2, s3]
theorem ren_kn {h g : Gg} {φ : Nat → Nat} {c d : Nat} (R : RenS h g φ) (rc : RenC h g φ c d) {n : Nat} (hn : n < h.N) : knB g d (φ n) = knB h c n := by
 unfold knB
 rw [rc.k n hn, (R.s n hn).2.1]
theorem ren_rgt {h g : Gg} {φ : Nat → Nat} {c d : Nat} (R : RenS h g φ) (rc : RenC h g φ c d) {l : List Int} (hl : InG h l) : rgtB g d (mpL φ l) = rgtB h c l := by
 rw [Bool.eq_iff_iff, rgt_iff, rgt_iff, mpL_len]
 refine forall_congr' fun i => forall_congr' fun hi => ?_
 obtain ⟨n, e, hn⟩ := hl i hi
 rw [mpL_at φ l hi, e, Int.toNat_natCast, Int.toNat_natCast, ren_kn R rc hn, ren_don R _ hl _ hi, (R.s n hn).2.2.2, rc.lo]
/-- A set, by the other numbers. -/
def Img (h : Gg) (φ : Nat → Nat) (S T : Nat) : Prop := S < 2 ^ h.N ∧ ∀ n, T.testBit n = true ↔ ∃ m, S.testBit m = true ∧ φ m = n
theorem Img.lt {h g : Gg} {φ : Nat → Nat} (R : RenS h g φ) {S T : Nat} (I : Img h φ S T) : T < 2 ^ g.N := by
 refine Nat.lt_pow_two_of_testBit _ fun i hi => ?_
 cases e : T.testBit i with
 | false => rfl
 | true =>
   obtain ⟨m, h1, h2⟩ := (I.2 i).1 e
   have := (R.s m (bit_lt I.1 h1)).1
   omega
theorem row_in {h : Gg} {S : Nat} (hS : S < 2 ^ h.N) {l : List Int} (hl : RowOf S l) : InG h l := fun i hi => by
 obtain ⟨n, e, hn⟩ := hl.at_ i hi
 exact ⟨n, e, bit_lt hS hn⟩
theorem mpL_mem {φ : Nat → Nat} {l : List Int} {x : Int} : x ∈ mpL φ l ↔ ∃ y ∈ l, ((φ y.toNat : Nat) : Int) = x := by simp [mpL]
theorem ren_row {h g : Gg} {φ : Nat → Nat} (R : RenS h g φ) {S T : Nat} (I : Img h φ S T) {l : List Int} (hl : RowOf S l) : RowOf T (mpL φ l) := by
 have hi := row_in I.1 hl
 refine ⟨fun i hi2 => ?_, fun i j hij hj e => ?_⟩
 ·rw [mpL_len] at hi2
  obtain ⟨n, e, hn⟩ := hl.at_ i hi2
  exact ⟨φ n, by rw [mpL_at φ l hi2, e, Int.toNat_natCast], (I.2 _).2 ⟨n, hn, rfl⟩⟩
 ·rw [mpL_len] at hj
  rw [mpL_at φ l (by omega), mpL_at φ l hj] at e
  obtain ⟨n, e1, hn⟩ := hi i (by omega)
  obtain ⟨m, e2, hm⟩ := hi j hj
  rw [e1, e2, Int.toNat_natCast, Int.toNat_natCast] at e
  have := R.i n m hn hm (by omega)
  subst this
  exact hl.nd i j hij hj (by rw [e1, e2])
theorem ren_full {h g : Gg} {φ : Nat → Nat} (R : RenS h g φ) (hN : g.N ≤ 5) (hM : h.N ≤ 5) {S T : Nat} (I : Img h φ S T) {l : List Int} (hl : RowOf S l) : (mpL φ l).length = pop T ↔ l.length = pop S := by
 have hr := ren_row R I hl
 rw [← (rowOf_full (lt32 hN (Img.lt R I)) hr).2, ← (rowOf_full (lt32 hM I.1) hl).2]
 have hi := row_in I.1 hl
 constructor
 ·intro e
  refine Nat.eq_of_testBit_eq fun n => ?_
  rw [Bool.eq_iff_iff]
  constructor
  ·exact fun hb => rowOf_sub hl hb
  ·intro hb
   have : T.testBit (φ n) = true := (I.2 _).2 ⟨n, hb, rfl⟩
   rw [← e, setL_bit] at this
   obtain ⟨x, hx, ex⟩ := this
   obtain ⟨y, hy, ey⟩ := mpL_mem.1 hx
   obtain ⟨i, hi1, hi2⟩ := mem_at.1 hy
   obtain ⟨m, e1, hm⟩ := hi i hi1
   rw [setL_bit]
   refine ⟨y, hy, ?_⟩
   rw [hi2] at e1
   subst e1
   rw [Int.toNat_natCast] at ey ⊢
   exact R.i m n hm (bit_lt I.1 hb) (by omega)
 ·intro e
  refine Nat.eq_of_testBit_eq fun n => ?_
  rw [Bool.eq_iff_iff]
  constructor
  ·exact fun hb => rowOf_sub hr hb
  ·intro hb
   obtain ⟨m, hm, em⟩ := (I.2 n).1 hb
   rw [← e, rowOf_set hl] at hm
   rw [rowOf_set hr, mpL_mem]
   exact ⟨(m : Int), hm, by rw [Int.toNat_natCast, em]⟩
theorem ren_back {h g : Gg} {φ : Nat → Nat} (R : RenS h g φ) {S T : Nat} (I : Img h φ S T) {l : List Int} : RowOf T l → ∃ m, l = mpL φ m ∧ RowOf S m := by
 refine snoc_ind (P := fun l => RowOf T l → ∃ m, l = mpL φ m ∧ RowOf S m) (fun _ => ⟨[], rfl, rowOf_nil S⟩) (fun b x ih hr => ?_) l
 obtain ⟨m, e, hm⟩ := ih (rowOf_pre hr)
 obtain ⟨n, ex, hn⟩ := hr.at_ b.length (by simp)
 rw [snoc_end] at ex
 subst ex
 obtain ⟨q, hq, eq⟩ := (I.2 n).1 hn
 have e2 : b ++ [(n : Int)] = mpL φ (m ++ [(q : Int)]) := by
  rw [e]
  simp [mpL, eq]
 refine ⟨m ++ [(q : Int)], e2, rowOf_snoc.2 ⟨hm, hq, fun hmem => ?_⟩⟩
 have h3 := (rowOf_snoc.1 hr).2.2
 refine h3 ?_
 rw [e, mpL_mem]
 exact ⟨(q : Int), hmem, by rw [Int.toNat_natCast, eq]⟩
theorem ren_end {h g : Gg} {φ : Nat → Nat} {c d : Nat} (R : RenS h g φ) (rc : RenC h g φ c d) (hN : g.N ≤ 5) (hM : h.N ≤ 5) {S T : Nat} (I : Img h φ S T) : endO h c S = endO g d T := by
 refine (end_min I.1).uniq ((end_min (Img.lt R I)).congr fun x => ?_)
 constructor
 ·rintro ⟨l, h1, h2, h3, h4⟩
  obtain ⟨m, e, hm⟩ := ren_back R I h2
  subst e
  have hi := row_in I.1 hm
  rw [ren_rgt R rc hi] at h3
  refine ⟨m, (ren_full R hN hM I hm).1 h1, hm, h3, ?_⟩
  rw [← h4]
  unfold lastT
  rw [mpL_len, ren_don R _ hi _ (Nat.le_refl _), rc.lo]
 ·rintro ⟨l, h1, h2, h3, h4⟩
  have hi := row_in I.1 h2
  refine ⟨mpL φ l, (ren_full R hN hM I h2).2 h1, ren_row R I h2, by rw [ren_rgt R rc hi]; exact h3, ?_⟩
  rw [← h4]
  unfold lastT
  rw [mpL_len, ren_don R _ hi _ (Nat.le_refl _), rc.lo]

/-- Crews are numbered otherwise, all of them. -/
structure Prm (M : Nat) (ψ ψ' : Nat → Nat) : Prop where
 a : ∀ c, c < M → ψ c < M ∧ ψ' (ψ c) = c
 b : ∀ c, c < M → ψ' c < M ∧ ψ (ψ' c) = c
theorem dom_prm {g h : Gg} {f f' : Nat → Nat} {ψ ψ' : Nat → Nat} {M : Nat} (p : Prm M ψ ψ') (e : ∀ c, c < M → endO h c (f' c) = endO g (ψ c) (f (ψ c))) : domN h f' M = domN g f M := by
 have hs : (domN h f' M).isSome = (domN g f M).isSome := by
  rw [Bool.eq_iff_iff, domN_some, domN_some]
  constructor
  ·intro q c hc
   have := q (ψ' c) (p.b c hc).1
   rw [e _ (p.b c hc).1, (p.b c hc).2] at this
   exact this
  ·intro q c hc
   rw [e c hc]
   exact q _ (p.a c hc).1
 cases h1 : domN h f' M with
 | none =>
   rw [h1] at hs
   cases h2 : domN g f M with
   | none => rfl
   | some n => rw [h2] at hs; cases hs
 | some m =>
   rw [h1] at hs
   cases h2 : domN g f M with
   | none => rw [h2] at hs; cases hs
   | some n =>
     obtain ⟨a1, a2, a3⟩ := domN_le M h1
     obtain ⟨b1, b2, b3⟩ := domN_le M h2
     congr 1
     refine Int.le_antisymm ?_ ?_
     ·rcases a3 with a3 | ⟨c, hc, a3⟩
      ·omega
      ·rw [e c hc] at a3
       obtain ⟨t, ht, hle⟩ := b2 (ψ c) (p.a c hc).1
       rw [ht] at a3
       cases a3
       exact hle
     ·rcases b3 with b3 | ⟨c, hc, b3⟩
      ·omega
      ·obtain ⟨t, ht, hle⟩ := a2 (ψ' c) (p.b c hc).1
       rw [e _ (p.b c hc).1, (p.b c hc).2] at ht
       rw [ht] at b3
       cases b3
       exact hle
/-- The same deal, by either numbers. -/
structure DR (h g : Gg) (φ ψ : Nat → Nat) (S T C D : Nat) (l l' : List Int) : Prop where
 n1 : l.length = h.N
 n2 : l'.length = g.N
 at_ : ∀ m, m < h.N → S.testBit m = true → ∃ c : Nat, c < h.cw.length ∧ l.getD m 0 = (c : Int) ∧ C.testBit c = true ∧ l'.getD (φ m) 0 = ((ψ c : Nat) : Int)
 o1 : ∀ m, m < h.N → S.testBit m = false → l.getD m 0 = -1
 o2 : ∀ n, n < g.N → T.testBit n = false → l'.getD n 0 = -1
section
variable {h g : Gg} {φ ψ ψ' : Nat → Nat} {S T C D : Nat} {l l' : List Int}
theorem DR.img (d : DR h g φ ψ S T C D l l') (R : Ren h g φ ψ) (p : Prm h.cw.length ψ ψ') (I : Img h φ S T) {c : Nat} (hc : c < h.cw.length) : Img h φ (crS l c) (crS l' (ψ c)) := by
 refine ⟨by have := crN_lt l c l.length; rw [d.n1] at this; unfold crS; rw [d.n1]; exact this, fun n => ?_⟩
 rw [crS_bit, d.n2]
 constructor
 ·rintro ⟨hn, e⟩
  cases ht : T.testBit n with
  | false => rw [d.o2 n hn ht] at e; omega
  | true =>
    obtain ⟨m, hm, em⟩ := (I.2 n).1 ht
    have hm2 := bit_lt I.1 hm
    obtain ⟨c2, hc2, e1, _, e3⟩ := d.at_ m hm2 hm
    rw [em, e] at e3
    have : c2 = c := by rw [← (p.a c2 hc2).2, ← (p.a c hc).2]; congr 1; omega
    subst this
    exact ⟨m, crS_bit.2 ⟨by rw [d.n1]; exact hm2, e1⟩, em⟩
 ·rintro ⟨m, hm, em⟩
  rw [crS_bit, d.n1] at hm
  obtain ⟨hm2, e⟩ := hm
  cases hs : S.testBit m with
  | false => rw [d.o1 m hm2 hs] at e; omega
  | true =>
    obtain ⟨c2, hc2, e1, _, e3⟩ := d.at_ m hm2 hs
    have : c2 = c := by omega
    subst this
    subst em
    exact ⟨(R.s m hm2).1, e3⟩
theorem DR.dom (d : DR h g φ ψ S T C D l l') (R : Ren h g φ ψ) (p : Prm h.cw.length ψ ψ') (I : Img h φ S T) (hN : g.N ≤ 5) (hM : h.N ≤ 5) (hL : h.cw.length = g.cw.length) : domO h l = domO g l' := by
 unfold domO
 rw [← hL]
 exact dom_prm p fun c hc => ren_end R.toRenS (R.c c hc).2 hN hM (d.img R p I hc)
end
end Go.Proofs.Ytdopkbldjagmlaa
end
section
set_option linter.unusedVariables false
set_option linter.unusedSimpArgs false
set_option maxHeartbeats 4000000
set_option maxRecDepth 100000
namespace Go.Proofs.Ytdopkbldjagmlaa
open Go.V
theorem fineG_ok {g : Gg} (h : (!fineG g) = false) : OkG g ∧ NearG g := by
 unfold fineG at h
 simp only [Bool.not_eq_false', Bool.and_eq_true, decide_eq_true_eq] at h
 exact ⟨h.2, h.2.near⟩
def rdN (g : Gg) (l : List Int) (i : Nat) : List Int := (List.range i).map fun j => readyV g (l.getD j 0)
theorem rdN_len (g : Gg) (l : List Int) (i : Nat) : (rdN g l i).length = i := by simp [rdN]
theorem rdN_succ (g : Gg) (l : List Int) (i : Nat) : rdN g l (i + 1) = rdN g l i ++ [readyV g (l.getD i 0)] := by simp [rdN, List.range_succ]
theorem rdN_at (g : Gg) (l : List Int) {i n : Nat} (h : i < n) : (rdN g l n).getD i 0 = readyV g (l.getD i 0) := by simp [rdN, List.getD_eq_getElem?_getD, h]
def kaN (g : Gg) (l : List Int) (b : Bool) : Nat → Bool
 | 0 => b
 | i + 1 => kaN g l b i && decide (readyE g (l.getD i 0) = 0)
theorem kaN_iff (g : Gg) (l : List Int) (b : Bool) : ∀ i, kaN g l b i = true ↔ b = true ∧ ∀ j, j < i → readyE g (l.getD j 0) = 0
 | 0 => by simp [kaN]
 | i + 1 => by
   simp only [kaN, Bool.and_eq_true, kaN_iff g l b i, decide_eq_true_eq]
   constructor
   ·rintro ⟨⟨h1, h2⟩, h3⟩
    refine ⟨h1, fun j hj => ?_⟩
    by_cases e : j = i
    ·subst e; exact h3
    ·exact h2 j (by omega)
   ·rintro ⟨h1, h2⟩
    exact ⟨⟨h1, fun j hj => h2 j (by omega)⟩, h2 i (by omega)⟩
theorem ready_in {g : Gg} (k : OkG g) {n : Nat} (hn : n < g.N) : (readyE g (n : Int) = 0 ↔ 0 ≤ begV g n) ∧ (0 ≤ begV g n → readyV g (n : Int) = begV g n) := by
 have b3 : isSm g (n : Int) = true := (isSm_iff g _).2 (by omega)
 have hE : readyE g (n : Int) = if 0 ≤ begV g n then 0 else 4 := by unfold readyE; rw [b3, errG_ok k, if_pos rfl, Int.toNat_natCast]
 have hV : readyV g (n : Int) = if readyE g (n : Int) = 0 then begV g n else 0 := by unfold readyV; rw [Int.toNat_natCast]
 constructor
 ·rw [hE]
  split
  ·rename_i h; exact ⟨fun _ => h, fun _ => rfl⟩
  ·rename_i h; exact ⟨fun e => (by cases e), fun e => absurd e h⟩
 ·intro h
  rw [hV, hE, if_pos h, if_pos rfl]
theorem known_eq {g : Gg} (k : OkG g) {c : Nat} {l : List Int} (hin : InG g l) : kaN g l (decide (((setL l ^^^ (setL l &&& (g.crew c).st.toNat) : Nat) : Int) = 0)) l.length = kwnB g c l := by
 rw [Bool.eq_iff_iff, kaN_iff, kwn_iff, decide_eq_true_eq]
 have hd : ((setL l ^^^ (setL l &&& (g.crew c).st.toNat) : Nat) : Int) = 0 ↔ ∀ i, i < l.length → (g.crew c).st.toNat.testBit (l.getD i 0).toNat = true := by
  have e0 : ((setL l ^^^ (setL l &&& (g.crew c).st.toNat) : Nat) : Int) = 0 ↔ dif (setL l) (g.crew c).st.toNat = 0 := by
   show ((dif (setL l) (g.crew c).st.toNat : Nat) : Int) = 0 ↔ _
   omega
  rw [e0]
  constructor
  ·intro h i hi
   have hb : (setL l).testBit (l.getD i 0).toNat = true := (setL_bit l _).2 ⟨_, mem_getD l i 0 hi, rfl⟩
   have := dif_bit (setL l) (g.crew c).st.toNat (l.getD i 0).toNat
   rw [h, Nat.zero_testBit, hb, Bool.true_and] at this
   simpa using this.symm
  ·intro h
   refine Nat.eq_of_testBit_eq fun n => ?_
   rw [dif_bit, Nat.zero_testBit]
   cases hb : (setL l).testBit n with
   | false => rfl
   | true =>
     obtain ⟨x, hx, e⟩ := (setL_bit l n).1 hb
     obtain ⟨i, hi, e2⟩ := mem_at.1 hx
     have := h i hi
     rw [e2, e] at this
     rw [this]; rfl
 rw [hd]
 constructor
 ·rintro ⟨h1, h2⟩ i hi
  obtain ⟨n, e, hn⟩ := hin i hi
  have q1 := h1 i hi
  have q2 := h2 i hi
  rw [e] at q1 q2 ⊢
  rw [Int.toNat_natCast] at q1 ⊢
  unfold knB
  rw [q1, Bool.true_and, decide_eq_true_eq]
  exact (ready_in k hn).1.1 q2
 ·intro h
  refine ⟨fun i hi => ?_, fun i hi => ?_⟩
  ·have := h i hi
   unfold knB at this
   rw [Bool.and_eq_true] at this
   exact this.1
  ·obtain ⟨n, e, hn⟩ := hin i hi
   have := h i hi
   rw [e, Int.toNat_natCast] at this
   unfold knB at this
   rw [Bool.and_eq_true, decide_eq_true_eq] at this
   rw [e]
   exact (ready_in k hn).1.2 this.2
def spk (a b c : Int) (q : Nat) : Int := [a, b, c].getD q 0
def mxF (g : Gg) (a b c : Int) (l : List Int) (i k : Nat) : Nat → List AV := fun q => [i64 (donN g (spk a b c q) l (if q < k then i + 1 else i))]
theorem mxF_upd (g : Gg) (a b c : Int) (l : List Int) (i k : Nat) : updF 3 k (mxF g a b c l i k) [i64 (donN g (spk a b c k) l (i + 1))] = mxF g a b c l i (k + 1) := by
 funext q
 show (if q = k then _ else _) = _
 unfold mxF
 by_cases e : q = k
 ·subst e
  rw [if_pos rfl, if_pos (Nat.lt_succ_self q)]
 ·rw [if_neg e]
  by_cases e2 : q < k
  ·rw [if_pos e2, if_pos (by omega)]
  ·rw [if_neg e2, if_neg (by omega)]
theorem mxF_end (g : Gg) (a b c : Int) (l : List Int) (i q : Nat) (hq : q < 3) : mxF g a b c l i 3 q = mxF g a b c l (i + 1) 0 q := by
 unfold mxF
 rw [if_pos hq, if_neg (Nat.not_lt_zero q)]
def lateV (g : Gg) (c : Nat) (l : List Int) (i : Nat) : Int := match (List.range i).find? (ltB g c l) with
 | some j => l.getD j 0
 | none => -1
theorem lateV_succ {g : Gg} {c : Nat} {l : List Int} {i : Nat} (h : ∃ n : Nat, l.getD i 0 = (n : Int)) (hp : ∀ j, j < i → ∃ n : Nat, l.getD j 0 = (n : Int)) :
  lateV g c l (i + 1) = if (decide (lateV g c l i < 0) && ltB g c l i) = true then l.getD i 0 else lateV g c l i := by
 unfold lateV
 rw [List.range_succ, List.find?_append]
 cases hf : (List.range i).find? (ltB g c l) with
 | some j =>
   have hj := List.mem_range.1 (List.mem_of_find?_eq_some hf)
   obtain ⟨n, hn⟩ := hp j hj
   simp only [Option.some_or]
   rw [if_neg]
   rw [decide_eq_false (by omega)]
   simp
 | none =>
   simp only [Option.none_or, List.find?_cons, List.find?_nil]
   cases hb : ltB g c l i with
   | true => simp
   | false => simp
theorem true_law (g : Gg) (w bt : Int) (N : Nat) (b : Nat → Int) (sp : Int) (H : Hp) (hw : 0 ≤ w ∧ w ≤ 255) (hbt : 0 ≤ bt ∧ bt ≤ 255) (hB : N < 2 ^ 63 ∧ ∀ i, i < N → 0 ≤ b i ∧ b i ≤ 255) (hsp : 0 ≤ sp ∧ sp ≤ 255) :
  PTri Try.prog (fnA 4) [g.av, .lit (.int .u8 w), .lit (.int .u8 bt), .rsl N 1 (byF b), .lit (.int .u8 sp)] H (boo true) := by
 refine Tri.drop ?_
 refine tri_v0 (mset [19]) Try.func4 (by kernel_rfl) rfl (by simp only [List.length_append, List.length_cons, List.length_nil, Try.ntmps4]; decide) ?_
 simp only [vsAll, loadA, loadRow, partA, partOk, boxA, boxZ, okAll, stAll, opsA, opA, dstOk, nilSliceOp, argFr, Nat.reduceAdd, Nat.reduceLT, Nat.reduceEqDiff, Nat.reduceBEq, Int.reduceNeg, ↓reduceIte, eq_self, wtAll, Try.ntmps4]
 refine callK_pure (gfine_tri g _) ?_
 simp only [vsAll, binA, binLitA, intA, unA, loadA, loadRow, partA, partOk, fieldAddrA, lenA, pickA, opA, guardV, dstOk, Nat.reduceLT, Nat.reduceEqDiff, Int.reduceNeg, ↓reduceIte, implies_true, eq_self, wtAll]
 refine condV (fun hc => ?_) (fun hc => ?_)
 ·simp only [vsAll, okAll, stAll, opsA, opA, dstOk, Nat.reduceLT, Int.reduceNeg]
  refine callK_pure (awake_tri _) ?_
  simp only [vsAll, opA, dstOk, nilSliceOp, resA, retA.eq_1, Nat.reduceLT, Nat.reduceBEq, Int.reduceNeg, ↓reduceIte, eq_self, Try.results4]
  exact dropR_pure rfl HSub_rfl
 ·rw [Bool.or_eq_false_iff, decide_eq_false_iff_not] at hc
  obtain ⟨k, kn⟩ := fineG_ok hc.1
  have hc0 := hc.2
  have nS := k.nS
  have nC := k.nC
  have hN5 : g.N ≤ 5 := nS
  have hNe : g.N = g.sm.length := rfl
  have hpw : 2 ^ g.N ≤ 2 ^ 5 := Nat.pow_le_pow_right (by omega) hN5
  have hp0 : 0 < 2 ^ g.N := Nat.two_pow_pos _
  have ep : (1 : Int) * 2 ^ g.sm.length = ((2 ^ g.N : Nat) : Int) := by rw [Int.one_mul]; simp [Gg.N]
  have hm0 : 0 ≤ w.tmod (g.cw.length : Int) := Int.tmod_nonneg _ hw.1
  have hm1 : w.tmod (g.cw.length : Int) < g.cw.length := Int.tmod_lt_of_pos _ (by omega)
  simp only [vsAll, binA, binLitA, intA, loadA, loadRow, partA, partOk, fieldAddrA, indexAddrA, lenA, convA, opA, allocA, newCells, storeObj, dstOk, nilSliceOp, argFr, Nat.reduceAdd, Nat.reduceLT, Nat.reduceEqDiff, Nat.reduceBEq, Int.reduceNeg, ↓reduceIte, eq_self, ne_eq, wtAll]
  generalize hwi : w.tmod (g.cw.length : Int) = wi at hm0 hm1
  obtain ⟨c, rfl⟩ : ∃ i : Nat, wi = (i : Int) := ⟨wi.toNat, by omega⟩
  have hc : c < g.cw.length := by omega
  have eC : g.cw.getD c cw0 = g.crew c := rfl
  refine ⟨by simp only [InR_i64]; omega, by omega, ?_⟩
  simp only [vsAll, cellA, okCells, Nat.reduceAdd, Int.reduceNeg, eq_self, cwF_at, eC]
  refine ⟨⟨by omega, by omega⟩, by omega, ?_⟩
  intro i12 hh_i12; (try simp only [Hp.set_none, ite_none] at hh_i12)
  rw [Hp.set_set]
  refine vs_draw2 [0, 0, 0, 0, 0, 0, 0, 0, 0, 0, 1, 2] [([0, 1, 2, 3, 4, 5, 6, 7, 8, 9], [], 10)] [11] (by decide +kernel) ?_
  have eTN : (((2 ^ g.N : Nat) : Int) - 1).toNat = 2 ^ g.N - 1 := by ((try clear hh_i12); omega)
  simp only [vsAll, binA, binLitA, intA, loadA, loadRow, partA, partOk, fieldAddrA, lenA, convA, okAll, stAll, opsA, opA, dstOk, argFr, Nat.reduceLT, Nat.reduceEqDiff, Int.reduceNeg, ↓reduceIte, eq_self, wtAll, ep, eTN]
  refine ⟨by simp only [InR_i64]; ((try clear hh_i12); omega), ⟨by ((try clear hh_i12); omega), by ((try clear hh_i12); omega), by simp only [InR_i64]; ((try clear hh_i12); omega)⟩, by simp only [InR_i64]; ((try clear hh_i12); omega), ⟨by ((try clear hh_i12); omega), by ((try clear hh_i12); omega), by simp only [InR_i64]; ((try clear hh_i12); omega), by simp only [InR_i64]; ((try clear hh_i12); omega)⟩, ?_⟩
  have hSle : bt.toNat &&& (2 ^ g.N - 1) < 2 ^ g.N := by
   have := Nat.and_le_right (n := bt.toNat) (m := 2 ^ g.N - 1)
   ((try clear hh_i12); omega)
  generalize bt.toNat &&& (2 ^ g.N - 1) = S at hSle ⊢
  refine callK (drawn_tri g S N b _ k hSle hB.1 hB.2) ?_
  rintro r H' ⟨rfl, l, hro, hlen, rfl⟩
  have hrB := rowB_of hSle hro
  have hll := row_len k hrB
  have hin := row_in hSle hro
  have hv : vRow g (c : Int) l = true := by
   unfold vRow
   rw [hrB, (isCw_iff g _).2 (by ((try clear hh_i12); omega))]; rfl
  have hE : rowE g (c : Int) l = if kwnB g c l = true then 0 else 11 := by
   unfold rowE
   rw [hv, errG_ok k, if_pos rfl, Int.toNat_natCast]
  have hcE : chkE g (c : Int) l = if rowE g (c : Int) l = 0 then if (latO g c l).isSome = true then 0 else 4 else rowE g (c : Int) l := by
   unfold chkE
   rw [Int.toNat_natCast]
  have hcV : chkV g (c : Int) l = if chkE g (c : Int) l = 0 then l.getD ((latO g c l).getD 0) 0 else 0 := by
   unfold chkV
   rw [Int.toNat_natCast]
  have hst := st_lt k hc
  simp only [vsAll, loadA, loadRow, partA, partOk, okAll, stAll, opsA, opA, dstOk, Nat.reduceLT, Nat.reduceEqDiff, Int.reduceNeg, ↓reduceIte, eq_self, wtAll]
  refine callK_pure (wrow_tri g (c : Int) l _ kn (by ((try clear hh_i12); omega))) ?_
  simp only [vsAll, loadA, loadRow, partA, partOk, extractA, okAll, stAll, opsA, opA, dstOk, nilSliceOp, Nat.reduceAdd, Nat.reduceLT, Nat.reduceEqDiff, Nat.reduceBEq, Int.reduceNeg, ↓reduceIte, eq_self, wtAll]
  refine callK_pure (wchk_tri g (c : Int) l _ kn (by ((try clear hh_i12); omega))) ?_
  simp only [vsAll, extractA, opA, dstOk, nilSliceOp, Nat.reduceAdd, Nat.reduceLT, Nat.reduceEqDiff, Nat.reduceBEq, Int.reduceNeg, ↓reduceIte, eq_self]
  refine vs_draw2 [0, 0, 0, 0, 0, 0, 0] [] [0, 1, 2, 3, 4, 5, 6] (by decide +kernel) ?_
  simp only [vsAll, opA, dstOk, Nat.reduceLT, Nat.reduceEqDiff, Int.reduceNeg, ↓reduceIte, eq_self]
  refine qcall _ ⟨trivial, by simp only [vsAll, okAll, opsA, opA, ↓reduceIte, eq_self], gsetOf_tri l _ (by ((try clear hh_i12); omega)) (fun i hi => by
   obtain ⟨n, e, hn⟩ := hin i hi
   ((try clear hh_i12); omega))⟩ ?_
  have hsl := setL_lt (lt32 hN5 hSle) hro
  simp only [vsAll, binA, binLitA, intA, loadA, loadRow, partA, partOk, fieldAddrA, opA, dstOk, Nat.reduceLT, Nat.reduceEqDiff, Nat.reduceBEq, Int.reduceNeg, ↓reduceIte, eq_self, wtAll]
  refine ⟨⟨by ((try clear hh_i12); omega), by ((try clear hh_i12); omega), by simp only [InR_i64]; ((try clear hh_i12); omega), by simp only [InR_i64]; ((try clear hh_i12); omega)⟩, ?_⟩
  simp only [vsAll, lenA, opA, dstOk, Nat.reduceLT, Nat.reduceEqDiff, Int.reduceNeg, ↓reduceIte, eq_self, wtAll, Go.V.nilA]
  intro i19 hh_i19; (try simp only [ite_none] at hh_i19)
  have hkn := known_eq k (c := c) hin
  generalize decide (((setL l ^^^ (setL l &&& (g.crew c).st.toNat) : Nat) : Int) = 0) = k0 at hkn ⊢
  refine vs_loop (σ := Nat) (fun i => i ≤ l.length) (fun i => [(5, gptr g), (4, .lit (.int .u8 sp)), (11, i64 c), (12, .ref i12 0 3 0 0), (13, intsAV l), (14, spaAV (rowV g (c : Int) l)), (15, i64 (rowE g (c : Int) l)), (16, i64 (chkV g (c : Int) l)), (17, i64 (chkE g (c : Int) l)), (18, boo (kaN g l k0 i)), (19, .sl i19 1 i), (85, intsAV l), (86, i64 l.length), (87, i64 i)]) (fun i => (H.set i12 (.box 3 1 fun _ => [i64 (g.crew c).lo, i64 (g.crew c).hi, i64 (g.crew c).st])).set i19 (.row 1 i (intF (rdN g l i)))) (fun i => l.length - i) 0 (Nat.zero_le _) ?_ ?_ fun i hi => ?_
  ·simp only [vsAll, argFr, Nat.reduceEqDiff, ↓reduceIte, eq_self, Int.natCast_zero]
   exact AV.Le.refl _
  ·refine HSub_put (o' := .row 1 0 fun _ => []) (by simp only [vsAll, ↓reduceIte, eq_self]) (row0_le _ _ _) ?_
   (repeat (first | exact HSub_rfl | refine HSub_put_eq (by simp only [vsAll, ↓reduceIte, eq_self, hh_i19]) ?_ | refine HSub_drop2 (by simp only [eq_self, hh_i12, hh_i19]) ?_ | refine HSub_keep_eq (by simp only [vsAll, ↓reduceIte, eq_self, reduceCtorEq, Nat.reduceEqDiff, hh_i12, hh_i19]) ?_))
  ·simp only [vsAll, binA, binLitA, intA, opA, dstOk, Nat.reduceLT, Nat.reduceEqDiff, Int.reduceNeg, ↓reduceIte, eq_self]
   refine condD (fun hd => ?_) (fun hd => ?_)
   ·have his : i < l.length := by ((try clear hh_i12); (try clear hh_i19); omega)
    obtain ⟨n, en, hn⟩ := hin i his
    have es := rdN_succ g l i
    simp only [vsAll, loadA, loadRow, partA, partOk, indexAddrA, okAll, stAll, opsA, opA, dstOk, nilSliceOp, Nat.reduceLT, Nat.reduceEqDiff, Nat.reduceBEq, Int.reduceNeg, ↓reduceIte, eq_self, wtAll, intF_at]
    refine ⟨⟨by ((try clear hh_i12); (try clear hh_i19); omega), by ((try clear hh_i12); (try clear hh_i19); omega)⟩, his, ?_⟩
    refine callK_pure (wready_tri g (l.getD i 0) _ kn) ?_
    simp only [vsAll, binA, binLitA, intA, extractA, cellA, cellsA, okParts, buildSliceA, partIdx, elemsA, lensA, pickA, partsA, partsOk, opA, appendA, guardV, dstOk, nilSliceOp, Nat.reduceAdd, Nat.reduceMul, Nat.reduceLT, Nat.reduceLeDiff, Nat.reduceEqDiff, Nat.reduceBEq, Int.reduceNeg, ↓reduceIte, implies_true, eq_self, wtAll]
    refine ⟨fun q hq => by (have : q = 0 := by ((try clear hh_i12); (try clear hh_i19); omega)); subst this; simp only [vsAll, cellA, okCells, eq_self], by ((try clear hh_i12); (try clear hh_i19); omega), by ((try clear hh_i12); (try clear hh_i19); omega), by simp only [InR_i64]; ((try clear hh_i12); (try clear hh_i19); omega), loop_next (i + 1) his (by ((try clear hh_i12); (try clear hh_i19); omega)) ?_ ?_⟩
    ·simp only [vsAll, Nat.reduceEqDiff, ↓reduceIte, eq_self, Int.natCast_add, Int.natCast_one, kaN]
     done
    ·have ea := app_ints (rdN g l i) (readyV g (l.getD i 0)) (fun q => [[i64 (readyV g (l.getD i 0))]].getD q []) rfl
     rw [rdN_len, ← es] at ea
     rw [← ea]
     (repeat (first | exact HSub_rfl | refine HSub_put_eq (by simp only [vsAll, ↓reduceIte, eq_self, hh_i19]) ?_ | refine HSub_drop2 (by simp only [eq_self, hh_i12, hh_i19]) ?_ | refine HSub_keep_eq (by simp only [vsAll, ↓reduceIte, eq_self, reduceCtorEq, Nat.reduceEqDiff, hh_i12, hh_i19]) ?_))
   ·have ei : i = l.length := by ((try clear hh_i12); (try clear hh_i19); omega)
    subst ei
    rw [hkn]
    simp only [vsAll, unA, opA, dstOk, Nat.reduceLT, Nat.reduceEqDiff, Int.reduceNeg, ↓reduceIte, eq_self]
    refine condV (fun hq => ?_) (fun hq => ?_)
    ·rw [Bool.not_eq_true'] at hq
     have e1 : rowE g (c : Int) l = 11 := by rw [hE, hq]; rfl
     have e2 : chkE g (c : Int) l = 11 := by rw [hcE, e1]; rfl
     have e3 : chkV g (c : Int) l = 0 := by rw [hcV, e2]; rfl
     have e4 : (rowV g (c : Int) l).length = 0 := by unfold rowV; rw [e1]; rfl
     simp only [vsAll, binA, binLitA, intA, lenA, pickA, opA, guardV, dstOk, Nat.reduceLT, Nat.reduceEqDiff, Int.reduceNeg, ↓reduceIte, implies_true, eq_self, wtAll, e1, e2, e3, e4]
     refine gcall (boo true) (fun hg => ⟨by simp only [vsAll, opA], by simp only [okAll, opsA], awake_tri _⟩) ?_
     simp only [vsAll, pickA, opA, dstOk, nilSliceOp, resA, retA.eq_1, Nat.reduceLT, Nat.reduceEqDiff, Nat.reduceBEq, Int.reduceNeg, ↓reduceIte, implies_true, eq_self, Try.results4]
     exact dropR_pure rfl (by (repeat (first | exact HSub_rfl | refine HSub_put_eq (by simp only [vsAll, ↓reduceIte, eq_self, reduceCtorEq, Nat.reduceEqDiff, hh_i12, hh_i19]) ?_ | refine HSub_drop2 (by simp only [eq_self, hh_i12, hh_i19]) ?_ | refine HSub_keep_eq (by simp only [vsAll, ↓reduceIte, eq_self, reduceCtorEq, Nat.reduceEqDiff, hh_i12, hh_i19]) ?_)))
    ·rw [Bool.not_eq_false'] at hq
     have e1 : rowE g (c : Int) l = 0 := by rw [hE, hq]; rfl
     have e4 : rowV g (c : Int) l = rwH g c l l.length l.length := by unfold rowV; rw [if_pos e1, Int.toNat_natCast]
     have e5 : (rowV g (c : Int) l).length = l.length := by rw [e4, rwH_len]
     have e2 : chkE g (c : Int) l = if (latO g c l).isSome = true then 0 else 4 := by rw [hcE, if_pos e1]
     have hcnd : ∀ v, chkE g (c : Int) l = v → (!decide (v = 0) && (!decide (v = 4) || !decide (chkV g (c : Int) l = 0))) = false := fun v hv => by
      subst hv
      rw [hcV, e2]
      split <;> rfl
     simp only [vsAll, binA, binLitA, intA, lenA, pickA, opA, guardV, dstOk, Nat.reduceLT, Nat.reduceEqDiff, Int.reduceNeg, ↓reduceIte, implies_true, eq_self, wtAll, e1, e5]
     refine ⟨fun q => ⟨q, fun q2 => by rw [q, q2]; rfl⟩, ?_⟩
     rw [hcnd _ rfl]
     have hcw := k.crew hc
     unfold okC at hcw
     have hsm0 : 0 ≤ sp.tmod ((g.crew c).hi - (g.crew c).lo + 1) := Int.tmod_nonneg _ hsp.1
     have hsm1 : sp.tmod ((g.crew c).hi - (g.crew c).lo + 1) < (g.crew c).hi - (g.crew c).lo + 1 := Int.tmod_lt_of_pos _ (by ((try clear hh_i12); (try clear hh_i19); omega))
     simp only [vsAll, Int.reduceNeg]
     refine vs_draw2 [0, 0, 0, 0, 0, 0, 0, 0, 0, 0, 0, 0, 0, 0, 0, 0] [] [0, 1, 2, 3, 4, 5, 6, 7, 8, 9, 10, 11, 12, 13, 14, 15] (by decide +kernel) ?_
     simp only [vsAll, binA, binLitA, intA, loadA, loadRow, partA, partOk, fieldAddrA, lenA, convA, opA, allocA, dstOk, nilSliceOp, Nat.reduceLT, Nat.reduceEqDiff, Nat.reduceBEq, Int.reduceNeg, ↓reduceIte, eq_self, ne_eq, wtAll, hh_i19]
     generalize sp.tmod ((g.crew c).hi - (g.crew c).lo + 1) = sm at hsm0 hsm1 ⊢
     refine ⟨by simp only [InR_i64]; ((try clear hh_i12); (try clear hh_i19); omega), by simp only [InR_i64]; ((try clear hh_i12); (try clear hh_i19); omega), by simp only [InR_i64]; ((try clear hh_i12); (try clear hh_i19); omega), by ((try clear hh_i12); (try clear hh_i19); omega), by simp only [InR_i64]; ((try clear hh_i12); (try clear hh_i19); omega), ?_⟩
     generalize htr : (g.crew c).lo + sm = tr
     intro i25 hh_i25; (try simp only [ite_none] at hh_i25)
     have hlo : 1 ≤ (g.crew c).lo := hcw.1
     have htr1 : (g.crew c).lo ≤ tr := by ((try clear hh_i12); (try clear hh_i19); (try clear hh_i25); omega)
     have htr2 : tr ≤ (g.crew c).hi := by ((try clear hh_i12); (try clear hh_i19); (try clear hh_i25); omega)
     have hbeg : ∀ i, i < l.length → 0 ≤ begV g (l.getD i 0).toNat := fun i hi => by
      have := kwn_iff.1 hq i hi
      unfold knB at this
      rw [Bool.and_eq_true, decide_eq_true_eq] at this
      exact this.2
     have hle : ∀ a, (a = (g.crew c).lo ∨ a = tr ∨ a = (g.crew c).hi) → 1 ≤ a ∧ a ≤ 12 := fun a ha => by ((try clear hh_i12); (try clear hh_i19); (try clear hh_i25); omega)
     generalize hhi : (g.crew c).hi = hi' at *
     generalize hlo' : (g.crew c).lo = lo' at *
     have hdn : ∀ (a : Int) (i : Nat), 1 ≤ a ∧ a ≤ 12 → i ≤ l.length → 0 ≤ donN g a l i ∧ donN g a l i ≤ 24 + 60 * (i : Int) := fun a i ha hi => donN_le k ha hrB i hi
     have hspk : ∀ q, q < 3 → 1 ≤ spk hi' tr lo' q ∧ spk hi' tr lo' q ≤ 12 := fun q hq => by
      have : q = 0 ∨ q = 1 ∨ q = 2 := by ((try clear hh_i12); (try clear hh_i19); (try clear hh_i25); omega)
      rcases this with rfl | rfl | rfl
      ·exact hle _ (.inr (.inr rfl))
      ·exact hle _ (.inr (.inl rfl))
      ·exact hle _ (.inl rfl)
     have hm01 : ∀ i, i ≤ l.length → donN g hi' l i ≤ donN g tr l i := fun i hi => donN_mono k (by ((try clear hh_i12); (try clear hh_i19); (try clear hh_i25); omega)) htr2 hin i hi
     have hm12 : ∀ i, i ≤ l.length → donN g tr l i ≤ donN g lo' l i := fun i hi => donN_mono k hlo htr1 hin i hi
     refine vs_loop (σ := Nat) (fun i => i ≤ l.length) (fun i => [(5, gptr g), (12, .ref i12 0 3 0 0), (14, spaAV (rowV g (c : Int) l)), (16, i64 (chkV g (c : Int) l)), (17, i64 (chkE g (c : Int) l)), (19, .sl i19 1 l.length), (24, i64 tr), (25, .ref i25 0 1 0 0), (26, i64 (lateV g c l i)), (164, intsAV l), (165, i64 l.length), (166, i64 i)])
      (fun i => (((H.set i12 (.box 3 1 fun _ => [i64 lo', i64 hi', i64 (g.crew c).st])).set i19 (.row 1 l.length (intF (rdN g l l.length)))).set i25 (.box 1 3 (mxF g hi' tr lo' l i 0)))) (fun i => l.length - i) 0 (Nat.zero_le _) ?_ ?_ fun i hi => ?_
     ·simp only [vsAll, Nat.reduceEqDiff, Int.reduceNeg, ↓reduceIte, eq_self, Int.natCast_zero]
      exact AV.Le.refl _
     ·refine HSub_put (o' := .box 1 3 fun _ => [i64 0]) (by simp only [vsAll, ↓reduceIte, eq_self]) (box_ext fun q hq => rfl) ?_
      (repeat (first | exact HSub_rfl | refine HSub_put_eq (by simp only [vsAll, ↓reduceIte, eq_self, hh_i19, hh_i25]) ?_ | refine HSub_drop2 (by simp only [eq_self, hh_i12, hh_i19, hh_i25]) ?_ | refine HSub_keep_eq (by simp only [vsAll, ↓reduceIte, eq_self, reduceCtorEq, Nat.reduceEqDiff, hh_i12, hh_i19, hh_i25]) ?_))
     ·simp only [vsAll, binA, binLitA, intA, opA, dstOk, Nat.reduceLT, Nat.reduceEqDiff, ↓reduceIte, eq_self]
      refine condD (fun hd => ?_) (fun hd => ?_)
      ·have his : i < l.length := by ((try clear hh_i12); (try clear hh_i19); (try clear hh_i25); omega)
       obtain ⟨n, en, hn⟩ := hin i his
       simp only [vsAll, loadA, loadRow, partA, partOk, fieldAddrA, indexAddrA, lenA, cellA, cellsA, okParts, buildSliceA, partIdx, elemsA, lensA, partsA, partsOk, opA, dstOk, nilSliceOp, Nat.reduceAdd, Nat.reduceMul, Nat.reduceLT, Nat.reduceLeDiff, Nat.reduceEqDiff, Nat.reduceBEq, ↓reduceIte, eq_self, wtAll, hh_i19, hh_i25, intF_at]
       refine ⟨⟨by ((try clear hh_i12); (try clear hh_i19); (try clear hh_i25); omega), by ((try clear hh_i12); (try clear hh_i19); (try clear hh_i25); omega)⟩, his, ?_⟩
       refine vs_loop (σ := Nat) (fun q => q ≤ 3) (fun q => [(5, gptr g), (12, .ref i12 0 3 0 0), (14, spaAV (rowV g (c : Int) l)), (16, i64 (chkV g (c : Int) l)), (17, i64 (chkE g (c : Int) l)), (19, .sl i19 1 l.length), (24, i64 tr), (25, .ref i25 0 1 0 0), (26, i64 (lateV g c l i)), (27, i64 i), (28, i64 (l.getD i 0)), (164, intsAV l), (165, i64 l.length), (166, i64 i), (178, .rsl 3 1 fun q => [i64 (spk hi' tr lo' q)]), (179, i64 3), (180, i64 q)])
        (fun q => (((H.set i12 (.box 3 1 fun _ => [i64 lo', i64 hi', i64 (g.crew c).st])).set i19 (.row 1 l.length (intF (rdN g l l.length)))).set i25 (.box 1 3 (mxF g hi' tr lo' l i q)))) (fun q => 3 - q) 0 (Nat.zero_le _) ?_ HSub_rfl fun q hq3 => ?_
       ·simp only [vsAll, Nat.reduceEqDiff, ↓reduceIte, eq_self, Int.natCast_zero]
        refine ⟨AV.Le.rsl fun q hq => ?_, AV.Le.refl _⟩
        match q, hq with
        | 0, _ => rfl
        | 1, _ => rfl
        | 2, _ => rfl
       ·simp only [vsAll, binA, binLitA, intA, opA, dstOk, Nat.reduceLT, Nat.reduceEqDiff, ↓reduceIte, eq_self]
        refine condD (fun hd3 => ?_) (fun hd3 => ?_)
        ·have hqs : q < 3 := by ((try clear hh_i12); (try clear hh_i19); (try clear hh_i25); omega)
         have hsq := hspk q hqs
         have hfa := (k.seam hn).1
         have eS : g.sm.getD n sm0 = g.seam n := rfl
         simp only [vsAll, loadA, loadRow, partA, partOk, fieldAddrA, indexAddrA, opA, dstOk, nilSliceOp, Nat.reduceLT, Nat.reduceEqDiff, Nat.reduceBEq, ↓reduceIte, eq_self, wtAll, smF_at, eS, en]
         refine ⟨⟨by ((try clear hh_i12); (try clear hh_i19); (try clear hh_i25); omega), by ((try clear hh_i12); (try clear hh_i19); (try clear hh_i25); omega)⟩, hqs, ⟨by ((try clear hh_i12); (try clear hh_i19); (try clear hh_i25); omega), by ((try clear hh_i12); (try clear hh_i19); (try clear hh_i25); omega)⟩, by ((try clear hh_i12); (try clear hh_i19); (try clear hh_i25); omega), ?_⟩
         refine vs_loop (σ := Nat) (fun j => j ≤ 60 ∧ (j = 0 ∨ 0 < (g.seam n).fa - ((j : Int) - 1) * spk hi' tr lo' q)) (fun j => [(5, gptr g), (12, .ref i12 0 3 0 0), (14, spaAV (rowV g (c : Int) l)), (16, i64 (chkV g (c : Int) l)), (17, i64 (chkE g (c : Int) l)), (19, .sl i19 1 l.length), (24, i64 tr), (25, .ref i25 0 1 0 0), (26, i64 (lateV g c l i)), (27, i64 i), (28, i64 (n : Int)), (29, i64 q), (30, i64 (spk hi' tr lo' q)), (31, i64 j), (32, i64 ((g.seam n).fa - (j : Int) * spk hi' tr lo' q)), (164, intsAV l), (165, i64 l.length), (166, i64 i), (178, .rsl 3 1 fun q => [i64 (spk hi' tr lo' q)]), (179, i64 3), (180, i64 q)])
          (fun _ => (((H.set i12 (.box 3 1 fun _ => [i64 lo', i64 hi', i64 (g.crew c).st])).set i19 (.row 1 l.length (intF (rdN g l l.length)))).set i25 (.box 1 3 (mxF g hi' tr lo' l i q)))) (fun j => 60 - j) 0 ⟨by ((try clear hh_i12); (try clear hh_i19); (try clear hh_i25); omega), .inl rfl⟩ ?_ HSub_rfl fun j hj => ?_
         ·simp only [vsAll, Nat.reduceEqDiff, ↓reduceIte, eq_self, Int.natCast_zero, Int.zero_mul, Int.sub_zero]
         ·obtain ⟨hj1, hj2⟩ := hj
          have ejm : ((j : Int) + 1) * spk hi' tr lo' q = (j : Int) * spk hi' tr lo' q + spk hi' tr lo' q := by rw [Int.add_mul, Int.one_mul]
          have hjm : (j : Int) * 1 ≤ (j : Int) * spk hi' tr lo' q := Int.mul_le_mul_of_nonneg_left hsq.1 (by ((try clear hh_i12); (try clear hh_i19); (try clear hh_i25); omega))
          have hjx : (j : Int) * spk hi' tr lo' q ≤ (j : Int) * 12 := Int.mul_le_mul_of_nonneg_left hsq.2 (by ((try clear hh_i12); (try clear hh_i19); (try clear hh_i25); omega))
          have eju : (g.seam n).fa - (j : Int) * spk hi' tr lo' q - spk hi' tr lo' q = (g.seam n).fa - ((j + 1 : Nat) : Int) * spk hi' tr lo' q := by
           rw [Int.natCast_add, Int.natCast_one, ejm]; ((try clear hh_i12); (try clear hh_i19); (try clear hh_i25); omega)
          simp only [vsAll, binA, binLitA, intA, opA, dstOk, Nat.reduceLT, Nat.reduceEqDiff, ↓reduceIte, eq_self]
          refine condD (fun hd4 => ?_) (fun hd4 => ?_)
          ·simp only [vsAll, binA, binLitA, intA, opA, dstOk, nilSliceOp, Nat.reduceLT, Nat.reduceEqDiff, Nat.reduceBEq, ↓reduceIte, eq_self]
           refine ⟨by simp only [InR_i64]; ((try clear hh_i12); (try clear hh_i19); (try clear hh_i25); omega), by simp only [InR_i64]; ((try clear hh_i12); (try clear hh_i19); (try clear hh_i25); omega), loop_next (j + 1) ⟨by ((try clear hh_i12); (try clear hh_i19); (try clear hh_i25); omega), .inr ?_⟩ (by ((try clear hh_i12); (try clear hh_i19); (try clear hh_i25); omega)) ?_ HSub_rfl⟩
           ·rw [Int.natCast_add, Int.natCast_one, show (j : Int) + 1 - 1 = (j : Int) by ((try clear hh_i12); (try clear hh_i19); (try clear hh_i25); omega)]
            ((try clear hh_i12); (try clear hh_i19); (try clear hh_i25); omega)
           ·rw [eju]
            simp only [vsAll, Nat.reduceEqDiff, ↓reduceIte, eq_self, Int.natCast_add, Int.natCast_one]
          ·have htk := tk_is k hn hsq.1 (j := j) (by ((try clear hh_i12); (try clear hh_i19); (try clear hh_i25); omega)) hj2
           have hd0 := hdn _ i hsq (by ((try clear hh_i12); (try clear hh_i19); (try clear hh_i25); omega))
           have hbg := hbeg i his
           rw [en, Int.toNat_natCast] at hbg
           have hrd : (rdN g l l.length).getD i 0 = begV g n := by rw [rdN_at g l his, en, (ready_in k hn).2 hbg]
           have hnx : donN g (spk hi' tr lo' q) l (i + 1) = max (donN g (spk hi' tr lo' q) l i) (begV g n) + (j : Int) := by
            simp only [donN, stT, en, Int.toNat_natCast]
            rw [htk]
           have hup := mxF_upd g hi' tr lo' l i q
           have hmq : mxF g hi' tr lo' l i q q = [i64 (donN g (spk hi' tr lo' q) l i)] := by
            unfold mxF
            rw [if_neg (Nat.lt_irrefl q)]
           have hbl := beg_le k hn
           simp only [vsAll, ↓reduceIte, eq_self]
           refine vs_draw2 [0, 0, 0, 0, 0, 0, 0, 0, 0, 0, 0, 0, 1] [([0, 1, 2, 3, 4, 5, 6, 7, 8, 9, 10, 11], [], 12)] [] (by decide +kernel) ?_
           simp only [vsAll, binA, binLitA, intA, loadA, loadRow, partA, partOk, indexAddrA, cellA, cellsA, mmA, okAll, stAll, opsA, opA, newCells, okCells, storeObj, dstOk, Nat.reduceLT, Nat.reduceEqDiff, ↓reduceIte, eq_self, wtAll, hh_i25, intF_at, hrd, hmq]
           rw [← hnx, Hp.set_set]
           have hd1' := hdn _ (i + 1) hsq his
           refine ⟨⟨by ((try clear hh_i12); (try clear hh_i19); (try clear hh_i25); omega), by ((try clear hh_i12); (try clear hh_i19); (try clear hh_i25); omega)⟩, hqs, ⟨by ((try clear hh_i12); (try clear hh_i19); (try clear hh_i25); omega), by ((try clear hh_i12); (try clear hh_i19); (try clear hh_i25); omega)⟩, his, by simp only [InR_i64]; ((try clear hh_i12); (try clear hh_i19); (try clear hh_i25); omega), ⟨by ((try clear hh_i12); (try clear hh_i19); (try clear hh_i25); omega), by ((try clear hh_i12); (try clear hh_i19); (try clear hh_i25); omega)⟩, hqs, by simp only [InR_i64]; ((try clear hh_i12); (try clear hh_i19); (try clear hh_i25); omega), loop_next (q + 1) hqs (by ((try clear hh_i12); (try clear hh_i19); (try clear hh_i25); omega)) ?_ ?_⟩
           ·simp only [vsAll, Nat.reduceEqDiff, ↓reduceIte, eq_self, Int.natCast_add, Int.natCast_one]
           ·rw [hup]
            exact HSub_rfl
        ·have eq3 : q = 3 := by ((try clear hh_i12); (try clear hh_i19); (try clear hh_i25); omega)
         subst eq3
         have hm0 : mxF g hi' tr lo' l i 3 0 = [i64 (donN g hi' l (i + 1))] := rfl
         have hm1 : mxF g hi' tr lo' l i 3 1 = [i64 (donN g tr l (i + 1))] := rfl
         have hm2 : mxF g hi' tr lo' l i 3 2 = [i64 (donN g lo' l (i + 1))] := rfl
         have hrw : (rowV g (c : Int) l).getD i (0, 0) = (donN g hi' l (i + 1), donN g lo' l (i + 1)) := by
          rw [e4, rwH_at g c l _ his, if_pos his, hhi, hlo']
         have h01 := hm01 (i + 1) his
         have h12 := hm12 (i + 1) his
         have eS : g.sm.getD n sm0 = g.seam n := rfl
         have hls := lateV_succ (g := g) (c := c) (l := l) (i := i) ⟨n, en⟩ fun j hj => by
          obtain ⟨m, em, _⟩ := hin j (by ((try clear hh_i12); (try clear hh_i19); (try clear hh_i25); omega))
          exact ⟨m, em⟩
         have hlb : ltB g c l i = decide ((g.seam n).fl < donN g lo' l (i + 1)) := by
          unfold ltB
          rw [en, Int.toNat_natCast, hlo']
         simp only [vsAll, ↓reduceIte, eq_self, en]
         refine vs_draw2 [0, 0, 0, 0, 0, 0, 0, 0, 0, 0, 0, 0, 0, 0, 0, 0, 0, 0, 0, 0, 0, 0, 0, 0] [] [0, 1, 2, 3, 4, 5, 6, 7, 8, 9, 10, 11, 12, 13, 14, 15, 16, 17, 18, 19, 20, 21, 22, 23] (by decide +kernel) ?_
         simp only [vsAll, loadA, loadRow, partA, partOk, indexAddrA, opA, dstOk, Nat.reduceLT, Nat.reduceEqDiff, Int.reduceLE, Int.reduceToNat, ↓reduceIte, eq_self, wtAll, spaF_at, hrw, hm0, hm2]
         refine ⟨⟨by ((try clear hh_i12); (try clear hh_i19); (try clear hh_i25); omega), by ((try clear hh_i12); (try clear hh_i19); (try clear hh_i25); omega)⟩, by ((try clear hh_i12); (try clear hh_i19); (try clear hh_i25); omega), by ((try clear hh_i12); (try clear hh_i19); (try clear hh_i25); omega), by ((try clear hh_i12); (try clear hh_i19); (try clear hh_i25); omega), ?_⟩
         refine qcall _ ⟨trivial, by simp only [vsAll, okAll, opsA, opA, Nat.reduceEqDiff, ↓reduceIte, eq_self], gspan_tri (donN g hi' l (i + 1)) (donN g lo' l (i + 1)) _⟩ ?_
         have hn1 : decide (donN g tr l (i + 1) < donN g hi' l (i + 1)) = false := decide_eq_false (by ((try clear hh_i12); (try clear hh_i19); (try clear hh_i25); omega))
         have hn2 : decide (donN g lo' l (i + 1) < donN g tr l (i + 1)) = false := decide_eq_false (by ((try clear hh_i12); (try clear hh_i19); (try clear hh_i25); omega))
         simp only [vsAll, binA, binLitA, intA, aggA, loadA, loadRow, partA, partOk, indexAddrA, pickA, opA, guardV, dstOk, Nat.reduceAdd, Nat.reduceLT, Nat.reduceEqDiff, Int.reduceLE, Int.reduceToNat, ↓reduceIte, implies_true, forall_const, eq_self, wtAll, hm0, hm1, hm2, hn1, hn2]
         refine ⟨eq43, by ((try clear hh_i12); (try clear hh_i19); (try clear hh_i25); omega), by ((try clear hh_i12); (try clear hh_i19); (try clear hh_i25); omega), by ((try clear hh_i12); (try clear hh_i19); (try clear hh_i25); omega), by ((try clear hh_i12); (try clear hh_i19); (try clear hh_i25); omega), ?_⟩
         refine vs_draw2 [0, 0, 0, 0, 0, 0, 0, 0, 0, 0, 0, 0, 0] [] [0, 1, 2, 3, 4, 5, 6, 7, 8, 9, 10, 11, 12] (by decide +kernel) ?_
         simp only [vsAll, binA, binLitA, intA, loadA, loadRow, partA, partOk, fieldAddrA, indexAddrA, pickA, opA, guardV, dstOk, Nat.reduceLT, Nat.reduceEqDiff, Int.reduceLE, Int.reduceToNat, ↓reduceIte, implies_true, eq_self, wtAll, hm2, smF_at, eS]
         have hR41 : (decide (chkE g (c : Int) l = 4) && decide ((g.seam n).fl < donN g tr l (i + 1))) = false := by
          by_cases h4 : chkE g (c : Int) l = 4
          ·have hnone : latO g c l = none := by
            rw [e2] at h4
            cases hlo2 : latO g c l with
            | none => rfl
            | some j => rw [hlo2] at h4; simp at h4
           have := lat_none.1 hnone i his
           rw [en, Int.toNat_natCast, hlo'] at this
           rw [decide_eq_false (p := (g.seam n).fl < donN g tr l (i + 1)) (by ((try clear hh_i12); (try clear hh_i19); (try clear hh_i25); omega)), Bool.and_false]
          ·rw [decide_eq_false h4, Bool.false_and]

         refine ⟨fun q => by ((try clear hh_i12); (try clear hh_i19); (try clear hh_i25); omega), fun q => ⟨q, q, by ((try clear hh_i12); (try clear hh_i19); (try clear hh_i25); omega), by ((try clear hh_i12); (try clear hh_i19); (try clear hh_i25); omega)⟩, fun q => ⟨q, by ((try clear hh_i12); (try clear hh_i19); (try clear hh_i25); omega)⟩, ?_⟩
         rw [← hlb]
         refine condV (fun hx => ?_) (fun hx => ?_)
         ·rw [if_pos hx, en] at hls
          simp only [vsAll, opA, dstOk, nilSliceOp, Nat.reduceLT, Nat.reduceEqDiff, Nat.reduceBEq, ↓reduceIte, eq_self]
          refine vs_draw2 [0, 0, 0, 0, 0, 0, 0, 0, 0, 0, 0, 0, 0] [] [0, 1, 2, 3, 4, 5, 6, 7, 8, 9, 10, 11, 12] (by decide +kernel) ?_
          simp only [vsAll, binA, binLitA, intA, loadA, loadRow, partA, partOk, fieldAddrA, indexAddrA, pickA, opA, guardV, dstOk, Nat.reduceLT, Nat.reduceEqDiff, Int.reduceLE, Int.reduceToNat, ↓reduceIte, implies_true, eq_self, wtAll, hm1, smF_at, eS]
          refine ⟨fun q => by ((try clear hh_i12); (try clear hh_i19); (try clear hh_i25); omega), fun q => ⟨q, q, by ((try clear hh_i12); (try clear hh_i19); (try clear hh_i25); omega), by ((try clear hh_i12); (try clear hh_i19); (try clear hh_i25); omega)⟩, fun q => ⟨q, by ((try clear hh_i12); (try clear hh_i19); (try clear hh_i25); omega)⟩, ?_⟩
          rw [hR41]
          simp only [vsAll, binA, binLitA, intA, opA, dstOk, Nat.reduceLT, Nat.reduceEqDiff, ↓reduceIte, eq_self]
          refine ⟨by simp only [InR_i64]; ((try clear hh_i12); (try clear hh_i19); (try clear hh_i25); omega), loop_next (i + 1) his (by ((try clear hh_i12); (try clear hh_i19); (try clear hh_i25); omega)) ?_ ?_⟩
          ·simp only [vsAll, Nat.reduceEqDiff, ↓reduceIte, eq_self, hls, Int.natCast_add, Int.natCast_one]
          ·refine HSub_put (o' := .box 1 3 (mxF g hi' tr lo' l i 3)) (by simp only [vsAll, ↓reduceIte, eq_self]) (box_ext fun q hq => mxF_end g hi' tr lo' l i q hq) ?_
           (repeat (first | exact HSub_rfl | refine HSub_put_eq (by simp only [vsAll, ↓reduceIte, eq_self, hh_i19, hh_i25]) ?_ | refine HSub_drop2 (by simp only [eq_self, hh_i12, hh_i19, hh_i25]) ?_ | refine HSub_keep_eq (by simp only [vsAll, ↓reduceIte, eq_self, reduceCtorEq, Nat.reduceEqDiff, hh_i12, hh_i19, hh_i25]) ?_))
         ·rw [if_neg (by rw [hx]; decide)] at hls
          simp only [vsAll]
          refine vs_draw2 [0, 0, 0, 0, 0, 0, 0, 0, 0, 0, 0, 0, 0] [] [0, 1, 2, 3, 4, 5, 6, 7, 8, 9, 10, 11, 12] (by decide +kernel) ?_
          simp only [vsAll, binA, binLitA, intA, loadA, loadRow, partA, partOk, fieldAddrA, indexAddrA, pickA, opA, guardV, dstOk, Nat.reduceLT, Nat.reduceEqDiff, Int.reduceLE, Int.reduceToNat, ↓reduceIte, implies_true, eq_self, wtAll, hm1, smF_at, eS]
          refine ⟨fun q => by ((try clear hh_i12); (try clear hh_i19); (try clear hh_i25); omega), fun q => ⟨q, q, by ((try clear hh_i12); (try clear hh_i19); (try clear hh_i25); omega), by ((try clear hh_i12); (try clear hh_i19); (try clear hh_i25); omega)⟩, fun q => ⟨q, by ((try clear hh_i12); (try clear hh_i19); (try clear hh_i25); omega)⟩, ?_⟩
          rw [hR41]
          simp only [vsAll, binA, binLitA, intA, opA, dstOk, Nat.reduceLT, Nat.reduceEqDiff, ↓reduceIte, eq_self]
          refine ⟨by simp only [InR_i64]; ((try clear hh_i12); (try clear hh_i19); (try clear hh_i25); omega), loop_next (i + 1) his (by ((try clear hh_i12); (try clear hh_i19); (try clear hh_i25); omega)) ?_ ?_⟩
          ·simp only [vsAll, Nat.reduceEqDiff, ↓reduceIte, eq_self, hls, Int.natCast_add, Int.natCast_one]
          ·refine HSub_put (o' := .box 1 3 (mxF g hi' tr lo' l i 3)) (by simp only [vsAll, ↓reduceIte, eq_self]) (box_ext fun q hq => mxF_end g hi' tr lo' l i q hq) ?_
           (repeat (first | exact HSub_rfl | refine HSub_put_eq (by simp only [vsAll, ↓reduceIte, eq_self, hh_i19, hh_i25]) ?_ | refine HSub_drop2 (by simp only [eq_self, hh_i12, hh_i19, hh_i25]) ?_ | refine HSub_keep_eq (by simp only [vsAll, ↓reduceIte, eq_self, reduceCtorEq, Nat.reduceEqDiff, hh_i12, hh_i19, hh_i25]) ?_))
      ·have ei : i = l.length := by ((try clear hh_i12); (try clear hh_i19); (try clear hh_i25); omega)
       subst ei
       have hlt : lateV g c l l.length = match latO g c l with
        | some j => l.getD j 0
        | none => -1 := rfl
       cases hlo2 : latO g c l with
       | none =>
         have h1 : chkE g (c : Int) l = 4 := by rw [e2, hlo2]; rfl
         have h2 : lateV g c l l.length = -1 := by rw [hlt, hlo2]
         simp only [vsAll, binA, binLitA, intA, boolA, pickA, opA, guardV, dstOk, Nat.reduceLT, Nat.reduceEqDiff, Int.reduceNeg, Int.reduceLE, Int.reduceEq, ↓reduceIte, implies_true, eq_self, wtAll, h1, h2]
         refine gcall (boo true) (fun hg => ⟨by simp only [vsAll, opA], by simp only [okAll, opsA], awake_tri _⟩) ?_
         simp only [vsAll, pickA, opA, dstOk, nilSliceOp, resA, retA.eq_1, Nat.reduceLT, Nat.reduceEqDiff, Nat.reduceBEq, Int.reduceNeg, ↓reduceIte, implies_true, eq_self, Try.results4]
         exact dropR_pure rfl (by (repeat (first | exact HSub_rfl | refine HSub_put_eq (by simp only [vsAll, ↓reduceIte, eq_self, reduceCtorEq, Nat.reduceEqDiff, hh_i12, hh_i19, hh_i25]) ?_ | refine HSub_drop2 (by simp only [eq_self, hh_i12, hh_i19, hh_i25]) ?_ | refine HSub_keep_eq (by simp only [vsAll, ↓reduceIte, eq_self, reduceCtorEq, Nat.reduceEqDiff, hh_i12, hh_i19, hh_i25]) ?_)))
       | some j =>
         have hj := (lat_some.1 hlo2).1
         obtain ⟨n, en, hn⟩ := hin j hj
         have h1 : chkE g (c : Int) l = 0 := by rw [e2, hlo2]; rfl
         have h2 : lateV g c l l.length = (n : Int) := by rw [hlt, hlo2]; exact en
         have h3 : chkV g (c : Int) l = (n : Int) := by rw [hcV, h1, hlo2]; exact en
         have h4 : decide ((0 : Int) ≤ (n : Int)) = true := decide_eq_true (by ((try clear hh_i12); (try clear hh_i19); (try clear hh_i25); omega))
         simp only [vsAll, binA, binLitA, intA, boolA, pickA, opA, guardV, dstOk, Nat.reduceLT, Nat.reduceEqDiff, ↓reduceIte, implies_true, eq_self, wtAll, h1, h2, h3, h4, beq_self_eq_true]
         refine gcall (boo true) (fun hg => ⟨by simp only [vsAll, opA], by simp only [okAll, opsA], awake_tri _⟩) ?_
         simp only [vsAll, pickA, opA, dstOk, nilSliceOp, resA, retA.eq_1, Nat.reduceLT, Nat.reduceEqDiff, Nat.reduceBEq, ↓reduceIte, implies_true, eq_self, Try.results4]
         exact dropR_pure rfl (by (repeat (first | exact HSub_rfl | refine HSub_put_eq (by simp only [vsAll, ↓reduceIte, eq_self, reduceCtorEq, Nat.reduceEqDiff, hh_i12, hh_i19, hh_i25]) ?_ | refine HSub_drop2 (by simp only [eq_self, hh_i12, hh_i19, hh_i25]) ?_ | refine HSub_keep_eq (by simp only [vsAll, ↓reduceIte, eq_self, reduceCtorEq, Nat.reduceEqDiff, hh_i12, hh_i19, hh_i25]) ?_)))
end Go.Proofs.Ytdopkbldjagmlaa
end
section
set_option linter.unusedVariables false
set_option linter.unusedSimpArgs false
set_option maxRecDepth 100000
namespace Go.Proofs.Ytdopkbldjagmlaa
open Go.V Go.ChangeShapes Go.WideShapes Go.ChangeAt Go.RowKit
theorem gang_cells : cellsT Try.prog 9 29 = some [.sl [.int .i64, .int .i64, .int .i64, .int .i64], .sl [.int .i64, .int .i64, .int .i64], .int .i64, .int .i64, .int .i64, .sl [.int .i64], .sl [.int .i64, .int .i64, .int .i64]] := by kernel_rfl
theorem ints_of {av : AV} (h : CKA (.sl [.int .i64]) av) : ∃ l : List Int, l.length ≤ maxLen ∧ AV.Le av (intsAV l) := by
 obtain ⟨l, h1, h2⟩ := told_slice (α := Int) (fun z => [i64 z]) 0 (fun cs hcs => by
  obtain ⟨z, hz, _⟩ := told_int 0 hcs rfl
  exact ⟨z, rfl, fun j hj => by
   match j, hj with
   | 0, _ => rw [hz]; exact AV.Le.refl _⟩) h
 exact ⟨l, h1, h2⟩
theorem seams_of {av : AV} (h : CKA (.sl [.int .i64, .int .i64, .int .i64, .int .i64]) av) : ∃ l : List Sm, l.length ≤ maxLen ∧ AV.Le av (smAV l) := by
 obtain ⟨l, h1, h2⟩ := told_slice (α := Sm) Sm.cs sm0 (fun cs hcs => by
  obtain ⟨a, ha, _⟩ := told_int 0 hcs rfl
  obtain ⟨b, hb, _⟩ := told_int 1 hcs rfl
  obtain ⟨c, hc, _⟩ := told_int 2 hcs rfl
  obtain ⟨d, hd, _⟩ := told_int 3 hcs rfl
  exact ⟨⟨a, b, c, d⟩, rfl, fun j hj => by
   match j, hj with
   | 0, _ => rw [ha]; exact AV.Le.refl _
   | 1, _ => rw [hb]; exact AV.Le.refl _
   | 2, _ => rw [hc]; exact AV.Le.refl _
   | 3, _ => rw [hd]; exact AV.Le.refl _⟩) h
 exact ⟨l, h1, h2⟩
theorem crews_of {av : AV} (h : CKA (.sl [.int .i64, .int .i64, .int .i64]) av) : ∃ l : List Cw, l.length ≤ maxLen ∧ AV.Le av (cwAV l) := by
 obtain ⟨l, h1, h2⟩ := told_slice (α := Cw) Cw.cs cw0 (fun cs hcs => by
  obtain ⟨a, ha, _⟩ := told_int 0 hcs rfl
  obtain ⟨b, hb, _⟩ := told_int 1 hcs rfl
  obtain ⟨c, hc, _⟩ := told_int 2 hcs rfl
  exact ⟨⟨a, b, c⟩, rfl, fun j hj => by
   match j, hj with
   | 0, _ => rw [ha]; exact AV.Le.refl _
   | 1, _ => rw [hb]; exact AV.Le.refl _
   | 2, _ => rw [hc]; exact AV.Le.refl _⟩) h
 exact ⟨l, h1, h2⟩
theorem pots_of {av : AV} (h : CKA (.sl [.int .i64, .int .i64, .int .i64]) av) : ∃ l : List Po, l.length ≤ maxLen ∧ AV.Le av (psAV l) := by
 obtain ⟨l, h1, h2⟩ := told_slice (α := Po) Po.cs po0 (fun cs hcs => by
  obtain ⟨a, ha, _⟩ := told_int 0 hcs rfl
  obtain ⟨b, hb, _⟩ := told_int 1 hcs rfl
  obtain ⟨c, hc, _⟩ := told_int 2 hcs rfl
  exact ⟨⟨a, b, c⟩, rfl, fun j hj => by
   match j, hj with
   | 0, _ => rw [ha]; exact AV.Le.refl _
   | 1, _ => rw [hb]; exact AV.Le.refl _
   | 2, _ => rw [hc]; exact AV.Le.refl _⟩) h
 exact ⟨l, h1, h2⟩
theorem gang_rel {H : Type} {enc : TypeId × Value → H} {W : World} {sp : Nat → Bool} {held : Bool} {v : Value} {d : DataW H} {ps : List MemPlace}
  {base : Nat} (hv : Value.okWide Try.prog W .any base 29 v) (h : DataW.Trod enc Try.prog W 0 sp held 29 v d ps) : ∃ g : Gg, True ∧ VRel (st0 W) g.av v := by
 obtain ⟨cs, hcs, hv⟩ := trod_agg gang_cells (by decide) h
 obtain ⟨sm, l0, h0⟩ := seams_of (hcs.2 0 _ rfl)
 obtain ⟨cw, l1, h1⟩ := crews_of (hcs.2 1 _ rfl)
 obtain ⟨hr, h2, _⟩ := told_int 2 hcs rfl
 obtain ⟨fro, h3, _⟩ := told_int 3 hcs rfl
 obtain ⟨per, h4, _⟩ := told_int 4 hcs rfl
 obtain ⟨fs, l5, h5⟩ := ints_of (hcs.2 5 _ rfl)
 obtain ⟨ps, l6, h6⟩ := pots_of (hcs.2 6 _ rfl)
 refine ⟨⟨sm, cw, ⟨hr, fro, per, fs, ps⟩⟩, trivial, AV.Le.aggD (cs := cs) hcs.1.symm (fun j hj => ?_) _ _ hv⟩
 have hj7 : j < 7 := by have := hcs.1; simp at this; omega
 match j, hj7 with
 | 0, _ => exact h0
 | 1, _ => exact h1
 | 2, _ => rw [h2]; exact AV.Le.refl _
 | 3, _ => rw [h3]; exact AV.Le.refl _
 | 4, _ => rw [h4]; exact AV.Le.refl _
 | 5, _ => exact h5
 | 6, _ => exact h6
theorem Try.own : ownKnob Try.prog.godebug = none := by kernel_rfl
theorem u4 : Try.prog.underlying 4 = some .bool := by kernel_rfl
theorem u5 : Try.prog.underlying 5 = some (.int .u8) := by kernel_rfl
theorem u49 : Try.prog.underlying 49 = some (.slice 5) := by kernel_rfl
theorem wf_u8 {n : Int} (h : (Lit.int .u8 n).wf = true) : 0 ≤ n ∧ n ≤ 255 := by
 simp [Lit.wf, IntKind.min, IntKind.max, IntKind.signed, IntKind.bits] at h
 omega
def iz : Value → Int
 | .int _ n => n
 | _ => 0
theorem by_rel {H : Type} {enc : TypeId × Value → H} {W : World} {sp : Nat → Bool} {held : Bool} {v : Value} {d : DataW H} {ps : List MemPlace} {base : Nat}
  (hv : Value.okWide Try.prog W .any base 49 v) (h : DataW.Trod enc Try.prog W 0 sp held 49 v d ps) : ∃ (N : Nat) (b : Nat → Int), (N < 2 ^ 63 ∧ ∀ i, i < N → 0 ≤ b i ∧ b i ≤ 255) ∧ VRel (st0 W) (.rsl N 1 (byF b)) v := by
 obtain ⟨a, len, cap, rfl⟩ := okWide_slice u49 hv
 obtain ⟨fuel, h⟩ := h
 obtain ⟨n, g, hn, hl, hr⟩ := trod_slice_rel (d := 4) (e := 5) (ks := [.int .u8]) u49 (by decide +kernel) (by decide +kernel) (by decide) (show DataW.trod enc Try.prog W 0 sp held fuel 49 [.slice a len cap] = some (d, ps) from h)
 have key : ∀ i, i < n → ∃ z : Int, g i = [.int .u8 z] ∧ 0 ≤ z ∧ z ≤ 255 := fun i hi => by
  obtain ⟨h1, h2⟩ := hl i hi
  match hg : g i, h1 with
  | [x], _ =>
    obtain ⟨z, rfl, hz⟩ := h2 0 (.int .u8) x rfl (by rw [hg]; rfl)
    refine ⟨z, rfl, ?_⟩
    simp [Lit.wf, IntKind.min, IntKind.max, IntKind.signed, IntKind.bits] at hz
    omega
 have hm : maxLen < 2 ^ 63 := by decide
 refine ⟨n, fun i => iz ((g i).getD 0 undef), ⟨by omega, fun i hi => ?_⟩, AV.Le.rsl (fun i hi => ?_) _ _ hr⟩
 ·obtain ⟨z, e, hz⟩ := key i hi
  simp only [e]; exact hz
 ·obtain ⟨z, e, hz⟩ := key i hi
  simp only [e]; simp only [byF, e]; rfl
end Go.Proofs.Ytdopkbldjagmlaa
end
section
set_option linter.unusedVariables false
set_option linter.unusedSimpArgs false
set_option maxRecDepth 100000
namespace Go.Proofs.Ytdopkbldjagmlaa
open Go.V Go.ChangeShapes Go.WideShapes Go.ChangeAt Go.RowKit
theorem gangTrue_lifted (os : Os) (started : os.Started) (H : Type) (enc : TypeId × Value → H) :
  ReturnsInHanded {} Try.checked os 4 .any (Rows.gangTrueSpec.pre6 enc Try.prog Try.f4 Rows.gangTrueRow.domain false) (Rows.gangTrueSpec.post enc Try.prog Try.f4 false true false false) := by
 refine returnsInHanded_of_change (C := Try.checked) Try.own started (by kernel_rfl) Try.func4
  (ChangeSpec.witness6 (enc := enc) (C := Try.checked) false ⟨#[], #[.agg #[.slice none 0 0, .slice none 0 0, .int .i64 0, .int .i64 0, .int .i64 0, .slice none 0 0, .slice none 0 0], .int .u8 0, .int .u8 0, .slice none 0 0, .int .u8 0], []⟩ 8 (by kernel_rfl) (by kernel_rfl) (by kernel_rfl) (by kernel_rfl)) ?_
 intro W base args ds gs before hval hW hcnd _
 have hW' := hW
 obtain ⟨p, q, hA, hV, rfl, hfz, hnd⟩ := hW
 obtain ⟨rfl, rfl⟩ := trodVars_none hV
 rw [show Try.f4.params.toList = [29, 5, 5, 49, 5] from by kernel_rfl] at hA
 obtain ⟨v0, v1, v2, v3, v4, d0, d1, d2, d3, d4, p0, p1, p2, p3, p4, rfl, rfl, rfl, h0, h1, h2, h3, h4⟩ := trodAll_five hA
 have hval : ∀ (j : Nat) t v, Try.f4.params[j]? = some t → (#[v0, v1, v2, v3, v4] : Array Value)[j]? = some v → Value.okWide Try.prog W .any base t v := hval
 rw [show Try.f4.params = #[29, 5, 5, 49, 5] from by kernel_rfl] at hval
 obtain ⟨x0, b0, r0⟩ := gang_rel (hval 0 29 v0 rfl rfl) h0
 obtain ⟨x1, rfl, rfl, rfl, w1⟩ := open_int u5 (hval 1 5 v1 rfl rfl) h1
 obtain ⟨x2, rfl, rfl, rfl, w2⟩ := open_int u5 (hval 2 5 v2 rfl rfl) h2
 obtain ⟨N3, x3, b3, r3⟩ := by_rel (hval 3 49 v3 rfl rfl) h3
 obtain ⟨x4, rfl, rfl, rfl, w4⟩ := open_int u5 (hval 4 5 v4 rfl rfl) h4
 refine (law_calls (W := W) (args := #[v0, .int .u8 x1, .int .u8 x2, v3, .int .u8 x4]) Try.func4 (by kernel_rfl) rfl (Tri.mono (true_law x0 x1 x2 N3 x3 x4 H0 (wf_u8 w1) (wf_u8 w2) b3 (wf_u8 w4)) ?_) (fun p hp => by cases hp) ⟨rfl, fun k hk => match k, hk with | 0, _ => r0 | 1, _ => .lit _ | 2, _ => .lit _ | 3, _ => r3 | 4, _ => .lit _⟩).mono fun e W' he => ?_
 ·rintro r H' ⟨rfl, _⟩; rfl
 ·obtain ⟨rfl, hh, ho, hp⟩ := he
  exact ⟨_, rfl, law_post (d := 6) rfl (tb := 4) (by kernel_rfl) u4 (by decide +kernel) hW' rfl hh ho hp⟩

theorem gangTrue_holds : Rows.GangTrueSaid :=
 OpenClaim.holds_of_wide (p := Try.pinned) (s := Rows.gangTrueSpec) (c := Rows.gangTrueRow) 4 Try.f4 rfl rfl rfl rfl rfl rfl rfl ⟨rfl, rfl, rfl, rfl, rfl⟩ rfl rfl rfl rfl rfl (by kernel_rfl) Try.func4 (by kernel_rfl)
  (of_decide_eq_true (by kernel_rfl)) (by unfold Func.isWrapper; first | (rw [if_pos (by decide +kernel)]; kernel_rfl) | (rw [if_neg (by decide +kernel)]; exact ⟨rfl, rfl⟩))
  (fun os started H enc _ => gangTrue_lifted os started H enc)

end Go.Proofs.Ytdopkbldjagmlaa
end
