/- Helper lemmas of this claim, part 1. -/
import Derived.CallsIn
import Derived.RangeFuncIn
import Derived.WalkKit
import Derived.Maps.Keyed
import Derived.Laws.CopyRow
import Derived.Laws.IdiomCopy
section
namespace Go.V
/-- Abstract values: they carry the data of memory that is never written again, and name (by a number) memory that may be. -/
inductive AV where
 | lit (v : Value)
 | agg (cs : List AV)
 | arr (n st : Nat) (f : Nat → List AV)
 | tuple (vs : List AV)
 | rptr (n st : Nat) (f : Nat → List AV) (i j : Nat)
 | rsl (n st : Nat) (f : Nat → List AV)
 | ref (id g st i j : Nat)
 | sl (id st len : Nat)
 | vw (id st off len : Nat)
 | map (id : Nat)
 | func (fn : Fn) (first caps : List AV)
 | iface (t : TypeId) (v : AV)
 | zp (t : TypeId)
 | tp (t : TypeId) (v : AV)
 | under (g : Bool) (v : AV)
 | any

/-- Where a named piece of memory lies. -/
inductive Loc where
 | unk
 | nil
 | blk (b : Nat)

structure St where
 w : World
 imm : Nat → Prop
 loc : Nat → Nat → Loc
 next : Nat

inductive VRel (S : St) : AV → Value → Prop
 | lit (v : Value) : VRel S (.lit v) v
 | any (v : Value) : VRel S .any v
 | under {g : Bool} {av : AV} {v : Value} (h : g = true → VRel S av v) (hu : g = false → v = undef) : VRel S (.under g av) v
 | agg {cs : List AV} {vs : Array Value} (hn : vs.size = cs.length) (h : ∀ k, k < cs.length → VRel S (cs.getD k .any) (vs.getD k undef)) :
   VRel S (.agg cs) (.agg vs)
 | tuple {cs : List AV} {vs : Array Value} (hn : vs.size = cs.length) (h : ∀ k, k < cs.length → VRel S (cs.getD k .any) (vs.getD k undef)) :
   VRel S (.tuple cs) (.tuple vs)
 | arr {n st : Nat} {f : Nat → List AV} {vs : Array Value} (hn : vs.size = n * st) (hf : ∀ i, i < n → (f i).length = st)
   (h : ∀ i j, i < n → j < st → VRel S ((f i).getD j .any) (vs.getD (i * st + j) undef)) : VRel S (.arr n st f) (.agg vs)
 | rptr {n st : Nat} {f : Nat → List AV} {i j b off : Nat} {c : Array Value} {e : TypeId} {fz : Nat × Nat}
   (hi : S.imm b) (hb : S.w.heap[b]? = some (.cells c e fz)) (hsz : off + n * st ≤ c.size) (hf : ∀ i, i < n → (f i).length = st)
   (h : ∀ i j, i < n → j < st → VRel S ((f i).getD j .any) (c.getD (off + i * st + j) undef)) :
   VRel S (.rptr n st f i j) (.pointer (some ⟨b, off + i * st + j, none⟩))
 | rsl0 {st : Nat} {f : Nat → List AV} {a : Option Addr} {cap : Nat} : VRel S (.rsl 0 st f) (.slice a 0 cap)
 | rsl {n st : Nat} {f : Nat → List AV} {b off cap : Nat} {c : Array Value} {e : TypeId} {fz : Nat × Nat}
   (hi : S.imm b) (hb : S.w.heap[b]? = some (.cells c e fz)) (hsz : off + n * st ≤ c.size) (hf : ∀ i, i < n → (f i).length = st)
   (h : ∀ i j, i < n → j < st → VRel S ((f i).getD j .any) (c.getD (off + i * st + j) undef)) (hcap : n ≤ cap) :
   VRel S (.rsl n st f) (.slice (some ⟨b, off, none⟩) n cap)
 | ref {id g st i j b : Nat} (hl : S.loc id g = .blk b) : VRel S (.ref id g st i j) (.pointer (some ⟨b, i * st + j, none⟩))
 | sl {id st len b cap : Nat} {c : Array Value} {e : TypeId} {fz : Nat × Nat} (hl : S.loc id len = .blk b)
   (hb : S.w.heap[b]? = some (.cells c e fz)) (hc : cap * st ≤ c.size) (hlen : len ≤ cap) : VRel S (.sl id st len) (.slice (some ⟨b, 0, none⟩) len cap)
 | slnil {id st : Nat} (hl : S.loc id 0 = .nil) : VRel S (.sl id st 0) (.slice none 0 0)
 | vw {id st off len b cap : Nat} (hl : S.loc id 0 = .blk b) : VRel S (.vw id st off len) (.slice (some ⟨b, off * st, none⟩) len cap)
 | vw0 {id st off cap : Nat} {a : Option Addr} : VRel S (.vw id st off 0) (.slice a 0 cap)
 | map {id b : Nat} (hl : S.loc id 0 = .blk b) : VRel S (.map id) (.map (some b))
 | func {fn : Fn} {first caps : List AV} {vs ws : Array Value} (hn : vs.size = first.length) (hm : ws.size = caps.length)
   (h : ∀ k, k < first.length → VRel S (first.getD k .any) (vs.getD k undef)) (h' : ∀ k, k < caps.length → VRel S (caps.getD k .any) (ws.getD k undef)) :
   VRel S (.func fn first caps) (.func fn vs ws)
 | iface {t : TypeId} {av : AV} {v : Value} (h : VRel S av v) : VRel S (.iface t av) (.iface t v)
 | zp {t : TypeId} {b : Nat} {c : Array Value} {fz : Nat × Nat} (hi : S.imm b) (hb : S.w.heap[b]? = some (.cells c t fz)) : VRel S (.zp t) (.pointer (some ⟨b, 0, none⟩))
 | tp {t : TypeId} {av : AV} {b : Nat} {c : Array Value} {fz : Nat × Nat} (h : VRel S av (.pointer (some ⟨b, 0, none⟩))) (hi : S.imm b) (hb : S.w.heap[b]? = some (.cells c t fz)) :
   VRel S (.tp t av) (.pointer (some ⟨b, 0, none⟩))

/-- What never changes from one state to a later one. -/
structure Le (S S' : St) : Prop where
 os : S'.w.os = S.w.os
 tape : S'.w.tape = S.w.tape
 output : S'.w.output = S.w.output
 size : S.w.heap.size ≤ S'.w.heap.size
 imm : ∀ b, S.imm b → S'.imm b
 keep : ∀ b, S.imm b → S'.w.heap[b]? = S.w.heap[b]?
 loc : ∀ i g, S.loc i g ≠ .unk → S'.loc i g = S.loc i g
 next : S.next ≤ S'.next
 csize : ∀ (b : Nat) (c : Array Value) (e : TypeId) (fz : Nat × Nat), S.w.heap[b]? = some (.cells c e fz) → ∃ c', S'.w.heap[b]? = some (.cells c' e fz) ∧ c'.size = c.size

theorem Le.refl (S : St) : Le S S :=
 ⟨rfl, rfl, rfl, Nat.le_refl _, fun _ h => h, fun _ _ => rfl, fun _ _ _ => rfl, Nat.le_refl _, fun _ c _ _ h => ⟨c, h, rfl⟩⟩

theorem Le.trans {A B C : St} (h : Le A B) (k : Le B C) : Le A C where
 os := k.os.trans h.os
 tape := k.tape.trans h.tape
 output := k.output.trans h.output
 size := Nat.le_trans h.size k.size
 imm := fun b hb => k.imm b (h.imm b hb)
 keep := fun b hb => (k.keep b (h.imm b hb)).trans (h.keep b hb)
 loc := fun i g hu => by
  have e := h.loc i g hu
  rw [k.loc i g (by rw [e]; exact hu), e]
 next := Nat.le_trans h.next k.next
 csize := fun b c e fz hb => by
  obtain ⟨c1, h1, s1⟩ := h.csize b c e fz hb
  obtain ⟨c2, h2, s2⟩ := k.csize b c1 e fz h1
  exact ⟨c2, h2, s2.trans s1⟩

theorem Le.locBlk {S S' : St} (h : Le S S') {i g b : Nat} (hl : S.loc i g = .blk b) : S'.loc i g = .blk b := by
 rw [h.loc i g (by rw [hl]; intro x; cases x), hl]

theorem Le.locNil {S S' : St} (h : Le S S') {i g : Nat} (hl : S.loc i g = .nil) : S'.loc i g = .nil := by
 rw [h.loc i g (by rw [hl]; intro x; cases x), hl]

theorem VRel.mono {S S' : St} (h : Le S S') {av : AV} {v : Value} (r : VRel S av v) : VRel S' av v := by
 induction r with
 | lit v => exact .lit v
 | any v => exact .any v
 | under _ hu ih => exact .under ih hu
 | agg hn _ ih => exact .agg hn ih
 | tuple hn _ ih => exact .tuple hn ih
 | arr hn hf _ ih => exact .arr hn hf ih
 | rptr hi hb hsz hf _ ih => exact .rptr (h.imm _ hi) ((h.keep _ hi).trans hb) hsz hf ih
 | rsl0 => exact .rsl0
 | rsl hi hb hsz hf _ hcap ih => exact .rsl (h.imm _ hi) ((h.keep _ hi).trans hb) hsz hf ih hcap
 | ref hl => exact .ref (h.locBlk hl)
 | sl hl hb hc hlen =>
   obtain ⟨c', hb', hs⟩ := h.csize _ _ _ _ hb
   exact .sl (h.locBlk hl) hb' (by rw [hs]; exact hc) hlen
 | slnil hl => exact .slnil (h.locNil hl)
 | vw hl => exact .vw (h.locBlk hl)
 | vw0 => exact .vw0
 | map hl => exact .map (h.locBlk hl)
 | func hn hm _ _ ih ih' => exact .func hn hm ih ih'
 | iface _ ih => exact .iface ih
 | zp hi hb => exact .zp (h.imm _ hi) ((h.keep _ hi).trans hb)
 | tp _ hi hb ih => exact .tp ih (h.imm _ hi) ((h.keep _ hi).trans hb)

/-- What is given of the world's variables (in no chapter's walk but where a table of the library is read). -/
structure GivT where
 l : List (AV × Value)

end Go.V
end
section
set_option linter.unusedVariables false
namespace Go.V
set_option linter.unusedSectionVars false
variable [Inhabited GivT]
abbrev Fr := Nat → AV

inductive Obj where
 | box (st n : Nat) (f : Nat → List AV)
 | row (st n : Nat) (f : Nat → List AV)
 | memo (F : Value → Value → Prop)
 | raw (o : Go.Obj)
 | loop (l n : Nat) (s : Fr) (ps : Array Tmp) (assign body : Code) (st : LoopState) (pend : Option Code) (did : Nat)
 | iter (mid since : Nat) (seen : Array Nat) (c0 : Nat)

abbrev Hp := Nat → Option Obj

def Hp.set (H : Hp) (i : Nat) (o : Obj) : Hp := fun j => if j = i then some o else H j
def Hp.del (H : Hp) (i : Nat) : Hp := fun j => if j = i then none else H j
def put (s : Fr) (d : Option Tmp) (v : AV) : Fr := match d with
 | some d => fun j => if j = d then v else s j
 | none => s

theorem Hp.set_same (H : Hp) (i : Nat) (o : Obj) : (H.set i o) i = some o := by simp [Hp.set]
theorem Hp.set_ne (H : Hp) {i j : Nat} (o : Obj) (h : j ≠ i) : (H.set i o) j = H j := by simp [Hp.set, h]
theorem Hp.del_ne (H : Hp) {i j : Nat} (h : j ≠ i) : (H.del i) j = H j := by simp [Hp.del, h]
theorem Hp.set_set (H : Hp) (i : Nat) (o o' : Obj) : (H.set i o).set i o' = H.set i o' := by funext j; simp [Hp.set]; split <;> rfl
theorem Hp.del_set (H : Hp) (i : Nat) (o : Obj) : (H.set i o).del i = H.del i := by funext j; simp only [Hp.set, Hp.del]; split <;> rfl
theorem Hp.del_none (H : Hp) (i : Nat) (h : H i = none) : H.del i = H := by funext j; simp [Hp.del]; intro e; rw [e, h]

/-- The generation at which an object lies: a row at its length, all else at 0. -/
def Obj.gen : Obj → Nat
 | .row _ n _ => n
 | _ => 0

/-- The cells of a block hold n elements of st cells. -/
def CellsAre (S : St) (c : Array Value) (st n : Nat) (f : Nat → List AV) : Prop :=
 n * st ≤ c.size ∧ (∀ i, i < n → (f i).length = st) ∧ ∀ i j, i < n → j < st → VRel S ((f i).getD j .any) (c.getD (i * st + j) undef)

def FRel (S : St) (s : Fr) (a : Act) : Prop := ∀ t, VRel S (s t) (a.tmps.getD t undef)

def OkObj (S : St) (i : Nat) : Obj → Prop
 | .box st n f => ∃ b c e, S.loc i 0 = .blk b ∧ S.w.heap[b]? = some (.cells c e (0, 0)) ∧ ¬ S.imm b ∧ CellsAre S c st n f
 | .row st n f => (∀ g, n < g → S.loc i g = .unk) ∧
   ((n = 0 ∧ S.loc i 0 = .nil) ∨
    ∃ b c e, S.loc i n = .blk b ∧ S.w.heap[b]? = some (.cells c e (0, 0)) ∧ ¬ S.imm b ∧ CellsAre S c st n f)
 | .memo F => ∃ b es k, S.loc i 0 = .blk b ∧ S.w.heap[b]? = some (.map es k) ∧ ¬ S.imm b ∧ (∀ x ∈ es.toList, F x.key x.val) ∧ es.toList.Pairwise fun x y => x.key ≠ y.key
 | .raw o => ∃ b, S.loc i 0 = .blk b ∧ S.w.heap[b]? = some o ∧ (∀ c e fz, o ≠ .cells c e fz) ∧ ¬ S.imm b
 | .loop l n s ps assign body st pend did => S.loc i 0 = .blk l ∧ ¬ S.imm l ∧ ∃ fn tmps D, S.w.heap[l]? = some (.loop { state := st, pending := pend, fn, tmps, params := ps, assign, body, defers := D }) ∧
   tmps.size = n ∧ FRel S s { tmps, defers := [] } ∧ S.loc did 0 = .blk D
 | .iter mid since seen c0 => ∃ r b, S.loc i 0 = .blk r ∧ S.loc mid 0 = .blk b ∧ S.w.heap[r]? = some (.mapIter (some b) since seen c0) ∧ ¬ S.imm r

structure HRel (S : St) (H : Hp) : Prop where
 fresh : ∀ i, S.next ≤ i → H i = none ∧ ∀ g, S.loc i g = .unk
 immlt : ∀ b, S.imm b → b < S.w.heap.size
 obj : ∀ i o, H i = some o → OkObj S i o
 inj : ∀ i j o o' b, H i = some o → H j = some o' → S.loc i o.gen = .blk b → S.loc j o'.gen = .blk b → i = j
 giv : ∀ p ∈ (default : GivT).l, VRel S p.1 p.2

/-- Deferred calls: the mark of a loop over a function, or a call of a function. -/
inductive AD where
 | mark (id : Nat)
 | call (f : FuncId) (args : List AV)

def VRels (S : St) (avs : List AV) (vs : List Value) : Prop := vs.length = avs.length ∧ ∀ k, k < avs.length → VRel S (avs.getD k .any) (vs.getD k undef)

inductive DRel (S : St) : List AD → List Deferred → Prop
 | nil : DRel S [] []
 | mark {id D : Nat} {ds : List AD} {df : List Deferred} (hl : S.loc id 0 = .blk D) (h : DRel S ds df) :
   DRel S (.mark id :: ds) ({ target := .collected D, args := #[] } :: df)
 | call {f : FuncId} {args : List AV} {vs us : Array Value} {ds : List AD} {df : List Deferred} (ha : VRels S args (vs ++ us).toList) (h : DRel S ds df) :
   DRel S (.call f args :: ds) ({ target := .fn (.func f) us, args := vs } :: df)

theorem VRels.mono {S S' : St} (h : Le S S') {avs : List AV} {vs : List Value} (r : VRels S avs vs) : VRels S' avs vs :=
 ⟨r.1, fun k hk => (r.2 k hk).mono h⟩

theorem FRel.mono {S S' : St} (h : Le S S') {s : Fr} {a : Act} (r : FRel S s a) : FRel S' s a := fun t => (r t).mono h

theorem DRel.mono {S S' : St} (h : Le S S') {ds : List AD} {df : List Deferred} (r : DRel S ds df) : DRel S' ds df := by
 induction r with
 | nil => exact .nil
 | mark hl _ ih => exact .mark (h.locBlk hl) ih
 | call ha _ ih => exact .call (ha.mono h) ih

/-- The ways in which code is left. -/
inductive XE where
 | normal
 | exit (id : Nat)
 | ret
 | pan (v : AV)

def XRel (S : St) : Exit → XE → Prop
 | .normal, .normal => True
 | .exit i, .exit j => i = j
 | .ret, .ret => True
 | .panic ch, .pan av => ∃ v, ch = [{ v, recovered := false }] ∧ VRel S av v
 | _, _ => False

abbrev Post := XE → Fr → List AD → Hp → Prop

/-- What a walk's end must give, in the model's own terms. -/
def Lift (S : St) (n : Nat) (Q : Post) (e : Exit) (a : Act) (w : World) : Prop :=
 ∃ S' x s ds H, S'.w = w ∧ Le S S' ∧ HRel S' H ∧ FRel S' s a ∧ DRel S' ds a.defers ∧ a.tmps.size = n ∧ XRel S' e x ∧ Q x s ds H

abbrev FW (r : Option Nat) : Fence := { Fence.wide with round := r }

/-- Code, from an abstract state on, is left as Q says. -/
def WPS (r : Option Nat) (P : Program) (n : Nat) (c : Code) (s : Fr) (ds : List AD) (H : Hp) (Q : Post) : Prop :=
 ∀ S a, a.tmps.size = n → HRel S H → FRel S s a → DRel S ds a.defers → c.wpIn (FW r) 0 P (Lift S n Q) a S.w

section rules
variable {r : Option Nat} {P : Program} {n : Nat} {s : Fr} {ds : List AD} {H : Hp} {Q : Post}
theorem Lift.trans {S S' : St} {n : Nat} {e : Exit} {a : Act} {w : World} (h : Le S S') (k : Lift S' n Q e a w) : Lift S n Q e a w := by
 obtain ⟨S2, x, s2, ds2, H2, h1, h2, h3⟩ := k
 exact ⟨S2, x, s2, ds2, H2, h1, h.trans h2, h3⟩

theorem WPS.mono {c : Code} {Q' : Post} (h : WPS r P n c s ds H Q) (hq : ∀ x s ds H, Q x s ds H → Q' x s ds H) : WPS r P n c s ds H Q' :=
 fun S a hn hH hF hD => wpIn_mono (h S a hn hH hF hD) fun e a' w' ⟨S2, x, s2, ds2, H2, h1, h2, h3, h4, h5, h6, h7, h8⟩ =>
  ⟨S2, x, s2, ds2, H2, h1, h2, h3, h4, h5, h6, h7, hq _ _ _ _ h8⟩

theorem wps_skip (h : Q .normal s ds H) : WPS r P n .skip s ds H Q := fun S a hn hH hF hD =>
 wpIn_skip ⟨S, .normal, s, ds, H, rfl, Le.refl S, hH, hF, hD, hn, trivial, h⟩

theorem wps_label {l : Nat} (h : Q .normal s ds H) : WPS r P n (.label l) s ds H Q := fun S a hn hH hF hD =>
 wpIn_label ⟨S, .normal, s, ds, H, rfl, Le.refl S, hH, hF, hD, hn, trivial, h⟩

theorem wps_ret (h : Q .ret s ds H) : WPS r P n .ret s ds H Q := fun S a hn hH hF hD =>
 wpIn_ret ⟨S, .ret, s, ds, H, rfl, Le.refl S, hH, hF, hD, hn, trivial, h⟩

theorem wps_exit {id : Nat} (h : Q (.exit id) s ds H) : WPS r P n (.exit id) s ds H Q := fun S a hn hH hF hD =>
 wpIn_exit ⟨S, .exit id, s, ds, H, rfl, Le.refl S, hH, hF, hD, hn, rfl, h⟩

/-- What follows code that is left normally. -/
def Post.thn (K : Fr → List AD → Hp → Prop) (Q : Post) : Post := fun x s ds H => match x with
 | .normal => K s ds H
 | x => Q x s ds H

theorem wps_seq {x y : Code} (h : WPS r P n x s ds H (Post.thn (fun s ds H => WPS r P n y s ds H Q) Q)) : WPS r P n (.seq x y) s ds H Q := by
 intro S a hn hH hF hD
 refine wpIn_seq (wpIn_mono (h S a hn hH hF hD) ?_)
 rintro e a1 w1 ⟨S1, x1, s1, ds1, H1, rfl, hle, hH1, hF1, hD1, hsz, hx, hq⟩
 have key : ∀ (x1 : XE), XRel S1 e x1 → Post.thn (fun s ds H => WPS r P n y s ds H Q) Q x1 s1 ds1 H1 → Exit.then (y.wpIn (FW r) 0 P (Lift S n Q)) (Lift S n Q) e a1 S1.w := by
  intro x1 hx hq
  cases e with
  | normal =>
    cases x1 <;> simp [XRel] at hx
    exact wpIn_mono (hq S1 a1 hsz hH1 hF1 hD1) fun e2 a2 w2 k => k.trans hle
  | exit i => cases x1 <;> simp [XRel] at hx; exact ⟨S1, _, s1, ds1, H1, rfl, hle, hH1, hF1, hD1, hsz, by simpa [XRel] using hx, hq⟩
  | goto l => cases x1 <;> simp [XRel] at hx
  | ret => cases x1 <;> simp [XRel] at hx; exact ⟨S1, .ret, s1, ds1, H1, rfl, hle, hH1, hF1, hD1, hsz, trivial, hq⟩
  | panic ch => cases x1 <;> simp [XRel] at hx; exact ⟨S1, _, s1, ds1, H1, rfl, hle, hH1, hF1, hD1, hsz, by simpa [XRel] using hx, hq⟩
  | outgrown => cases x1 <;> simp [XRel] at hx
 exact key x1 hx hq

def Post.inBlk (id : Nat) (Q : Post) : Post := fun x s ds H => match x with
 | .exit i => if i = id then Q .normal s ds H else Q (.exit i) s ds H
 | x => Q x s ds H

theorem wps_block {id : Nat} {c : Code} (h : WPS r P n c s ds H (Post.inBlk id Q)) : WPS r P n (.block id c) s ds H Q := by
 intro S a hn hH hF hD
 refine wpIn_block (wpIn_mono (h S a hn hH hF hD) ?_)
 rintro e a1 w1 ⟨S1, x1, s1, ds1, H1, rfl, hle, hH1, hF1, hD1, hsz, hx, hq⟩
 cases e with
 | exit i =>
   cases x1 <;> simp [XRel] at hx
   subst hx
   simp only [Exit.inBlock, Post.inBlk] at hq ⊢
   split
   ·rename_i he
    rw [if_pos he] at hq
    exact ⟨S1, .normal, s1, ds1, H1, rfl, hle, hH1, hF1, hD1, hsz, trivial, hq⟩
   ·rename_i he
    rw [if_neg he] at hq
    exact ⟨S1, .exit i, s1, ds1, H1, rfl, hle, hH1, hF1, hD1, hsz, rfl, hq⟩
 | normal => cases x1 <;> simp [XRel] at hx; exact ⟨S1, .normal, s1, ds1, H1, rfl, hle, hH1, hF1, hD1, hsz, trivial, hq⟩
 | goto l => cases x1 <;> simp [XRel] at hx
 | ret => cases x1 <;> simp [XRel] at hx; exact ⟨S1, .ret, s1, ds1, H1, rfl, hle, hH1, hF1, hD1, hsz, trivial, hq⟩
 | panic ch => cases x1 <;> simp [XRel] at hx; exact ⟨S1, _, s1, ds1, H1, rfl, hle, hH1, hF1, hD1, hsz, by simpa [XRel] using hx, hq⟩
 | outgrown => cases x1 <;> simp [XRel] at hx

/-- What is asked where a test was taken. -/
def opA (s : Fr) : Operand → AV
 | .tmp t => s t
 | .const v => .lit v
 | .global _ => .any
 | .func f => .func (.func f) [] []

theorem opA_rel {S : St} {a : Act} (hF : FRel S s a) (x : Operand) : VRel S (opA s x) (a.eval x) := by
 cases x with
 | tmp t => exact hF t
 | const v => exact .lit v
 | global g => exact .any _
 | func f => exact .func rfl rfl (fun k hk => absurd hk (by simp)) (fun k hk => absurd hk (by simp))

end rules
end Go.V
end
section
set_option linter.unusedVariables false
namespace Go.V
set_option linter.unusedSectionVars false
variable [Inhabited GivT]
/-- A state may be seen as another one (what is not needed is forgotten; memory that is written no more is known by its data). -/
def Ent (s : Fr) (ds : List AD) (H : Hp) (K : Fr → List AD → Hp → Prop) : Prop :=
 ∀ S (a : Act), HRel S H → FRel S s a → DRel S ds a.defers →
   ∃ S' s' ds' H', S'.w = S.w ∧ Le S S' ∧ HRel S' H' ∧ FRel S' s' a ∧ DRel S' ds' a.defers ∧ K s' ds' H'

def AV.Le (x y : AV) : Prop := ∀ S v, VRel S x v → VRel S y v
theorem AV.Le.refl (x : AV) : AV.Le x x := fun _ _ h => h
theorem AV.Le.any (x : AV) : AV.Le x .any := fun _ _ _ => .any _
theorem AV.Le.of_eq {x y : AV} (h : x = y) : AV.Le x y := h ▸ .refl x
theorem AV.Le.rsl {n st : Nat} {f g : Nat → List AV} (h : ∀ i, i < n → f i = g i) : AV.Le (.rsl n st f) (.rsl n st g) := by
 intro S v hv
 cases hv with
 | rsl0 => exact .rsl0
 | rsl hi hb hsz hf hh hcap => exact .rsl hi hb hsz (fun i hi' => (h i hi') ▸ hf i hi') (fun i j hi' hj => (h i hi') ▸ hh i j hi' hj) hcap
theorem AV.Le.rsl' {n m st : Nat} {f g : Nat → List AV} (e : n = m) (h : ∀ i, i < n → f i = g i) : AV.Le (.rsl n st f) (.rsl m st g) := e ▸ .rsl h
theorem AV.Le.rptr {n st : Nat} {f g : Nat → List AV} {i j : Nat} (h : ∀ i, i < n → f i = g i) : AV.Le (.rptr n st f i j) (.rptr n st g i j) := by
 intro S v hv
 cases hv with
 | rptr hi hb hsz hf hh => exact .rptr hi hb hsz (fun i hi' => (h i hi') ▸ hf i hi') (fun i j hi' hj => (h i hi') ▸ hh i j hi' hj)
theorem AV.Le.arr {n st : Nat} {f g : Nat → List AV} (h : ∀ i, i < n → f i = g i) : AV.Le (.arr n st f) (.arr n st g) := by
 intro S v hv
 cases hv with
 | arr hn hf hh => exact .arr hn (fun i hi' => (h i hi') ▸ hf i hi') (fun i j hi' hj => (h i hi') ▸ hh i j hi' hj)

/-- What one object says, another one says. -/
def Obj.Le (o o' : Obj) : Prop := o.gen = o'.gen ∧ ∀ S i, OkObj S i o → OkObj S i o'
theorem Obj.Le.refl (o : Obj) : Obj.Le o o := ⟨rfl, fun _ _ h => h⟩
theorem CellsAre.congr {S : St} {c : Array Value} {st n : Nat} {f g : Nat → List AV} (h : ∀ i, i < n → f i = g i) (k : CellsAre S c st n f) : CellsAre S c st n g :=
 ⟨k.1, fun i hi => (h i hi) ▸ k.2.1 i hi, fun i j hi hj => (h i hi) ▸ k.2.2 i j hi hj⟩
theorem Obj.Le.row {st n : Nat} {f g : Nat → List AV} (h : ∀ i, i < n → f i = g i) : Obj.Le (.row st n f) (.row st n g) :=
 ⟨rfl, fun S i ⟨h1, h2⟩ => ⟨h1, h2.imp id fun ⟨b, c, e, a1, a2, a3, a4⟩ => ⟨b, c, e, a1, a2, a3, a4.congr h⟩⟩⟩
theorem Obj.Le.box {st n : Nat} {f g : Nat → List AV} (h : ∀ i, i < n → f i = g i) : Obj.Le (.box st n f) (.box st n g) :=
 ⟨rfl, fun S i ⟨b, c, e, a1, a2, a3, a4⟩ => ⟨b, c, e, a1, a2, a3, a4.congr h⟩⟩

/-- A heap of which no more is said. -/
def HSub (H H' : Hp) : Prop := ∀ i o', H' i = some o' → ∃ o, H i = some o ∧ Obj.Le o o'
theorem HSub.refl (H : Hp) : HSub H H := fun _ o h => ⟨o, h, .refl o⟩
theorem HSub.set {H H' : Hp} {i : Nat} {o o' : Obj} (h : HSub H H') (ho : Obj.Le o o') : HSub (H.set i o) (H'.set i o') := by
 intro j x hx
 by_cases e : j = i
 ·subst e; rw [Hp.set_same] at hx; cases hx; exact ⟨o, Hp.set_same _ _ _, ho⟩
 ·rw [Hp.set_ne _ _ e] at hx; obtain ⟨y, h1, h2⟩ := h j x hx; exact ⟨y, by rw [Hp.set_ne _ _ e]; exact h1, h2⟩
theorem HSub.drop {H H' : Hp} {i : Nat} {o : Obj} (h : HSub H H') (hn : H i = none) : HSub (H.set i o) H' := by
 intro j x hx
 obtain ⟨y, h1, h2⟩ := h j x hx
 by_cases e : j = i
 ·subst e; rw [hn] at h1; cases h1
 ·exact ⟨y, by rw [Hp.set_ne _ _ e]; exact h1, h2⟩
theorem HSub.trans {A B C : Hp} (h : HSub A B) (k : HSub B C) : HSub A C := by
 intro i o ho
 obtain ⟨o1, h1, l1⟩ := k i o ho
 obtain ⟨o2, h2, l2⟩ := h i o1 h1
 exact ⟨o2, h2, l2.1.trans l1.1, fun S j x => l1.2 S j (l2.2 S j x)⟩

theorem HRel.sub {S : St} {H H' : Hp} (h : HRel S H) (k : HSub H H') : HRel S H' where
 fresh := fun i hi => ⟨by
  cases e : H' i with
  | none => rfl
  | some o => (obtain ⟨o', h1, _⟩ := k i o e; rw [(h.fresh i hi).1] at h1; cases h1), (h.fresh i hi).2⟩
 immlt := h.immlt
 obj := fun i o ho => by obtain ⟨o', h1, h2⟩ := k i o ho; exact h2.2 S i (h.obj i o' h1)
 inj := fun i j o o' b ho ho' hb hb' => by
  obtain ⟨p, h1, h2⟩ := k i o ho
  obtain ⟨p', h1', h2'⟩ := k j o' ho'
  exact h.inj i j p p' b h1 h1' (by rw [h2.1]; exact hb) (by rw [h2'.1]; exact hb')
 giv := h.giv

/-- A frame of which some slots are known. -/
def Fr.of : List (Nat × AV) → Fr
 | [] => fun _ => .any
 | (i, v) :: l => fun t => if t = i then v else Fr.of l t

theorem Ent.ret {s : Fr} {ds : List AD} {H : Hp} {K : Fr → List AD → Hp → Prop} (h : K s ds H) : Ent s ds H K :=
 fun S a hH hF hD => ⟨S, s, ds, H, rfl, Le.refl S, hH, hF, hD, h⟩

theorem Ent.bind {s : Fr} {ds : List AD} {H : Hp} {K K' : Fr → List AD → Hp → Prop} (h : Ent s ds H K) (k : ∀ s ds H, K s ds H → Ent s ds H K') : Ent s ds H K' := by
 intro S a hH hF hD
 obtain ⟨S1, s1, ds1, H1, e1, l1, hH1, hF1, hD1, hk⟩ := h S a hH hF hD
 obtain ⟨S2, s2, ds2, H2, e2, l2, rest⟩ := k s1 ds1 H1 hk S1 a hH1 hF1 hD1
 exact ⟨S2, s2, ds2, H2, e2.trans e1, l1.trans l2, rest⟩

theorem Ent.mono {s : Fr} {ds : List AD} {H : Hp} {K K' : Fr → List AD → Hp → Prop} (h : Ent s ds H K) (k : ∀ s ds H, K s ds H → K' s ds H) : Ent s ds H K' :=
 h.bind fun s ds H hk => .ret (k s ds H hk)

theorem Ent.weak {s s' : Fr} {ds : List AD} {H H' : Hp} {K : Fr → List AD → Hp → Prop} (hs : ∀ t, AV.Le (s t) (s' t)) (hH : HSub H H') (h : K s' ds H') : Ent s ds H K :=
 fun S a hH1 hF hD => ⟨S, s', ds, H', rfl, Le.refl S, hH1.sub hH, fun t => hs t S _ (hF t), hD, h⟩

def Slots (s : Fr) : List (Nat × AV) → Prop
 | [] => True
 | (i, v) :: l => AV.Le (s i) v ∧ Slots s l

theorem Slots.le {s : Fr} {l : List (Nat × AV)} (h : Slots s l) (t : Nat) : AV.Le (s t) (Fr.of l t) := by
 induction l with
 | nil => exact .any _
 | cons p l ih =>
   obtain ⟨i, v⟩ := p
   simp only [Fr.of]
   split
   ·rename_i e; subst e; exact h.1
   ·exact ih h.2

theorem Ent.of {s : Fr} {ds : List AD} {H H' : Hp} {K : Fr → List AD → Hp → Prop} (l : List (Nat × AV)) (hs : Slots s l) (hH : HSub H H') (h : K (Fr.of l) ds H') : Ent s ds H K :=
 Ent.weak hs.le hH h

def St.frz (S : St) (b : Nat) : St := { S with imm := fun x => S.imm x ∨ x = b }
theorem St.frz_le (S : St) (b : Nat) : Le S (S.frz b) :=
 ⟨rfl, rfl, rfl, Nat.le_refl _, fun _ h => .inl h, fun _ _ => rfl, fun _ _ _ => rfl, Nat.le_refl _, fun _ c _ _ h => ⟨c, h, rfl⟩⟩

/-- A row that is written no more: its data. -/
theorem Ent.freeze {s s' : Fr} {ds : List AD} {H : Hp} {K : Fr → List AD → Hp → Prop} {id st n : Nat} {f : Nat → List AV} (ho : H id = some (.row st n f))
  (hs : ∀ t, s' t = s t ∨ (s t = .sl id st n ∧ s' t = .rsl n st f)) (h : K s' ds (H.del id)) : Ent s ds H K := by
 intro S a hH hF hD
 obtain ⟨hg, hcase⟩ := hH.obj id _ ho
 rcases hcase with ⟨rfl, hnil⟩ | ⟨b, c, e, hl, hb, hni, hc⟩
 ·refine ⟨S, s', ds, H.del id, rfl, Le.refl S, hH.sub ?_, ?_, hD, h⟩
  ·intro j o' hj
   by_cases ej : j = id
   ·simp [Hp.del, ej] at hj
   ·exact ⟨o', by rw [Hp.del_ne _ ej] at hj; exact hj, .refl _⟩
  ·intro t
   rcases hs t with e | ⟨e1, e2⟩
   ·rw [e]; exact hF t
   ·rw [e2]
    have := hF t
    rw [e1] at this
    generalize a.tmps.getD t undef = v at this
    cases this with
    | sl hl => rw [hnil] at hl; cases hl
    | slnil _ => exact .rsl0
 ·have hle := S.frz_le b
  refine ⟨S.frz b, s', ds, H.del id, rfl, hle, ?_, ?_, hD.mono hle, h⟩
  ·refine ⟨fun i hi => ⟨?_, (hH.fresh i hi).2⟩, ?_, ?_, ?_, fun p hp => (hH.giv p hp).mono hle⟩
   ·simp only [Hp.del]; split
    ·rfl
    ·exact (hH.fresh i hi).1
   ·rintro x (hx | rfl)
    ·exact hH.immlt x hx
    ·exact (Array.getElem?_eq_some_iff.1 hb).1
   ·intro i o hi
    have ne : i ≠ id := by intro e; simp [Hp.del, e] at hi
    rw [Hp.del_ne _ ne] at hi
    have old := hH.obj i o hi
    have hne : ∀ x, S.loc i o.gen = .blk x → x ≠ b := fun x hx e => ne (hH.inj i id o _ x hi ho hx (by subst e; exact hl))
    cases o with
    | box st' n' f' =>
      obtain ⟨b', c', e', h1, h2, h3, h4⟩ := old
      exact ⟨b', c', e', h1, h2, fun hx => hx.elim h3 (hne b' h1), h4.1, h4.2.1, fun i j hi hj => (h4.2.2 i j hi hj).mono hle⟩
    | row st' n' f' =>
      obtain ⟨g1, old⟩ := old
      refine ⟨g1, old.imp (fun x => x) ?_⟩
      rintro ⟨b', c', e', h1, h2, h3, h4⟩
      exact ⟨b', c', e', h1, h2, fun hx => hx.elim h3 (hne b' h1), h4.1, h4.2.1, fun i j hi hj => (h4.2.2 i j hi hj).mono hle⟩
    | memo F =>
      obtain ⟨b', es, k, h1, h2, h3, h4⟩ := old
      exact ⟨b', es, k, h1, h2, fun hx => hx.elim h3 (hne b' h1), h4⟩
    | raw o =>
      obtain ⟨b', h1, h2, h3, h4⟩ := old
      exact ⟨b', h1, h2, h3, fun hx => hx.elim h4 (hne b' h1)⟩
    | iter mid since seen c0 =>
      obtain ⟨r', b', h1, h2, h3, h4⟩ := old
      exact ⟨r', b', h1, h2, h3, fun hx => hx.elim h4 (hne r' h1)⟩
    | loop l n s ps assign body st pend did =>
      obtain ⟨h1, h2, fn, tmps, D, h3, h4, h5, h6⟩ := old
      exact ⟨h1, fun hx => hx.elim h2 (hne l h1), fn, tmps, D, h3, h4, h5.mono hle, h6⟩
   ·intro i j o o' x hi hj
    have ne : i ≠ id := by intro e; simp [Hp.del, e] at hi
    have ne' : j ≠ id := by intro e; simp [Hp.del, e] at hj
    rw [Hp.del_ne _ ne] at hi
    rw [Hp.del_ne _ ne'] at hj
    exact hH.inj i j o o' x hi hj
  ·intro t
   rcases hs t with e | ⟨e1, e2⟩
   ·rw [e]; exact (hF t).mono hle
   ·rw [e2]
    have := hF t
    rw [e1] at this
    generalize a.tmps.getD t undef = v at this
    cases this with
    | sl hl' hb' _ hlen' =>
      rw [hl] at hl'; cases hl'
      exact .rsl (off := 0) (.inr rfl) hb (by rw [Nat.zero_add]; exact hc.1) hc.2.1 (fun i j hi hj => by rw [Nat.zero_add]; exact (hc.2.2 i j hi hj).mono hle) hlen'
    | slnil hl' => rw [hl] at hl'; cases hl'

section rules
variable {r : Option Nat} {P : Program} {n : Nat} {s : Fr} {ds : List AD} {H : Hp} {Q : Post}
theorem wps_ent {c : Code} (h : Ent s ds H fun s ds H => WPS r P n c s ds H Q) : WPS r P n c s ds H Q := by
 intro S a hn hH hF hD
 obtain ⟨S', s', ds', H', hw, hle, hH', hF', hD', hk⟩ := h S a hH hF hD
 have := hk S' a hn hH' hF' hD'
 rw [hw] at this
 exact wpIn_mono this fun e a w k => k.trans hle

theorem XRel.mono {S S' : St} (h : Le S S') {e : Exit} {x : XE} (k : XRel S e x) : XRel S' e x := by
 cases e <;> cases x <;> simp only [XRel] at k ⊢ <;> first | exact k | exact (let ⟨v, a, b⟩ := k; ⟨v, a, b.mono h⟩)

theorem VRel.lit_inv {S : St} {v w : Value} (h : VRel S (.lit v) w) : w = v := by cases h; rfl

theorem wps_cond {c : Operand} {x y : Code} {b : Bool} (hc : opA s c = .lit (.bool b)) (ht : b = true → WPS r P n x s ds H Q) (hf : b = false → WPS r P n y s ds H Q) :
  WPS r P n (.cond c x y) s ds H Q := by
 intro S a hn hH hF hD
 have h := opA_rel hF c
 rw [hc] at h
 exact wpIn_cond_split h.lit_inv (fun e => ht e S a hn hH hF hD) (fun e => hf e S a hn hH hF hD)

theorem least_of {p : Nat → Prop} (h : ∃ m, p m) : ∃ m, p m ∧ ∀ k, p k → m ≤ k := by
 obtain ⟨m, hm⟩ := h
 induction m using Nat.strongRecOn with
 | _ m ih =>
   by_cases hk : ∃ k, k < m ∧ p k
   ·obtain ⟨k, hlt, hp⟩ := hk; exact ih k hlt hp
   ·exact ⟨m, hm, fun k hp => Nat.le_of_not_lt fun hlt => hk ⟨k, hlt, hp⟩⟩

theorem wpIn_loopN {F : Fence} {q : Nat} {c : Code} {Q : Exit → Act → World → Prop} {a : Act} {w : World} (I : Nat → Act → World → Prop) (m : Nat) (h0 : I m a w)
  (round : ∀ m a w, I m a w → c.wpIn F q P (Exit.then (fun a' w' => ∃ m', m' < m ∧ I m' a' w') Q) a w) : (Code.loop c).wpIn F q P Q a w := by
 classical
 let μ : Act → World → Nat := fun a w => if h : ∃ m, I m a w then (least_of h).choose else 0
 have hμ : ∀ a w, (∃ m, I m a w) → I (μ a w) a w ∧ ∀ k, I k a w → μ a w ≤ k := fun a w h => by
  have := (least_of h).choose_spec
  simp only [μ, dif_pos h]
  exact this
 refine wpIn_loop (fun a w => ∃ m, I m a w) μ ⟨m, h0⟩ fun a w h => ?_
 refine wpIn_mono (round _ a w (hμ a w h).1) fun e a' w' q => ?_
 cases e with
 | normal =>
   obtain ⟨m', hlt, hI⟩ := q
   exact ⟨⟨m', hI⟩, Nat.lt_of_le_of_lt ((hμ a' w' ⟨m', hI⟩).2 m' hI) hlt⟩
 | _ => exact q

/-- A loop: σ is what is known at each round's head. -/
theorem wps_loop {c : Code} {σ : Type} (inv : σ → Prop) (fr : σ → List (Nat × AV)) (hp : σ → Hp) (μ : σ → Nat)
  (h0 : Ent s ds H fun s' ds' H' => ∃ x, inv x ∧ s' = Fr.of (fr x) ∧ ds' = ds ∧ H' = hp x)
  (round : ∀ x, inv x → WPS r P n c (Fr.of (fr x)) ds (hp x) (fun e s' ds' H' => match e with
   | .normal => Ent s' ds' H' fun s2 ds2 H2 => ∃ x', inv x' ∧ μ x' < μ x ∧ s2 = Fr.of (fr x') ∧ ds2 = ds ∧ H2 = hp x'
   | e => Q e s' ds' H')) : WPS r P n (.loop c) s ds H Q := by
 intro S a hn hH hF hD
 obtain ⟨S0, s0, ds0, H0, hw0, hle0, hH0, hF0, hD0, x0, hx0, rfl, rfl, rfl⟩ := h0 S a hH hF hD
 refine wpIn_loopN (fun m a w => ∃ S' x, S'.w = w ∧ Le S S' ∧ a.tmps.size = n ∧ HRel S' (hp x) ∧ FRel S' (Fr.of (fr x)) a ∧ DRel S' ds0 a.defers ∧ inv x ∧ μ x = m) (μ x0)
  ⟨S0, x0, hw0, hle0, hn, hH0, hF0, hD0, hx0, rfl⟩ ?_
 rintro m a1 w1 ⟨S1, x1, rfl, hle1, hn1, hH1, hF1, hD1, hx1, rfl⟩
 refine wpIn_mono (round x1 hx1 S1 a1 hn1 hH1 hF1 hD1) ?_
 rintro e a2 w2 ⟨S2, x2, s2, ds2, H2, rfl, hle2, hH2, hF2, hD2, hsz, hx, hq⟩
 cases e with
 | normal =>
   cases x2 <;> simp [XRel] at hx
   obtain ⟨S3, s3, ds3, H3, hw3, hle3, hH3, hF3, hD3, x3, hx3, hlt, rfl, rfl, rfl⟩ := hq S2 a2 hH2 hF2 hD2
   exact ⟨_, hlt, S3, x3, hw3, (hle1.trans hle2).trans hle3, hsz, hH3, hF3, hD3, hx3, rfl⟩
 | exit i => cases x2 <;> simp [XRel] at hx; exact ⟨S2, _, s2, ds2, H2, rfl, hle1.trans hle2, hH2, hF2, hD2, hsz, by simpa [XRel] using hx, hq⟩
 | goto l => cases x2 <;> simp [XRel] at hx
 | ret => cases x2 <;> simp [XRel] at hx; exact ⟨S2, .ret, s2, ds2, H2, rfl, hle1.trans hle2, hH2, hF2, hD2, hsz, trivial, hq⟩
 | panic ch => cases x2 <;> simp [XRel] at hx; exact ⟨S2, _, s2, ds2, H2, rfl, hle1.trans hle2, hH2, hF2, hD2, hsz, by simpa [XRel] using hx, hq⟩
 | outgrown => cases x2 <;> simp [XRel] at hx

end rules
end Go.V
end
section
set_option linter.unusedVariables false
namespace Go.V
set_option linter.unusedSectionVars false
variable [Inhabited GivT]
def InR (k : IntKind) (n : Int) : Prop := k.min ≤ n ∧ n ≤ k.max

theorem InR.wrap {k : IntKind} {n : Int} (h : InR k n) : k.wrap n = n := by
 obtain ⟨h1, h2⟩ := h
 cases k <;> simp [IntKind.min, IntKind.max, IntKind.signed, IntKind.bits, IntKind.wrap] at h1 h2 ⊢ <;> first | omega | (split <;> omega)

theorem InR_i64 (n : Int) : InR .i64 n = (-9223372036854775808 ≤ n ∧ n ≤ 9223372036854775807) := rfl
theorem InR_u64 (n : Int) : InR .u64 n = (0 ≤ n ∧ n ≤ 18446744073709551615) := rfl
def szT (P : Program) (T : TypeId) : Option (Nat × Bool) := match P.info? T, P.underlying T with
 | some i, some (.struct _) => some (i.size, true)
 | some i, some (.array _ _) => some (i.size, true)
 | some i, some _ => some (i.size, false)
 | _, _ => none
def fldT (P : Program) (T : TypeId) (f : Nat) : Option (Nat × Nat × Bool) := match P.underlying T with
 | some (.struct fs) => match fs[f]? with
   | some x => match szT P x.type with
     | some (n, b) => if n = 0 then none else some (x.offset, n, b)
     | none => none
   | none => none
 | _ => none
def elT (P : Program) (T : TypeId) : Option (Nat × Bool) := match P.underlying T with
 | some (.slice e) => szT P e
 | _ => none
def arT (P : Program) (T : TypeId) : Option (Nat × Nat × Bool) := match P.underlying T with
 | some (.array n e) => match szT P e with
   | some (m, b) => if szT P T = some (n * m, true) then some (n, m, b) else none
   | none => none
 | _ => none
def intT (P : Program) (T : TypeId) : Option IntKind := match P.underlying T with
 | some (.int k) => some k
 | _ => none
/-- The zero value's cells. -/
def zeroT (P : Program) (T : TypeId) : Option (List Value) := match P.info? T with
 | some i => match i.zero with
   | some v => some v.cells.toList
   | none => none
 | none => none

theorem szT_spec {P : Program} {T n : Nat} {b : Bool} (h : szT P T = some (n, b)) (w : World) :
  (sizeOf T).run P w = .ok n w ∧ (isAgg T).run P w = .ok b w := by
 unfold szT at h
 cases hi : P.info? T with
 | none => simp [hi] at h
 | some i =>
   cases hu : P.underlying T with
   | none => simp [hi, hu] at h
   | some d =>
     have h1 : (typeInfo T).run P w = .ok i w := by simp [typeInfo, hi]
     have h2 : (underlying T).run P w = .ok d w := by simp [underlying, hu]
     constructor
     ·have : i.size = n := by cases d <;> simp [hi, hu] at h <;> exact h.1
      simp [sizeOf, h1, this]
     ·simp only [isAgg, Sem.run_bind, h2, Result.andThen_ok]
      cases d <;> simp [hi, hu] at h <;> simp [h.2]

theorem run_underlying {P : Program} {T : TypeId} {d : TypeDesc} (h : P.underlying T = some d) (w : World) : (underlying T).run P w = .ok d w := by
 simp [underlying, h]

def AV.st : AV → AV
 | .under _ v => v
 | v => v
def AV.ok : AV → Prop
 | .under g _ => g = true
 | _ => True

section
variable (v : Value) (x : AV) (cs ds : List AV) (n st i j id g l : Nat) (f : Nat → List AV) (fn : Fn) (b : Bool)
theorem st_lit : (AV.lit v).st = .lit v := rfl
theorem st_agg : (AV.agg cs).st = .agg cs := rfl
theorem st_arr : (AV.arr n st f).st = .arr n st f := rfl
theorem st_tuple : (AV.tuple cs).st = .tuple cs := rfl
theorem st_zp : (AV.zp n).st = .zp n := rfl
theorem ok_zp : (AV.zp n).ok = True := rfl
theorem st_tp : (AV.tp n x).st = .tp n x := rfl
theorem ok_tp : (AV.tp n x).ok = True := rfl
theorem st_rptr : (AV.rptr n st f i j).st = .rptr n st f i j := rfl
theorem st_rsl : (AV.rsl n st f).st = .rsl n st f := rfl
theorem st_ref : (AV.ref id g st i j).st = .ref id g st i j := rfl
theorem st_sl : (AV.sl id st l).st = .sl id st l := rfl
theorem st_vw : (AV.vw id st i l).st = .vw id st i l := rfl
theorem st_map : (AV.map id).st = .map id := rfl
theorem st_func : (AV.func fn cs ds).st = .func fn cs ds := rfl
theorem st_iface : (AV.iface id x).st = .iface id x := rfl
theorem st_under : (AV.under b x).st = x := rfl
theorem st_any : AV.any.st = .any := rfl
theorem ok_lit : (AV.lit v).ok = True := rfl
theorem ok_agg : (AV.agg cs).ok = True := rfl
theorem ok_arr : (AV.arr n st f).ok = True := rfl
theorem ok_tuple : (AV.tuple cs).ok = True := rfl
theorem ok_rptr : (AV.rptr n st f i j).ok = True := rfl
theorem ok_rsl : (AV.rsl n st f).ok = True := rfl
theorem ok_ref : (AV.ref id g st i j).ok = True := rfl
theorem ok_sl : (AV.sl id st l).ok = True := rfl
theorem ok_vw : (AV.vw id st i l).ok = True := rfl
theorem ok_map : (AV.map id).ok = True := rfl
theorem ok_func : (AV.func fn cs ds).ok = True := rfl
theorem ok_iface : (AV.iface id x).ok = True := rfl
theorem ok_under : (AV.under b x).ok = (b = true) := rfl
theorem ok_any : AV.any.ok = True := rfl
end
theorem VRel.strip {S : St} {x : AV} {v : Value} (h : VRel S x v) (k : x.ok) : VRel S x.st v := by
 cases x with
 | under g y => cases h with | under h _ => exact h k
 | _ => exact h

/-- A number of places that is none too great. -/
def shB (k : IntKind) (b : Int) : Nat := if k.bits = 64 then 64 else if b ≤ k.bits then 64 else 0
theorem shB_le {k : IntKind} {b : Int} (h : shB k b = 64) (hb : b < 64) : b ≤ k.bits := by
 unfold shB at h
 split at h
 ·omega
 ·split at h
  ·assumption
  ·cases h
def intA (op : BinOp) (x y : AV) (K : Prop → AV → Prop) : Prop := match x, y with
 | .lit (.int k a), .lit (.int k' b) => match op with
   | .add => K (k = k' ∧ InR k (a + b)) (.lit (.int k (a + b)))
   | .sub => K (k = k' ∧ InR k (a - b)) (.lit (.int k (a - b)))
   | .mul => K (k = k' ∧ InR k (a * b)) (.lit (.int k (a * b)))
   | .quo => K (k = k' ∧ b ≠ 0 ∧ InR k (a.tdiv b)) (.lit (.int k (a.tdiv b)))
   | .rem => K (k = k' ∧ b ≠ 0) (.lit (.int k (a.tmod b)))
   | .and => K (k = k' ∧ 0 ≤ a ∧ 0 ≤ b ∧ InR k a ∧ InR k b) (.lit (.int k ((a.toNat &&& b.toNat : Nat) : Int)))
   | .or => K (k = k' ∧ 0 ≤ a ∧ 0 ≤ b ∧ InR k a ∧ InR k b) (.lit (.int k ((a.toNat ||| b.toNat : Nat) : Int)))
   | .xor => K (k = k' ∧ 0 ≤ a ∧ 0 ≤ b ∧ InR k a ∧ InR k b) (.lit (.int k ((a.toNat ^^^ b.toNat : Nat) : Int)))
   | .andNot => K (k = k' ∧ 0 ≤ a ∧ 0 ≤ b ∧ InR k a ∧ InR k b) (.lit (.int k ((a.toNat ^^^ (a.toNat &&& b.toNat) : Nat) : Int)))
   | .shl => K (0 ≤ b ∧ b < 64 ∧ InR k (a * 2 ^ b.toNat)) (.lit (.int k (a * 2 ^ b.toNat)))
   | .shr => K (0 ≤ b ∧ b < 64 ∧ shB k b = 64) (.lit (.int k (a / 2 ^ b.toNat)))
   | .eql => K (k = k') (.lit (.bool (decide (a = b))))
   | .neq => K (k = k') (.lit (.bool (!decide (a = b))))
   | .lss => K (k = k') (.lit (.bool (decide (a < b))))
   | .leq => K (k = k') (.lit (.bool (decide (a ≤ b))))
   | .gtr => K (k = k') (.lit (.bool (decide (b < a))))
   | .geq => K (k = k') (.lit (.bool (decide (b ≤ a))))
 | _, _ => False

def unA (op : UnOp) (x : AV) (K : Prop → AV → Prop) : Prop := match op, x with
 | .not, .lit (.bool b) => K True (.lit (.bool (!b)))
 | .neg, .lit (.int k a) => K (InR k (-a)) (.lit (.int k (-a)))
 | _, _ => False


def litI : List AV → Option (List Int)
 | [] => some []
 | .lit (.int .i64 a) :: r => match litI r with
   | some l => some (a :: l)
   | none => none
 | _ => none
theorem litI_nil : litI [] = some [] := rfl
theorem litI_cons (a : Int) (r : List AV) : litI (.lit (.int .i64 a) :: r) = match litI r with
  | some l => some (a :: l)
  | none => none := rfl

/-- Values of a type are compared as lists of numbers. -/
def eqT (P : Program) (T : TypeId) (n : Nat) : Prop := P.eqGuardType P.depth T = false ∧ ∀ (l l' : List Int) (w : World), l.length = n → l'.length = n →
 (Op.equalIn 10000 T (.agg (l.map (Value.int .i64)).toArray) (.agg (l'.map (Value.int .i64)).toArray)).run P w = .ok (decide (l = l')) w

/-- Values of a type are compared as lists of numbers and truths. -/
def scal : Value → Bool
 | .int _ _ => true
 | .bool _ => true
 | _ => false
def litS : List AV → Option (List Value)
 | [] => some []
 | .lit v :: r => match scal v, litS r with
   | true, some l => some (v :: l)
   | _, _ => none
 | _ => none
def eqS : Value → Value → Bool
 | .int _ a, .int _ b => decide (a = b)
 | .bool a, .bool b => a == b
 | _, _ => false
def eqL : List Value → List Value → Bool
 | [], [] => true
 | a :: l, b :: l' => eqS a b && eqL l l'
 | _, _ => false
def eqV (P : Program) (T : TypeId) (l l' : List Value) : Prop := P.eqGuardType P.depth T = false ∧ ∀ w : World, (Op.equalIn 10000 T (.agg l.toArray) (.agg l'.toArray)).run P w = .ok (eqL l l') w
def aggV (P : Program) (op : BinOp) (T : TypeId) (cs ds : List AV) (K : Prop → AV → Prop) : Prop := match litS cs, litS ds with
 | some l, some l' => match op with
   | .eql => K (eqV P T l l') (.lit (.bool (eqL l l')))
   | .neq => K (eqV P T l l') (.lit (.bool (!eqL l l')))
   | _ => False
 | _, _ => False
def aggA (P : Program) (op : BinOp) (T : TypeId) (cs ds : List AV) (K : Prop → AV → Prop) : Prop := match litI cs, litI ds with
 | some l, some l' => match op with
   | .eql => K (eqT P T l.length ∧ l'.length = l.length) (.lit (.bool (decide (l = l'))))
   | .neq => K (eqT P T l.length ∧ l'.length = l.length) (.lit (.bool (!decide (l = l'))))
   | _ => False
 | _, _ => aggV P op T cs ds K
def boolT (P : Program) (T : TypeId) : Bool := match P.underlying T with
 | some .bool => true
 | _ => false
def boolA (P : Program) (op : BinOp) (T : TypeId) (a b : Bool) (K : Prop → AV → Prop) : Prop := match op with
 | .eql => K (boolT P T = true) (.lit (.bool (a == b)))
 | .neq => K (boolT P T = true) (.lit (.bool (!(a == b))))
 | _ => False
def ifcT (P : Program) (T : TypeId) : Bool := match P.underlying T with
 | some (.interface _) => true
 | _ => false
def nilA2 (P : Program) (op : BinOp) (T : TypeId) (q : Prop) (b : Bool) (K : Prop → AV → Prop) : Prop := match op with
 | .eql => K (ifcT P T = true ∧ q) (.lit (.bool b))
 | .neq => K (ifcT P T = true ∧ q) (.lit (.bool (!b)))
 | _ => False
def isConst : Operand → Bool
 | .const _ => true
 | _ => false
def binLitA (P : Program) (op : BinOp) (T : TypeId) (ox oy : Operand) (v : Value) (y : AV) (K : Prop → AV → Prop) : Prop := match v, y with
 | .int k a, y => intA op (.lit (.int k a)) y K
 | .bool a, .lit (.bool b) => boolA P op T a b K
 | .nilIface, .lit .nilIface => nilA2 P op T (isConst ox = true ∨ isConst oy = true) true K
 | .nilIface, .iface _ _ => nilA2 P op T True false K
 | _, _ => False
/-- The cells of an array of values of one cell. -/
def arrC : Nat → (Nat → List AV) → List AV
 | 0, _ => []
 | n + 1, f => (f 0).getD 0 .any :: arrC n (fun i => f (i + 1))
def binA (P : Program) (op : BinOp) (T : TypeId) (ox oy : Operand) (x y : AV) (K : Prop → AV → Prop) : Prop := match x, y with
 | .agg cs, .agg ds => aggA P op T cs ds K
 | .iface _ _, .lit .nilIface => nilA2 P op T True false K
 | .lit v, y => binLitA P op T ox oy v y K
 | .arr n 1 f, .arr m 1 g => aggA P op T (arrC n f) (arrC m g) K
 | _, _ => False

end Go.V
end
section
set_option linter.unusedVariables false
namespace Go.V
set_option linter.unusedSectionVars false
variable [Inhabited GivT]
def IntKind.width (k : IntKind) : Nat := if k.signed then k.bits - 1 else k.bits

theorem inR_lt {k : IntKind} {a : Int} (h0 : 0 ≤ a) (h : InR k a) : a.toNat < 2 ^ IntKind.width k := by
 obtain ⟨h1, h2⟩ := h
 cases k <;> simp [IntKind.min, IntKind.max, IntKind.signed, IntKind.bits, IntKind.width] at h1 h2 ⊢ <;> omega

theorem inR_of_lt {k : IntKind} {m : Nat} (h : m < 2 ^ IntKind.width k) : InR k (m : Int) := by
 cases k <;> simp [InR, IntKind.min, IntKind.max, IntKind.signed, IntKind.bits, IntKind.width] at h ⊢ <;> omega

theorem width_le (k : IntKind) : IntKind.width k ≤ k.bits := by cases k <;> simp [IntKind.width, IntKind.signed, IntKind.bits]

theorem toNat_ofInt {k : IntKind} {a : Int} (h0 : 0 ≤ a) (h : InR k a) : (BitVec.ofInt k.bits a).toNat = a.toNat := by
 have h1 := inR_lt h0 h
 have h2 : (2 : Nat) ^ IntKind.width k ≤ 2 ^ k.bits := Nat.pow_le_pow_right (by omega) (width_le k)
 have e : a = ((a.toNat : Nat) : Int) := by omega
 have e3 : a % ((2 ^ k.bits : Nat) : Int) = a := Int.emod_eq_of_lt h0 (by omega)
 simp only [BitVec.toNat_ofInt]
 rw [e3]

theorem run_bits {P : Program} {w : World} {op : BinOp} {k : IntKind} {a b : Int} {m : Nat} (ha : 0 ≤ a) (hb : 0 ≤ b) (ra : InR k a) (rb : InR k b)
  (h : (op = .and ∧ m = (a.toNat &&& b.toNat)) ∨ (op = .or ∧ m = (a.toNat ||| b.toNat)) ∨ (op = .xor ∧ m = (a.toNat ^^^ b.toNat)) ∨ (op = .andNot ∧ m = (a.toNat ^^^ (a.toNat &&& b.toNat)))) :
  (Op.intBits op k a b).run P w = .ok (.int k m) w := by
 have ea := toNat_ofInt ha ra
 have eb := toNat_ofInt hb rb
 have la := inR_lt ha ra
 have lb := inR_lt hb rb
 rcases h with ⟨rfl, rfl⟩ | ⟨rfl, rfl⟩ | ⟨rfl, rfl⟩ | ⟨rfl, rfl⟩
 ·simp only [Op.intBits, Sem.run_pure, BitVec.toNat_and, ea, eb]
  rw [(inR_of_lt (k := k) (Nat.and_lt_two_pow _ lb)).wrap]
 ·simp only [Op.intBits, Sem.run_pure, BitVec.toNat_or, ea, eb]
  rw [(inR_of_lt (k := k) (Nat.or_lt_two_pow la lb)).wrap]
 ·simp only [Op.intBits, Sem.run_pure, BitVec.toNat_xor, ea, eb]
  rw [(inR_of_lt (k := k) (Nat.xor_lt_two_pow la lb)).wrap]
 ·have e : (BitVec.ofInt k.bits a &&& ~~~(BitVec.ofInt k.bits b)) = BitVec.ofInt k.bits a ^^^ (BitVec.ofInt k.bits a &&& BitVec.ofInt k.bits b) := by
   ext i hi; simp; cases (BitVec.ofInt k.bits a)[i] <;> cases (BitVec.ofInt k.bits b)[i] <;> rfl
  simp only [Op.intBits, Sem.run_pure, e, BitVec.toNat_and, BitVec.toNat_xor, ea, eb]
  rw [(inR_of_lt (k := k) (Nat.xor_lt_two_pow la (Nat.and_lt_two_pow _ lb))).wrap]

theorem intA_sound {P : Program} {op : BinOp} {x y : AV} {K : Prop → AV → Prop} {S : St} {cx cy : Value} {t : TypeId} {ox oy : Operand} {w : World}
  (h : intA op x y K) (hx : VRel S x cx) (hy : VRel S y cy) :
  ∃ p v, K p v ∧ (p → ∃ cv, (do eqGuard op t ox oy cx cy; binOp op t cx cy : Sem Value).run P w = .ok cv w ∧ v = .lit cv) := by
 unfold intA at h
 split at h
 case h_2 => exact h.elim
 case h_1 k a k' b =>
  have e1 := hx.lit_inv
  have e2 := hy.lit_inv
  subst e1 e2
  have hg : ∀ (op : BinOp) (w : World), (eqGuard op t ox oy (.int k a) (.int k' b)).run P w = .ok () w := by
   intro op w; unfold eqGuard; cases op <;> simp
  cases op <;> simp only at h
  case add => exact ⟨_, _, h, fun ⟨e, hr⟩ => ⟨_, by subst e; simp [hg, binOp, Op.intArith, hr.wrap], rfl⟩⟩
  case sub => exact ⟨_, _, h, fun ⟨e, hr⟩ => ⟨_, by subst e; simp [hg, binOp, Op.intArith, hr.wrap], rfl⟩⟩
  case mul => exact ⟨_, _, h, fun ⟨e, hr⟩ => ⟨_, by subst e; simp [hg, binOp, Op.intArith, hr.wrap], rfl⟩⟩
  case quo => exact ⟨_, _, h, fun ⟨e, h0, hr⟩ => ⟨_, by subst e; simp [hg, binOp, Op.intDiv, h0, hr.wrap], rfl⟩⟩
  case rem => exact ⟨_, _, h, fun ⟨e, h0⟩ => ⟨_, by subst e; simp [hg, binOp, Op.intDiv, h0], rfl⟩⟩
  case and => exact ⟨_, _, h, fun ⟨e, h0, h1, ra, rb⟩ => ⟨_, by subst e; simp [hg, binOp, run_bits (op := .and) h0 h1 ra rb (.inl ⟨rfl, rfl⟩)], rfl⟩⟩
  case or => exact ⟨_, _, h, fun ⟨e, h0, h1, ra, rb⟩ => ⟨_, by subst e; simp [hg, binOp, run_bits (op := .or) h0 h1 ra rb (.inr (.inl ⟨rfl, rfl⟩))], rfl⟩⟩
  case xor => exact ⟨_, _, h, fun ⟨e, h0, h1, ra, rb⟩ => ⟨_, by subst e; simp [hg, binOp, run_bits (op := .xor) h0 h1 ra rb (.inr (.inr (.inl ⟨rfl, rfl⟩)))], rfl⟩⟩
  case andNot => exact ⟨_, _, h, fun ⟨e, h0, h1, ra, rb⟩ => ⟨_, by subst e; simp [hg, binOp, run_bits (op := .andNot) h0 h1 ra rb (.inr (.inr (.inr ⟨rfl, rfl⟩)))], rfl⟩⟩
  case shl =>
   refine ⟨_, _, h, fun ⟨h0, h1, hr⟩ => ⟨.int k (a * 2 ^ b.toNat), ?_, rfl⟩⟩
   have hb : ¬ b < 0 := by omega
   by_cases hm : b.toNat ≤ k.bits
   ·simp [hg, binOp, Op.shift, hb, Nat.min_eq_left hm, hr.wrap]
   ·have hm' : k.bits ≤ b.toNat := by omega
    have hz : k.wrap (a * 2 ^ k.bits) = a * 2 ^ b.toNat := by
     have e : (2 : Int) ^ b.toNat = 2 ^ k.bits * 2 ^ (b.toNat - k.bits) := by rw [← Int.pow_add]; congr 1; omega
     have z : a * 2 ^ b.toNat = 0 := by
      have hx := hr
      rw [e] at hx ⊢
      obtain ⟨g1, g2⟩ := hx
      have pos : (1 : Int) ≤ 2 ^ (b.toNat - k.bits) := by
       have : (0 : Int) < 2 ^ (b.toNat - k.bits) := Int.pow_pos (by omega)
       omega
      have q : a * (2 ^ k.bits * 2 ^ (b.toNat - k.bits)) = (a * 2 ^ (b.toNat - k.bits)) * 2 ^ k.bits := by
       rw [Int.mul_comm (2 ^ k.bits), ← Int.mul_assoc]
      rw [q] at g1 g2 ⊢
      generalize a * 2 ^ (b.toNat - k.bits) = c at *
      cases k <;> simp [IntKind.min, IntKind.max, IntKind.signed, IntKind.bits] at g1 g2 ⊢ <;> omega
     have za : a = 0 := by
      rcases Int.mul_eq_zero.1 z with h | h
      ·exact h
      ·have : (0 : Int) < 2 ^ b.toNat := Int.pow_pos (by omega)
       omega
     subst za
     cases k <;> simp [IntKind.wrap, IntKind.signed, IntKind.bits]
    simp [hg, binOp, Op.shift, hb, Nat.min_eq_right hm', hz]
  case shr =>
   refine ⟨_, _, h, fun ⟨h0, h1, h2⟩ => ⟨.int k (a / 2 ^ b.toNat), ?_, rfl⟩⟩
   have hb : ¬ b < 0 := by omega
   have hm : b.toNat ≤ k.bits := by have := shB_le h2 h1; omega
   have hp : (0 : Int) ≤ 2 ^ b.toNat := Int.le_of_lt (Int.pow_pos (by omega))
   simp [hg, binOp, Op.shift, hb, Nat.min_eq_left hm, Int.fdiv_eq_ediv_of_nonneg _ hp]
  case eql => exact ⟨_, _, h, fun e => ⟨_, by subst e; simp [hg, binOp, Op.intCmp]; rfl, rfl⟩⟩
  case neq => exact ⟨_, _, h, fun e => ⟨_, by subst e; simp [hg, binOp, Op.intCmp]; rfl, rfl⟩⟩
  case lss => exact ⟨_, _, h, fun e => ⟨_, by subst e; simp [hg, binOp, Op.intCmp], rfl⟩⟩
  case leq => exact ⟨_, _, h, fun e => ⟨_, by subst e; simp [hg, binOp, Op.intCmp], rfl⟩⟩
  case gtr => exact ⟨_, _, h, fun e => ⟨_, by subst e; simp [hg, binOp, Op.intCmp], rfl⟩⟩
  case geq => exact ⟨_, _, h, fun e => ⟨_, by subst e; simp [hg, binOp, Op.intCmp], rfl⟩⟩

theorem unA_sound {P : Program} {op : UnOp} {x : AV} {K : Prop → AV → Prop} {S : St} {cx : Value} {w : World} (h : unA op x K) (hx : VRel S x cx) :
  ∃ p v, K p v ∧ (p → ∃ cv, (Op.unary op cx).run P w = .ok cv w ∧ v = .lit cv) := by
 unfold unA at h
 split at h
 case h_3 => exact h.elim
 case h_1 b => have e := hx.lit_inv; subst e; exact ⟨_, _, h, fun _ => ⟨_, by simp [Op.unary], rfl⟩⟩
 case h_2 k a => have e := hx.lit_inv; subst e; exact ⟨_, _, h, fun hr => ⟨_, by simp [Op.unary, Op.intArith, hr.wrap], rfl⟩⟩


theorem litI_spec {S : St} : ∀ {cs : List AV} {l : List Int} {vs : List Value}, litI cs = some l → vs.length = cs.length → (∀ k, k < cs.length → VRel S (cs.getD k .any) (vs.getD k undef)) → vs = l.map (Value.int .i64)
 | [], l, vs, h, hl, hr => by
   simp only [litI, Option.some.injEq] at h
   subst h
   exact List.eq_nil_of_length_eq_zero (by simpa using hl)
 | x :: cs, l, [], h, hl, hr => by simp at hl
 | x :: cs, l, v :: vs, h, hl, hr => by
   have h0 := hr 0 (by simp)
   simp only [List.getD_cons_zero] at h0
   have : ∃ a l2, x = .lit (.int .i64 a) ∧ litI cs = some l2 ∧ l = a :: l2 := by
    unfold litI at h
    split at h
    ·rename_i e; cases e
    ·rename_i a r e
     cases e
     split at h
     ·rename_i l2 e2; cases h; exact ⟨_, _, rfl, e2, rfl⟩
     ·cases h
    ·cases h
   obtain ⟨a, l2, rfl, hl2, rfl⟩ := this
   have := litI_spec (S := S) (vs := vs) hl2 (by simpa using hl) (fun k hk => by
    have := hr (k + 1) (by simpa using hk)
    simpa using this)
   cases h0
   simp [this]

theorem litS_spec {S : St} : ∀ {cs : List AV} {l vs : List Value}, litS cs = some l → vs.length = cs.length → (∀ k, k < cs.length → VRel S (cs.getD k .any) (vs.getD k undef)) → vs = l
 | [], l, vs, h, hl, hr => by
   simp only [litS, Option.some.injEq] at h
   subst h
   exact List.eq_nil_of_length_eq_zero (by simpa using hl)
 | x :: cs, l, [], h, hl, hr => by simp at hl
 | x :: cs, l, v :: vs, h, hl, hr => by
   have h0 := hr 0 (by simp)
   simp only [List.getD_cons_zero] at h0
   have : ∃ a l2, x = .lit a ∧ litS cs = some l2 ∧ l = a :: l2 := by
    unfold litS at h
    split at h
    ·rename_i e; cases e
    ·rename_i a r e
     cases e
     split at h
     ·rename_i l2 _ e2; cases h; exact ⟨_, _, rfl, e2, rfl⟩
     ·cases h
    ·cases h
   obtain ⟨a, l2, rfl, hl2, rfl⟩ := this
   have := litS_spec (S := S) (vs := vs) hl2 (by simpa using hl) (fun k hk => by
    have := hr (k + 1) (by simpa using hk)
    simpa using this)
   cases h0
   simp [this]

theorem eqIn_ifn {P : Program} (w : World) (d : Nat) (t T : TypeId) (v : Value) {ms : Array (String × TypeId)} (h : P.underlying t = some (.interface ms)) : (Op.equalIn (d + 1) t (.iface T v) .nilIface).run P w = .ok false w := by
 simp [Op.equalIn, run_underlying h]
theorem eqIn_nif {P : Program} (w : World) (d : Nat) (t T : TypeId) (v : Value) {ms : Array (String × TypeId)} (h : P.underlying t = some (.interface ms)) : (Op.equalIn (d + 1) t .nilIface (.iface T v)).run P w = .ok false w := by
 simp [Op.equalIn, run_underlying h]
theorem eqIn_nn {P : Program} (w : World) (d : Nat) (t : TypeId) {ms : Array (String × TypeId)} (h : P.underlying t = some (.interface ms)) : (Op.equalIn (d + 1) t .nilIface .nilIface).run P w = .ok true w := by
 simp [Op.equalIn, run_underlying h]

theorem ifcT_spec {P : Program} {t : TypeId} (h : ifcT P t = true) : ∃ ms, P.underlying t = some (.interface ms) := by
 unfold ifcT at h
 split at h
 ·exact ⟨_, by assumption⟩
 ·cases h

theorem arrC_len : ∀ (n : Nat) (f : Nat → List AV), (arrC n f).length = n
 | 0, _ => rfl
 | n + 1, f => by rw [arrC, List.length_cons, arrC_len n]
theorem arrC_at : ∀ (n : Nat) (f : Nat → List AV) (k : Nat), k < n → (arrC n f).getD k .any = (f k).getD 0 .any
 | n + 1, f, 0, _ => rfl
 | n + 1, f, k + 1, h => by
   have := arrC_at n (fun i => f (i + 1)) k (by omega)
   rw [arrC, List.getD_cons_succ]; exact this
theorem arrC_rel {S : St} {n : Nat} {f : Nat → List AV} {cv : Value} (h : VRel S (.arr n 1 f) cv) : VRel S (.agg (arrC n f)) cv := by
 cases h with
 | arr hn hf hh =>
   refine .agg (by rw [arrC_len]; omega) fun k hk => ?_
   rw [arrC_len] at hk
   rw [arrC_at n f k hk]
   have := hh k 0 hk (by omega)
   rwa [Nat.mul_one, Nat.add_zero] at this
theorem aggA_sound {P : Program} {op : BinOp} {cs ds : List AV} {K : Prop → AV → Prop} {S : St} {cx cy : Value} {t : TypeId} {ox oy : Operand} {w : World}
  (h : aggA P op t cs ds K) (hx : VRel S (.agg cs) cx) (hy : VRel S (.agg ds) cy) :
  ∃ p v, K p v ∧ (p → ∃ cv, (do eqGuard op t ox oy cx cy; binOp op t cx cy : Sem Value).run P w = .ok cv w ∧ v = .lit cv) := by
 unfold aggA at h
 split at h
 case h_2 =>
  unfold aggV at h
  split at h
  case h_2 => exact h.elim
  case h_1 l l' e1 e2 =>
   cases hx with
   | @agg _ vs hn hr =>
     cases hy with
     | @agg _ us hm hs =>
       have g1 : vs = l.toArray := by
        apply Array.toList_inj.1
        rw [litS_spec (S := S) (vs := vs.toList) e1 (by simpa using hn) (fun k hk => by simpa [List.getD, Array.getD_eq_getD_getElem?] using hr k hk)]
       have g2 : us = l'.toArray := by
        apply Array.toList_inj.1
        rw [litS_spec (S := S) (vs := us.toList) e2 (by simpa using hm) (fun k hk => by simpa [List.getD, Array.getD_eq_getD_getElem?] using hs k hk)]
       cases op <;> first | exact h.elim | skip
       case eql => exact ⟨_, _, h, fun ⟨q1, q2⟩ => ⟨_, by rw [Sem.run_bind, run_eqGuard_agg w _ _ _ _ _ _ q1, Result.andThen_ok, run_eql_struct, g1, g2, q2 w, Result.andThen_ok], rfl⟩⟩
       case neq => exact ⟨_, _, h, fun ⟨q1, q2⟩ => ⟨_, by rw [Sem.run_bind, run_eqGuard_agg w _ _ _ _ _ _ q1, Result.andThen_ok, run_neq_struct, g1, g2, q2 w, Result.andThen_ok], rfl⟩⟩
 case h_1 l l' e1 e2 =>
  cases hx with
  | @agg _ vs hn hr =>
    cases hy with
    | @agg _ us hm hs =>
      have g1 : vs = (l.map (Value.int .i64)).toArray := by
       apply Array.toList_inj.1
       rw [litI_spec (S := S) (vs := vs.toList) e1 (by simpa using hn) (fun k hk => by simpa [List.getD, Array.getD_eq_getD_getElem?] using hr k hk)]
      have g2 : us = (l'.map (Value.int .i64)).toArray := by
       apply Array.toList_inj.1
       rw [litI_spec (S := S) (vs := us.toList) e2 (by simpa using hm) (fun k hk => by simpa [List.getD, Array.getD_eq_getD_getElem?] using hs k hk)]
      cases op <;> first | exact h.elim | skip
      case eql => exact ⟨_, _, h, fun ⟨⟨q1, q2⟩, q3⟩ => ⟨_, by rw [Sem.run_bind, run_eqGuard_agg w _ _ _ _ _ _ q1, Result.andThen_ok, run_eql_struct, g1, g2, q2 l l' w rfl q3, Result.andThen_ok], rfl⟩⟩
      case neq => exact ⟨_, _, h, fun ⟨⟨q1, q2⟩, q3⟩ => ⟨_, by rw [Sem.run_bind, run_eqGuard_agg w _ _ _ _ _ _ q1, Result.andThen_ok, run_neq_struct, g1, g2, q2 l l' w rfl q3, Result.andThen_ok], rfl⟩⟩
theorem binA_sound {P : Program} {op : BinOp} {x y : AV} {K : Prop → AV → Prop} {S : St} {cx cy : Value} {t : TypeId} {ox oy : Operand} {w : World}
  (h : binA P op t ox oy x y K) (hx : VRel S x cx) (hy : VRel S y cy) :
  ∃ p v, K p v ∧ (p → ∃ cv, (do eqGuard op t ox oy cx cy; binOp op t cx cy : Sem Value).run P w = .ok cv w ∧ v = .lit cv) := by
 unfold binA at h
 split at h
 case h_5 => exact h.elim
 case h_4 n f m g => exact aggA_sound h (arrC_rel hx) (arrC_rel hy)
 case h_1 cs ds =>
  exact aggA_sound h hx hy
 case h_2 T v =>
  have e2 := hy.lit_inv
  subst e2
  cases hx with
  | iface hv =>
    cases op <;> first | exact h.elim | skip
    case eql => exact ⟨_, _, h, fun q => ⟨_, by obtain ⟨ms, e⟩ := ifcT_spec q.1; simp [eqGuard, binOp, Op.equal, Op.maxDepth, eqIn_ifn w 9999 t T _ e], rfl⟩⟩
    case neq => exact ⟨_, _, h, fun q => ⟨_, by obtain ⟨ms, e⟩ := ifcT_spec q.1; simp [eqGuard, binOp, Op.equal, Op.maxDepth, eqIn_ifn w 9999 t T _ e], rfl⟩⟩
 case h_3 v y =>
  have e1 := hx.lit_inv
  subst e1
  unfold binLitA at h
  split at h
  case h_5 => exact h.elim
  case h_1 k a => exact intA_sound h hx hy
  case h_2 a b =>
   have e2 := hy.lit_inv
   subst e2
   have hu : boolT P t = true → P.underlying t = some .bool := fun q => by
    unfold boolT at q; split at q
    ·assumption
    ·cases q
   cases op <;> first | exact h.elim | skip
   case eql => exact ⟨_, _, h, fun q => ⟨_, by simp [eqGuard, binOp, run_equal_bool w t a b (hu q)], rfl⟩⟩
   case neq => exact ⟨_, _, h, fun q => ⟨_, by simp [eqGuard, binOp, run_equal_bool w t a b (hu q)], rfl⟩⟩
  case h_3 =>
   have e2 := hy.lit_inv
   subst e2
   have hc : (isConst ox = true ∨ isConst oy = true) → ∀ op : BinOp, (eqGuard op t ox oy .nilIface .nilIface).run P w = .ok () w := fun q op => by
    rcases q with q | q
    ·cases ox <;> simp only [isConst, Bool.false_eq_true] at q
     cases op <;> simp [eqGuard]
    ·cases oy <;> simp only [isConst, Bool.false_eq_true] at q
     cases op <;> simp [eqGuard]
   cases op <;> first | exact h.elim | skip
   case eql => exact ⟨_, _, h, fun q => ⟨_, by obtain ⟨ms, e⟩ := ifcT_spec q.1; rw [Sem.run_bind, hc q.2]; simp [binOp, Op.equal, Op.maxDepth, eqIn_nn w 9999 t e], rfl⟩⟩
   case neq => exact ⟨_, _, h, fun q => ⟨_, by obtain ⟨ms, e⟩ := ifcT_spec q.1; rw [Sem.run_bind, hc q.2]; simp [binOp, Op.equal, Op.maxDepth, eqIn_nn w 9999 t e], rfl⟩⟩
  case h_4 T v =>
   cases hy with
   | iface hv =>
     cases op <;> first | exact h.elim | skip
     case eql => exact ⟨_, _, h, fun q => ⟨_, by obtain ⟨ms, e⟩ := ifcT_spec q.1; simp [eqGuard, binOp, Op.equal, Op.maxDepth, eqIn_nif w 9999 t T _ e], rfl⟩⟩
     case neq => exact ⟨_, _, h, fun q => ⟨_, by obtain ⟨ms, e⟩ := ifcT_spec q.1; simp [eqGuard, binOp, Op.equal, Op.maxDepth, eqIn_nif w 9999 t T _ e], rfl⟩⟩

end Go.V
end
section
set_option linter.unusedVariables false
namespace Go.V
set_option linter.unusedSectionVars false
variable [Inhabited GivT]
def partOk (agg : Bool) (n len j : Nat) : Prop := match agg with
 | true => j + n ≤ len
 | false => j < len

def partA (agg : Bool) (sz : Nat) (cs : List AV) : AV := match agg with
 | true => .agg (cs.take sz)
 | false => cs.getD 0 .any

/-- Is an array of m elements of es cells just what lies in a block? -/
def wholeA (m es n st i j : Nat) (f : Nat → List AV) (K : Prop → AV → Prop) : Prop := K (m = n ∧ es = st ∧ i = 0 ∧ j = 0) (.arr n st f)

def loadRow (P : Program) (T : TypeId) (n st : Nat) (f : Nat → List AV) (i j : Nat) (q : Prop) (K : Prop → AV → Prop) : Prop :=
 match szT P T with
 | some (sz, agg) => match arT P T with
   | some (m, es, _) => if es = st then K (q ∧ m = n ∧ es = st ∧ i = 0 ∧ j = 0) (.arr n st f) else K (q ∧ i < n ∧ j + m * es ≤ st) (.arr m es fun r => ((f i).drop (j + r * es)).take es)
   | none => K (q ∧ i < n ∧ partOk agg sz st j) (partA agg sz ((f i).drop j))
 | none => False

def loadA (P : Program) (T : TypeId) (x : AV) (H : Hp) (K : Prop → AV → Prop) : Prop := match x with
 | .rptr n st f i j => loadRow P T n st f i j True K
 | .ref id g st i j => match H id with
   | some (.box st' n f) => loadRow P T n st' f i j (g = 0 ∧ st' = st) K
   | some (.row st' n f) => loadRow P T n st' f i j (g = n ∧ st' = st) K
   | _ => False
 | .zp _ => K (szT P T = some (0, true)) (.agg [])
 | .tp _ (.rptr n st f i j) => loadRow P T n st f i j True K
 | _ => False

/-- A field of size 0 where its struct begins, in a block of variables of size 0. -/
def zfT (P : Program) (T : TypeId) (f : Nat) (T0 : TypeId) : Bool := match P.underlying T with
 | some (.struct fs) => match fs[f]? with
   | some x => szT P x.type == some (0, true) && x.offset == 0 && x.byteOffset == 0 && P.cellsOf T0 == 0
   | none => false
 | _ => false

/-- A field of no cells where its struct begins, in a block of variables that have cells. -/
def zf1T (P : Program) (T : TypeId) (f : Nat) (T0 : TypeId) : Bool := match P.underlying T with
 | some (.struct fs) => match fs[f]? with
   | some x => szT P x.type == some (0, true) && x.offset == 0 && x.byteOffset == 0 && P.cellsOf T0 != 0 && byteOfCell P P.depth T0 0 == some 0
   | none => false
 | _ => false

def fieldAddrA (P : Program) (T : TypeId) (x : AV) (f : Nat) (K : Prop → AV → Prop) : Prop := match fldT P T f, x with
 | some (off, _, _), .rptr n st g i j => K True (.rptr n st g i (j + off))
 | some (off, _, _), .ref id gn st i j => K True (.ref id gn st i (j + off))
 | _, .zp T0 => K (zfT P T f T0 = true) (.zp T0)
 | some (off, _, _), .tp _ (.rptr n st g i j) => K True (.rptr n st g i (j + off))
 | none, .tp T0 v => K (zf1T P T f T0 = true) v
 | _, _ => False

def indexAddrA (P : Program) (T : TypeId) (x ix : AV) (K : Prop → AV → Prop) : Prop := match ix with
 | .lit (.int _ k) => match elT P T, arT P T, x with
   | some (es, _), _, .rsl n st f => K (es = st ∧ 0 ≤ k ∧ k < n) (.rptr n st f k.toNat 0)
   | some (es, _), _, .sl id st len => K (es = st ∧ 0 ≤ k ∧ k < len) (.ref id len st k.toNat 0)
   | _, some (m, es, _), .rptr n st f i j => if es = st then K (m = n ∧ es = st ∧ i = 0 ∧ j = 0 ∧ 0 ≤ k ∧ k < n) (.rptr n st f k.toNat 0) else K (0 ≤ k ∧ k < m) (.rptr n st f i (j + k.toNat * es))
   | _, some (m, es, _), .ref id g st i j => if es = st then K (es = st ∧ i = 0 ∧ j = 0 ∧ 0 ≤ k ∧ k < m) (.ref id g st k.toNat 0) else K (0 ≤ k ∧ k < m) (.ref id g st i (j + k.toNat * es))
   | _, _, _ => False
 | _ => False

def indexA (P : Program) (T : TypeId) (x ix : AV) (K : Prop → AV → Prop) : Prop := match ix with
 | .lit (.int _ k) => match arT P T, x with
   | some (m, es, agg), .arr n st f => K (m = n ∧ es = st ∧ 0 < st ∧ 0 ≤ k ∧ k < n) (partA agg es (f k.toNat))
   | _, _ => False
 | _ => False

def fieldA (P : Program) (T : TypeId) (x : AV) (f : Nat) (K : Prop → AV → Prop) : Prop := match fldT P T f, x with
 | some (off, sz, agg), .agg cs => K (off + sz ≤ cs.length) (partA agg sz (cs.drop off))
 | _, _ => False

def extractA (x : AV) (ix : Nat) (K : Prop → AV → Prop) : Prop := match x with
 | .tuple vs => K (ix < vs.length) (vs.getD ix .any)
 | _ => False

def lenA (P : Program) (T : TypeId) (x : AV) (K : Prop → AV → Prop) : Prop := match arT P T with
 | some (m, _, _) => K True (.lit (.int .i64 m))
 | none => match elT P T, x with
   | some _, .rsl n _ _ => K True (.lit (.int .i64 n))
   | some _, .sl _ _ n => K True (.lit (.int .i64 n))
   | some _, .lit (.slice none 0 0) => K True (.lit (.int .i64 0))
   | _, _ => False

/-- Behind a method's receiver there is no nil pointer. -/
def nilM (P : Program) (T : TypeId) (nm : String) : Prop := ∀ (v : Value) (w : World), (nilAhead (P.types.size + Made.depth) T v nm).run P w = .ok (some false) w
def nilCheckA (P : Program) (x : AV) (K : Prop → AV → Prop) : Prop := match x with
 | .rptr n st f i j => K True (.rptr n st f i j)
 | .ref id g st i j => K True (.ref id g st i j)
 | .iface t v => K True (.iface t v)
 | .func (.func f) a b => K True (.func (.func f) a b)
 | .func (.method nm) [.iface t v] b => K (nilM P t nm) (.func (.method nm) [.iface t v] b)
 | _ => False

def partV (agg : Bool) (n : Nat) (c : Array Value) (o : Nat) : Value := match agg with
 | true => .agg (c.extract o (o + n))
 | false => c.getD o undef


theorem getD_extract (c : Array Value) (o n k : Nat) (h : k < n) : (c.extract o (o + n)).getD k undef = c.getD (o + k) undef := by
 simp only [Array.getD_eq_getD_getElem?]
 congr 1
 by_cases h' : o + k < c.size
 ·rw [Array.getElem?_extract, if_pos (by omega)]
 ·rw [Array.getElem?_eq_none (Nat.le_of_not_lt h'), Array.getElem?_eq_none (by rw [Array.size_extract]; omega)]

theorem getD_drop (cs : List AV) (o k : Nat) : (cs.drop o).getD k .any = cs.getD (o + k) .any := by
 simp [List.getD, List.getElem?_drop]

theorem getD_take (cs : List AV) (n k : Nat) (h : k < n) : (cs.take n).getD k .any = cs.getD k .any := by
 simp [List.getD, h]

theorem cell_at {w : World} {b o : Nat} {c : Array Value} {e : TypeId} {fz : Nat × Nat} (hb : w.heap[b]? = some (.cells c e fz)) (ho : o < c.size) :
  w.cell? ⟨b, o, none⟩ = some (c.getD o undef) := by
 simp [World.cell?, hb, Array.getElem?_eq_getElem ho]

theorem addr_add (b o k : Nat) : (⟨b, o, none⟩ : Addr).add k = ⟨b, o + k, none⟩ := by
 unfold Addr.add; split
 ·rename_i h; subst h; rfl
 ·rfl

theorem run_loadCells_block {P : Program} {w : World} {b o n : Nat} {c : Array Value} {e : TypeId} {fz : Nat × Nat} (hb : w.heap[b]? = some (.cells c e fz)) (h : o + n ≤ c.size) :
  (loadCells ⟨b, o, none⟩ n).run P w = .ok (c.extract o (o + n)) w := by
 rw [run_loadCells w ⟨b, o, none⟩ n (fun k => c.getD (o + k) undef) (fun j hj => by rw [addr_add]; exact cell_at hb (by omega))]
 congr 1
 apply Array.ext
 ·simp; omega
 ·intro i h1 h2
  simp at h1 h2
  simp [Array.getD]
  rw [dif_pos (show o + i < c.size by omega)]

theorem run_loadVar_block {P : Program} {w : World} {T b o n : Nat} {agg : Bool} {c : Array Value} {e : TypeId} {fz : Nat × Nat} (hT : szT P T = some (n, agg))
  (hb : w.heap[b]? = some (.cells c e fz)) (h : partOk agg n c.size o) :
  (loadVar T ⟨b, o, none⟩).run P w = .ok (partV agg n c o) w := by
 obtain ⟨h1, h2⟩ := szT_spec hT w
 cases agg with
 | true => simp only [loadVar, Sem.run_bind, h2, Result.andThen_ok, if_true, h1, run_loadCells_block hb (show o + n ≤ c.size from h), Sem.run_pure]; rfl
 | false => simp [loadVar, h2, cell_at hb (show o < c.size from h), partV]

/-- What a part of an element is, related. -/
theorem partA_rel {S : St} {c : Array Value} {o n j : Nat} {agg : Bool} {cs : List AV} {v : Value} (hl : partOk agg n cs.length j)
  (h : ∀ k, k < cs.length → VRel S (cs.getD k .any) (c.getD (o + k) undef)) (hsz : o + cs.length ≤ c.size)
  (hv : v = partV agg n c (o + j)) : VRel S (partA agg n (cs.drop j)) v := by
 subst hv
 cases agg with
 | true =>
   simp only [partOk] at hl
   refine .agg (by simp; omega) fun k hk => ?_
   have hk' : k < n := by simp at hk; omega
   rw [getD_take _ _ _ hk', getD_drop, getD_extract _ _ _ _ hk', Nat.add_assoc]
   exact h (j + k) (by omega)
 | false =>
   simp only [partOk] at hl
   show VRel S ((cs.drop j).getD 0 .any) _
   rw [getD_drop]
   exact h j hl

theorem arT_szT {P : Program} {T m es : Nat} {a : Bool} (h : arT P T = some (m, es, a)) : szT P T = some (m * es, true) := by
 unfold arT at h
 split at h <;> try cases h
 split at h <;> try cases h
 split at h <;> try cases h
 assumption

theorem loadRow_sound {P : Program} {T n st i j : Nat} {f : Nat → List AV} {q : Prop} {K : Prop → AV → Prop} {S : St} {b off : Nat} {c : Array Value} {e : TypeId} {fz : Nat × Nat}
  (h : loadRow P T n st f i j q K) (hb : S.w.heap[b]? = some (.cells c e fz)) (hsz : off + n * st ≤ c.size) (hf : ∀ i, i < n → (f i).length = st)
  (hh : ∀ i j, i < n → j < st → VRel S ((f i).getD j .any) (c.getD (off + i * st + j) undef)) :
  ∃ p v, K p v ∧ (p → q ∧ ∃ cv, (loadVar T ⟨b, off + i * st + j, none⟩).run P S.w = .ok cv S.w ∧ VRel S v cv) := by
 unfold loadRow at h
 cases hs : szT P T with
 | none => simp [hs] at h
 | some p =>
   obtain ⟨sz, agg⟩ := p
   cases ha : arT P T with
   | some p =>
     obtain ⟨m, es, ag⟩ := p
     simp only [hs, ha] at h
     by_cases hes : es = st
     case neg =>
      rw [if_neg hes] at h
      refine ⟨_, _, h, ?_⟩
      rintro ⟨hq, hi, hj⟩
      have := arT_szT ha
      rw [hs] at this
      simp only [Option.some.injEq, Prod.mk.injEq] at this
      obtain ⟨rfl, rfl⟩ := this
      have hlen := hf i hi
      have hlt : (i + 1) * st ≤ n * st := Nat.mul_le_mul_right _ hi
      rw [Nat.add_mul, Nat.one_mul] at hlt
      refine ⟨hq, _, run_loadVar_block hs hb (show off + i * st + j + m * es ≤ c.size by omega), .arr (by simp; omega) (fun r hr => ?_) fun r k hr hk => ?_⟩
      ·have h1 : (r + 1) * es ≤ m * es := Nat.mul_le_mul_right _ hr
       rw [Nat.add_mul] at h1
       simp; omega
      ·have h1 : (r + 1) * es ≤ m * es := Nat.mul_le_mul_right _ hr
       rw [Nat.add_mul] at h1
       rw [getD_extract _ _ _ _ (by omega)]
       have h2 := hh i (j + r * es + k) hi (by omega)
       have e1 : (((f i).drop (j + r * es)).take es).getD k .any = (f i).getD (j + r * es + k) .any := by
        simp only [List.getD, List.getElem?_take_of_lt hk, List.getElem?_drop]
       rw [e1, show off + i * st + j + (r * es + k) = off + i * st + (j + r * es + k) by omega]
       exact h2
     rw [if_pos hes] at h
     refine ⟨_, _, h, ?_⟩
     rintro ⟨hq, rfl, rfl, rfl, rfl⟩
     have := arT_szT ha
     rw [hs] at this
     simp only [Option.some.injEq, Prod.mk.injEq] at this
     obtain ⟨rfl, rfl⟩ := this
     simp only [Nat.zero_mul, Nat.add_zero]
     refine ⟨hq, _, run_loadVar_block hs hb (show off + m * es ≤ c.size from hsz), .arr (by simp; omega) hf fun i j hi hj => ?_⟩
     have hlt : i * es + j < m * es := by
      have : (i + 1) * es ≤ m * es := Nat.mul_le_mul_right _ hi
      rw [Nat.add_mul] at this; omega
     rw [getD_extract _ _ _ _ hlt, ← Nat.add_assoc]
     exact hh i j hi hj
   | none =>
     simp only [hs, ha] at h
     refine ⟨_, _, h, ?_⟩
     rintro ⟨hq, hi, hj⟩
     have hlen := hf i hi
     have hlt : (i + 1) * st ≤ n * st := Nat.mul_le_mul_right _ hi
     rw [Nat.add_mul, Nat.one_mul] at hlt
     refine ⟨hq, _, run_loadVar_block hs hb (by cases agg <;> simp only [partOk] at hj ⊢ <;> omega), ?_⟩
     refine partA_rel (c := c) (cs := f i) (o := off + i * st) (by cases agg <;> simp only [partOk] at hj ⊢ <;> omega) (fun k hk => ?_) (by omega) rfl
     exact hh i k hi (by omega)

theorem loadA_sound {P : Program} {T : TypeId} {x : AV} {H : Hp} {K : Prop → AV → Prop} {S : St} {cx : Value} (h : loadA P T x H K) (hH : HRel S H) (hx : VRel S x cx) :
  ∃ p v, K p v ∧ (p → ∃ cv, (Instr.loadAt T cx).run P S.w = .ok cv S.w ∧ VRel S v cv) := by
 unfold loadA at h
 split at h
 case h_1 n st f i j =>
  cases hx with
  | rptr hi hb hsz hf hh =>
    obtain ⟨p, v, hk, hp⟩ := loadRow_sound h hb hsz hf hh
    exact ⟨p, v, hk, fun q => by
     obtain ⟨-, cv, e, r⟩ := hp q
     exact ⟨cv, by simp [Instr.loadAt, Instr.sureAddr, e], r⟩⟩
 case h_2 id g st i j =>
  cases hx with
  | ref hl =>
    split at h
    case h_1 st' n f ho =>
     obtain ⟨b', c, e, hl', hb, hni, hc⟩ := hH.obj id _ ho
     obtain ⟨p, v, hk, hp⟩ := loadRow_sound (off := 0) h hb (by rw [Nat.zero_add]; exact hc.1) hc.2.1 (fun i j hi hj => by rw [Nat.zero_add]; exact hc.2.2 i j hi hj)
     exact ⟨p, v, hk, fun q => by
      obtain ⟨⟨rfl, rfl⟩, cv, e, r⟩ := hp q
      rw [hl] at hl'; cases hl'
      exact ⟨cv, by rw [Nat.zero_add] at e; simp [Instr.loadAt, Instr.sureAddr, e], r⟩⟩
    case h_2 st' n f ho =>
     obtain ⟨hg, hcase⟩ := hH.obj id _ ho
     rcases hcase with ⟨rfl, hnil⟩ | ⟨b', c, e, hl', hb, hni, hc⟩
     ·have nonsense : ∀ (k : K = K), True := fun _ => trivial
      unfold loadRow at h
      split at h
      ·split at h
       ·split at h
        ·refine ⟨_, _, h, ?_⟩
         rintro ⟨⟨rfl, rfl⟩, rfl, rfl, rfl, rfl⟩
         rw [hnil] at hl; cases hl
        ·refine ⟨_, _, h, ?_⟩
         rintro ⟨_, hlt, _⟩
         omega
       ·refine ⟨_, _, h, ?_⟩
        rintro ⟨_, hlt, _⟩
        omega
      ·exact h.elim
     ·obtain ⟨p, v, hk, hp⟩ := loadRow_sound (off := 0) h hb (by rw [Nat.zero_add]; exact hc.1) hc.2.1 (fun i j hi hj => by rw [Nat.zero_add]; exact hc.2.2 i j hi hj)
      exact ⟨p, v, hk, fun q => by
       obtain ⟨⟨rfl, rfl⟩, cv, e, r⟩ := hp q
       rw [hl] at hl'; cases hl'
       exact ⟨cv, by rw [Nat.zero_add] at e; simp [Instr.loadAt, Instr.sureAddr, e], r⟩⟩
    case h_3 => exact h.elim
 case h_3 T0 =>
  refine ⟨_, _, h, fun hs => ?_⟩
  cases hx with
  | zp hi hb =>
    obtain ⟨h1, h2⟩ := szT_spec hs S.w
    exact ⟨.agg #[], by simp [Instr.loadAt, Instr.sureAddr, loadVar, h1, h2, loadCells, loadCellsFrom], .agg rfl fun k hk => absurd hk (by simp)⟩
 case h_4 t0 n st f i j =>
  cases hx with
  | tp hx hi0 hb0 =>
    generalize hq : Value.pointer _ = q at hx ⊢
    cases hx with
    | rptr hi hb hsz hf hh =>
      obtain ⟨p, v, hk, hp⟩ := loadRow_sound h hb hsz hf hh
      exact ⟨p, v, hk, fun q => by
       obtain ⟨-, cv, e, r⟩ := hp q
       exact ⟨cv, by simp [Instr.loadAt, Instr.sureAddr, e], r⟩⟩
 case h_5 => exact h.elim

theorem fldT_spec {P : Program} {T f off n : Nat} {b : Bool} (h : fldT P T f = some (off, n, b)) (w : World) :
  ∃ fs x, (underlying T).run P w = .ok (.struct fs) w ∧ fs[f]? = some x ∧ x.offset = off ∧ szT P x.type = some (n, b) ∧ n ≠ 0 := by
 unfold fldT at h
 split at h
 case h_2 => cases h
 case h_1 fs hu =>
  split at h
  case h_2 => cases h
  case h_1 x hx =>
   split at h
   case h_2 => cases h
   case h_1 m b' hs =>
    split at h
    ·cases h
    ·simp only [Option.some.injEq, Prod.mk.injEq] at h
     obtain ⟨rfl, rfl, rfl⟩ := h
     exact ⟨fs, x, run_underlying hu w, hx, rfl, hs, by assumption⟩

theorem fieldAddrA_sound {P : Program} {T f : Nat} {x : AV} {K : Prop → AV → Prop} {S : St} {cx : Value} (h : fieldAddrA P T x f K) (hx : VRel S x cx) :
  ∃ p v, K p v ∧ (p → ∃ cv, (Instr.fieldAt T cx f).run P S.w = .ok cv S.w ∧ VRel S v cv) := by
 unfold fieldAddrA at h
 split at h
 case h_6 => exact h.elim
 case h_4 off n b T0 n' st g i j hfl =>
  obtain ⟨fs, x, hu, hfx, rfl, hs, hn⟩ := fldT_spec hfl S.w
  refine ⟨_, _, h, fun _ => ?_⟩
  cases hx with
  | tp hx hi0 hb0 =>
    generalize hq : Value.pointer _ = q at hx ⊢
    cases hx with
    | rptr hi hb hsz hf hh =>
      refine ⟨_, ?_, .rptr hi hb hsz hf hh⟩
      have := (szT_spec hs S.w).1
      simp [Instr.fieldAt, hu, hfx, Instr.sureAddr, fieldPlace, this, hn, addr_add, Nat.add_assoc]
 case h_5 T0 v0 hfl =>
  refine ⟨_, _, h, fun hz => ?_⟩
  cases hx with
  | @tp _ _ b c fz hx hi hb =>
    unfold zf1T at hz
    split at hz
    case h_2 => cases hz
    case h_1 fs hu =>
     split at hz
     case h_2 => cases hz
     case h_1 x hx' =>
      simp only [Bool.and_eq_true, beq_iff_eq, bne_iff_ne] at hz
      obtain ⟨⟨⟨⟨h1, h2⟩, h3⟩, h4⟩, h5⟩ := hz
      have h6 := (szT_spec h1 S.w).1
      refine ⟨_, ?_, hx⟩
      have hsh : S.w.shape? b = some (T0, c.size) := by simp only [World.shape?, hb]
      simp [Instr.fieldAt, run_underlying hu, hx', Instr.sureAddr, fieldPlace, h6, partAt, byteOf, h2, h3, noView, viewAt, hsh, h4, h5]
 case h_3 T0 hne =>
  refine ⟨_, _, h, fun hz => ?_⟩
  cases hx with
  | @zp _ b c fz hi hb =>
    unfold zfT at hz
    split at hz
    case h_2 => cases hz
    case h_1 fs hu =>
     split at hz
     case h_2 => cases hz
     case h_1 x hx =>
      simp only [Bool.and_eq_true, beq_iff_eq] at hz
      obtain ⟨⟨⟨h1, h2⟩, h3⟩, h4⟩ := hz
      have h5 := (szT_spec h1 S.w).1
      refine ⟨_, ?_, .zp hi hb⟩
      have hsh : S.w.shape? b = some (hne, c.size) := by simp only [World.shape?, hb]
      simp [Instr.fieldAt, run_underlying hu, hx, Instr.sureAddr, fieldPlace, h5, partAt, byteOf, h2, h3, noView, viewAt, hsh, h4]
 case h_1 off n b st' st g i j hfl =>
  obtain ⟨fs, x, hu, hfx, rfl, hs, hn⟩ := fldT_spec hfl S.w
  refine ⟨_, _, h, fun _ => ?_⟩
  cases hx with
  | rptr hi hb hsz hf hh =>
    refine ⟨_, ?_, .rptr hi hb hsz hf hh⟩
    have := (szT_spec hs S.w).1
    simp [Instr.fieldAt, hu, hfx, Instr.sureAddr, fieldPlace, this, hn, addr_add, Nat.add_assoc]
 case h_2 off n b id gn st i j hfl =>
  obtain ⟨fs, x, hu, hfx, rfl, hs, hn⟩ := fldT_spec hfl S.w
  refine ⟨_, _, h, fun _ => ?_⟩
  cases hx with
  | ref hl =>
    refine ⟨_, ?_, .ref hl⟩
    have := (szT_spec hs S.w).1
    simp [Instr.fieldAt, hu, hfx, Instr.sureAddr, fieldPlace, this, hn, addr_add, Nat.add_assoc]

theorem elT_spec {P : Program} {T n : Nat} {b : Bool} (h : elT P T = some (n, b)) : ∃ e, P.underlying T = some (.slice e) ∧ szT P e = some (n, b) := by
 unfold elT at h
 split at h
 case h_1 e hu => exact ⟨e, hu, h⟩
 case h_2 => cases h

theorem arT_spec {P : Program} {T m n : Nat} {b : Bool} (h : arT P T = some (m, n, b)) : ∃ e, P.underlying T = some (.array m e) ∧ szT P e = some (n, b) := by
 unfold arT at h
 split at h <;> try cases h
 split at h <;> try cases h
 split at h <;> try cases h
 exact ⟨_, by assumption, by assumption⟩

theorem indexAddrA_sound {P : Program} {T : Nat} {x ix : AV} {K : Prop → AV → Prop} {S : St} {cx ci : Value} (h : indexAddrA P T x ix K) (hx : VRel S x cx) (hi : VRel S ix ci) :
  ∃ p v, K p v ∧ (p → ∃ cv, (Instr.indexAt T cx ci).run P S.w = .ok cv S.w ∧ VRel S v cv) := by
 unfold indexAddrA at h
 split at h
 case h_2 => exact h.elim
 case h_1 kk k =>
  have e := hi.lit_inv
  subst e
  split at h
  case h_5 => exact h.elim
  case h_1 es b n st f he =>
   obtain ⟨e, hu, hs⟩ := elT_spec he
   refine ⟨_, _, h, ?_⟩
   rintro ⟨rfl, h0, hlt⟩
   have h1 := run_underlying hu S.w
   have h2 := (szT_spec hs S.w).1
   cases hx with
   | rsl0 => omega
   | rsl hi' hb hsz hf hh _ =>
     refine ⟨_, ?_, .rptr hi' hb hsz hf hh⟩
     simp [Instr.indexAt, asIntOf, h1, h2, h0, hlt, addr_add]
  case h_2 es b id st len he =>
   obtain ⟨e, hu, hs⟩ := elT_spec he
   refine ⟨_, _, h, ?_⟩
   rintro ⟨rfl, h0, hlt⟩
   have h1 := run_underlying hu S.w
   have h2 := (szT_spec hs S.w).1
   cases hx with
   | slnil _ => omega
   | sl hl hb hc hlen =>
     refine ⟨_, ?_, .ref hl⟩
     simp [Instr.indexAt, asIntOf, h1, h2, h0, hlt, addr_add]
  case h_3 m es b n st f i j ha =>
   obtain ⟨e, hu, hs⟩ := arT_spec ha
   have h1 := run_underlying hu S.w
   have h2 := (szT_spec hs S.w).1
   split at h
   ·refine ⟨_, _, h, ?_⟩
    rintro ⟨rfl, rfl, rfl, rfl, h0, hlt⟩
    cases hx with
    | rptr hi' hb hsz hf hh =>
      refine ⟨_, ?_, .rptr hi' hb hsz hf hh⟩
      simp [Instr.indexAt, asIntOf, h1, h2, h0, hlt, addr_add, Instr.sureAddr]
   ·refine ⟨_, _, h, ?_⟩
    rintro ⟨h0, hlt⟩
    cases hx with
    | rptr hi' hb hsz hf hh =>
      refine ⟨_, ?_, .rptr hi' hb hsz hf hh⟩
      simp [Instr.indexAt, asIntOf, h1, h2, h0, hlt, addr_add, Instr.sureAddr, Nat.add_assoc]
  case h_4 m es b id g st i j ha =>
   obtain ⟨e, hu, hs⟩ := arT_spec ha
   have h1 := run_underlying hu S.w
   have h2 := (szT_spec hs S.w).1
   split at h
   ·refine ⟨_, _, h, ?_⟩
    rintro ⟨rfl, rfl, rfl, h0, hlt⟩
    cases hx with
    | ref hl =>
      refine ⟨_, ?_, .ref hl⟩
      simp [Instr.indexAt, asIntOf, h1, h2, h0, hlt, addr_add, Instr.sureAddr]
   ·refine ⟨_, _, h, ?_⟩
    rintro ⟨h0, hlt⟩
    cases hx with
    | ref hl =>
      refine ⟨_, ?_, .ref hl⟩
      simp [Instr.indexAt, asIntOf, h1, h2, h0, hlt, addr_add, Instr.sureAddr, Nat.add_assoc]

theorem run_part {P : Program} {w : World} {T n o : Nat} {agg : Bool} {c : Array Value} (hT : szT P T = some (n, agg)) (h : partOk agg n c.size o) :
  (part T c o).run P w = .ok (partV agg n c o) w := by
 obtain ⟨h1, h2⟩ := szT_spec hT w
 cases agg with
 | true => simp [part, h1, h2, partV]
 | false => simp [part, h2, partV, Array.getElem?_eq_getElem (show o < c.size from h)]

theorem indexA_sound {P : Program} {T : Nat} {x ix : AV} {K : Prop → AV → Prop} {S : St} {cx ci : Value} (h : indexA P T x ix K) (hx : VRel S x cx) (hi : VRel S ix ci) :
  ∃ p v, K p v ∧ (p → ∃ cv, (Instr.index T cx ci).run P S.w = .ok cv S.w ∧ VRel S v cv) := by
 unfold indexA at h
 split at h
 case h_2 => exact h.elim
 case h_1 kk k =>
  have e := hi.lit_inv
  subst e
  split at h
  case h_2 => exact h.elim
  case h_1 m es agg n st f ha =>
   obtain ⟨e, hu, hs⟩ := arT_spec ha
   refine ⟨_, _, h, ?_⟩
   rintro ⟨rfl, rfl, hst, h0, hlt⟩
   have h1 := run_underlying hu S.w
   have h2 := (szT_spec hs S.w).1
   have hk : k.toNat < m := by omega
   have hm : (k.toNat + 1) * es ≤ m * es := Nat.mul_le_mul_right _ hk
   rw [Nat.add_mul, Nat.one_mul] at hm
   cases hx with
   | @arr _ _ _ vs hn hf hh =>
     have hl := hf _ hk
     have h3 := run_part (w := S.w) hs (c := vs) (o := k.toNat * es) (show partOk agg es vs.size _ by cases agg <;> simp only [partOk] <;> omega)
     refine ⟨partV agg es vs (k.toNat * es), ?_, ?_⟩
     ·simp only [Instr.index, asIntOf, Sem.run_bind, Sem.run_pure, Result.andThen_ok, h1, if_pos (And.intro h0 hlt), h2, h3]
     ·have := partA_rel (S := S) (o := k.toNat * es) (n := es) (j := 0) (agg := agg) (cs := f k.toNat) (v := _) (by cases agg <;> simp only [partOk] <;> omega) (fun q hq => hh _ q hk (by omega)) (by omega) rfl
      simpa using this

theorem fieldA_sound {P : Program} {T f : Nat} {x : AV} {K : Prop → AV → Prop} {S : St} {cx : Value} (h : fieldA P T x f K) (hx : VRel S x cx) :
  ∃ p v, K p v ∧ (p → ∃ cv, (Instr.field T cx f).run P S.w = .ok cv S.w ∧ VRel S v cv) := by
 unfold fieldA at h
 split at h
 case h_2 => exact h.elim
 case h_1 off sz agg cs hfl =>
  obtain ⟨fs, x, hu, hfx, rfl, hs, hn⟩ := fldT_spec hfl S.w
  refine ⟨_, _, h, fun hle => ?_⟩
  cases hx with
  | @agg _ vs hn' hh =>
    have h3 := run_part (w := S.w) hs (c := vs) (o := x.offset) (show partOk agg sz vs.size _ by cases agg <;> simp only [partOk] <;> omega)
    refine ⟨partV agg sz vs x.offset, ?_, ?_⟩
    ·simp only [Instr.field, Sem.run_bind, hu, Result.andThen_ok, hfx, asAgg, Sem.run_pure, h3]
    ·exact partA_rel (S := S) (o := 0) (n := sz) (j := x.offset) (agg := agg) (cs := cs) (by cases agg <;> simp only [partOk] <;> omega) (fun q hq => by rw [Nat.zero_add]; exact hh q hq) (by omega) (by rw [Nat.zero_add])

theorem extractA_sound {P : Program} {x : AV} {ix : Nat} {K : Prop → AV → Prop} {S : St} {cx : Value} (h : extractA x ix K) (hx : VRel S x cx) :
  ∃ p v, K p v ∧ (p → ∃ cv, (Instr.extract cx ix).run P S.w = .ok cv S.w ∧ VRel S v cv) := by
 unfold extractA at h
 split at h
 case h_2 => exact h.elim
 case h_1 vs =>
  refine ⟨_, _, h, fun hlt => ?_⟩
  cases hx with
  | @tuple _ ws hn hh =>
    have hx : ix < ws.size := by omega
    exact ⟨ws[ix], by simp only [Instr.extract, Array.getElem?_eq_getElem hx, Sem.run_pure], by
     have := hh ix hlt
     rwa [Array.getD_eq_getD_getElem?, Array.getElem?_eq_getElem hx, Option.getD_some] at this⟩

theorem lenA_sound {P : Program} {T : Nat} {ty : TypeId} {x : AV} {K : Prop → AV → Prop} {S : St} {cx : Value} (h : lenA P T x K) (hx : VRel S x cx) :
  ∃ p v, K p v ∧ (p → ∃ cv, (Builtin.len_ #[T] ty #[cx]).run P S.w = .ok cv S.w ∧ VRel S v cv) := by
 unfold lenA at h
 split at h
 case h_1 m es b ha =>
  obtain ⟨e, hu, hs⟩ := arT_spec ha
  refine ⟨_, _, h, fun _ => ?_⟩
  exact ⟨_, by simp [Builtin.len_, run_underlying hu, goInt], .lit _⟩
 case h_2 =>
  split at h
  case h_4 => exact h.elim
  case h_1 p n st f he =>
   obtain ⟨e, hu, hs⟩ := elT_spec he
   refine ⟨_, _, h, fun _ => ?_⟩
   cases hx with
   | rsl0 => exact ⟨_, by simp [Builtin.len_, run_underlying hu, goInt], .lit _⟩
   | rsl _ _ _ _ _ => exact ⟨_, by simp [Builtin.len_, run_underlying hu, goInt], .lit _⟩
  case h_2 p id st n he =>
   obtain ⟨e, hu, hs⟩ := elT_spec he
   refine ⟨_, _, h, fun _ => ?_⟩
   cases hx with
   | slnil _ => exact ⟨_, by simp [Builtin.len_, run_underlying hu, goInt], .lit _⟩
   | sl _ _ _ _ => exact ⟨_, by simp [Builtin.len_, run_underlying hu, goInt], .lit _⟩
  case h_3 p he =>
   obtain ⟨e, hu, hs⟩ := elT_spec he
   refine ⟨_, _, h, fun _ => ?_⟩
   have e := hx.lit_inv
   subst e
   exact ⟨_, by simp [Builtin.len_, run_underlying hu, goInt], .lit _⟩

end Go.V
end
section
set_option linter.unusedVariables false
namespace Go.V
set_option linter.unusedSectionVars false
variable [Inhabited GivT]
/-- The cells of a value. -/
def arrL (f : Nat → List AV) : Nat → List AV
 | 0 => []
 | n + 1 => arrL f n ++ f n
def cellsA : AV → List AV
 | .agg cs => cs
 | .arr n _ f => arrL f n
 | v => [v]
theorem arrL_spec {f : Nat → List AV} {st : Nat} : ∀ n : Nat, (∀ i, i < n → (f i).length = st) → (arrL f n).length = n * st ∧ ∀ i j, i < n → j < st → (arrL f n).getD (i * st + j) .any = (f i).getD j .any
 | 0, _ => ⟨by simp [arrL], fun i j hi => absurd hi (Nat.not_lt_zero i)⟩
 | n + 1, hf => by
   obtain ⟨h1, h2⟩ := arrL_spec n fun i hi => hf i (Nat.lt_succ_of_lt hi)
   have h3 := hf n (Nat.lt_succ_self n)
   refine ⟨by simp only [arrL, List.length_append, h1, h3, Nat.succ_mul], fun i j hi hj => ?_⟩
   have hnst : (n + 1) * st = n * st + st := Nat.succ_mul n st
   by_cases e : i = n
   ·subst e
    simp only [arrL, List.getD_eq_getElem?_getD]
    rw [List.getElem?_append_right (by omega), h1, Nat.add_sub_cancel_left]
   ·have hlt : (i + 1) * st ≤ n * st := Nat.mul_le_mul_right _ (by omega)
    rw [Nat.succ_mul] at hlt
    have := h2 i j (by omega) hj
    rw [← this]
    simp only [arrL, List.getD_eq_getElem?_getD]
    rw [List.getElem?_append_left (by omega)]

/-- Is an abstract value surely that of one cell? -/
def cellA : AV → Bool
 | .lit (.agg _) => false
 | .lit (.tuple _) => false
 | .lit _ => true
 | .rptr .. => true
 | .rsl .. => true
 | .ref .. => true
 | .sl .. => true
 | .vw .. => true
 | .map _ => true
 | .func .. => true
 | .iface .. => true
 | _ => false

def boxA (x : AV) (K : Prop → AV → Prop) : Prop := match x with
 | .agg cs => K True (.rptr 1 cs.length (fun _ => cs) 0 0)
 | .arr n st f => K True (.rptr n st f 0 0)
 | x => K (cellA x = true) (.rptr 1 1 (fun _ => [x]) 0 0)

/-- Is a variable of this type of size 0? -/
def zT (P : Program) (T : TypeId) : Option Bool := match szT P T with
 | some (0, _) => some true
 | _ => match P.underlying T with
   | some (.struct fs) => if fs.any (fun f => szT P f.type == some (0, true)) then none else some false
   | _ => some false
def boxZ (P : Program) (T : TypeId) (x : AV) (K : Prop → AV → Prop) : Prop := match zT P T with
 | some true => K True (.zp T)
 | some false => boxA x K
 | none => boxA x fun p v => K p (.tp T v)

/-- Where a field of no cells begins. -/
def zfO (P : Program) (T : TypeId) (f : Nat) : Option Nat := match P.underlying T with
 | some (.struct fs) => match fs[f]? with
   | some x => match szT P x.type with
     | some (0, _) => some x.offset
     | _ => none
   | none => none
 | _ => none

def fillA (P : Program) (T : TypeId) : List (Nat × AV) → List AV → (List AV → Prop) → Prop
 | [], cs, K => K cs
 | (i, v) :: r, cs, K => match fldT P T i with
   | some (off, sz, _) => match cellsA v with
     | vs => vs.length = sz ∧ off + sz ≤ cs.length ∧ fillA P T r (cs.take off ++ vs ++ cs.drop (off + sz)) K
   | none => match zfO P T i with
     | some off => cellsA v = [] ∧ off ≤ cs.length ∧ fillA P T r cs K
     | none => False

/-- The parts of an array. -/
def fillR (es : Nat) : List (Nat × AV) → List AV → (List AV → Prop) → Prop
 | [], cs, K => K cs
 | (i, v) :: r, cs, K => (cellsA v).length = es ∧ i * es + es ≤ cs.length ∧ fillR es r (cs.take (i * es) ++ cellsA v ++ cs.drop (i * es + es)) K
theorem fillR_nil (es : Nat) (cs : List AV) (K : List AV → Prop) : fillR es [] cs K = K cs := (rfl)
theorem fillR_cons (es i : Nat) (v : AV) (r : List (Nat × AV)) (cs : List AV) (K : List AV → Prop) :
  fillR es ((i, v) :: r) cs K = ((cellsA v).length = es ∧ i * es + es ≤ cs.length ∧ fillR es r (cs.take (i * es) ++ cellsA v ++ cs.drop (i * es + es)) K) := (rfl)

def okParts : List (Nat × AV) → Prop
 | [] => True
 | (_, v) :: r => (match v with | .agg _ => True | .arr _ _ _ => True | v => cellA v = true) ∧ okParts r

def convA (P : Program) (T : TypeId) (x : AV) (K : Prop → AV → Prop) : Prop := match intT P T, x with
 | some k, .lit (.int _ n) => K (InR k n) (.lit (.int k n))
 | _, _ => False

def mmA (mx : Bool) (xs : List AV) (K : Prop → AV → Prop) : Prop := match xs with
 | [.lit (.int k a), .lit (.int k' b)] => K (k = k') (.lit (.int k (match mx with | true => max a b | false => min a b)))
 | [.lit (.int k a), .lit (.int k' b), .lit (.int k'' c)] => K (k = k' ∧ k = k'') (.lit (.int k (match mx with | true => max (max a b) c | false => min (min a b) c)))
 | [.lit (.int k a), .lit (.int k' b), .lit (.int k'' c), .lit (.int k3 d)] => K (k = k' ∧ k = k'' ∧ k = k3) (.lit (.int k (match mx with | true => max (max (max a b) c) d | false => min (min (min a b) c) d)))
 | [.lit (.int k a), .lit (.int k' b), .lit (.int k'' c), .lit (.int k3 d), .lit (.int k4 e)] => K (k = k' ∧ k = k'' ∧ k = k3 ∧ k = k4) (.lit (.int k (match mx with | true => max (max (max (max a b) c) d) e | false => min (min (min (min a b) c) d) e)))
 | _ => False

def pickA (c a b : AV) (K : Prop → AV → Prop) : Prop := match c with
 | .lit (.bool g) => match a.st, b.st with
   | .lit (.bool x), .lit (.bool y) => K ((g = true → a.ok) ∧ (g = false → b.ok)) (.lit (.bool (bif g then x else y)))
   | _, _ => False
 | _ => False

theorem cell_one {S : St} {x : AV} {v : Value} (h : VRel S x v) (hc : cellA x = true) : v.oneCell' = true ∧ v.cells = #[v] := by
 cases h <;> simp [cellA] at hc <;> try exact ⟨rfl, rfl⟩
 cases v <;> simp at hc <;> exact ⟨rfl, rfl⟩

theorem cellsA_rel {S : St} {x : AV} {v : Value} (h : VRel S x v) (hc : (∃ cs, x = .agg cs) ∨ (∃ n st f, x = .arr n st f) ∨ cellA x = true) :
  v.cells.size = (cellsA x).length ∧ ∀ k, k < (cellsA x).length → VRel S ((cellsA x).getD k .any) (v.cells.getD k undef) := by
 rcases hc with ⟨cs, rfl⟩ | ⟨n, st, f, rfl⟩ | hc
 ·cases h with
  | agg hn hh => exact ⟨hn, hh⟩
 ·cases h with
  | @arr _ _ _ vs hn hf hh =>
    obtain ⟨h1, h2⟩ := arrL_spec n hf
    refine ⟨by show vs.size = (arrL f n).length; rw [hn, h1], fun k hk => ?_⟩
    have hk : k < n * st := by rw [← h1]; exact hk
    have hst : 0 < st := by
     rcases Nat.eq_zero_or_pos st with e | e
     ·rw [e, Nat.mul_zero] at hk; exact absurd hk (Nat.not_lt_zero k)
     ·exact e
    have hi : k / st < n := Nat.div_lt_of_lt_mul (by rw [Nat.mul_comm]; exact hk)
    have hj : k % st < st := Nat.mod_lt _ hst
    have e : k / st * st + k % st = k := by rw [Nat.mul_comm]; exact Nat.div_add_mod k st
    have h3 := h2 (k / st) (k % st) hi hj
    have h4 := hh (k / st) (k % st) hi hj
    rw [e] at h3 h4
    show VRel S ((arrL f n).getD k .any) (vs.getD k undef)
    rw [h3]; exact h4
 ·have h1 := (cell_one h hc).2
  have h2 : cellsA x = [x] := by cases x <;> simp [cellA] at hc <;> rfl
  rw [h1, h2]
  refine ⟨rfl, fun k hk => ?_⟩
  have : k = 0 := by simp at hk; omega
  subst this
  exact h

/-- A new block that is never written. -/
def St.newImm (S : St) (o : Go.Obj) : St := { S with w := S.w.alloc o, imm := fun b => S.imm b ∨ b = S.w.heap.size }

theorem heap_alloc (w : World) (o : Go.Obj) : (w.alloc o).heap[w.heap.size]? = some o := by
 show (w.heap.push o)[w.heap.size]? = some o
 simp
theorem heap_alloc_lt (w : World) (o : Go.Obj) {b : Nat} (h : b < w.heap.size) : (w.alloc o).heap[b]? = w.heap[b]? := by
 show (w.heap.push o)[b]? = _
 rw [Array.getElem?_push, if_neg (by omega)]

theorem lt_of_heap {w : World} {b : Nat} {o : Go.Obj} (h : w.heap[b]? = some o) : b < w.heap.size := (Array.getElem?_eq_some_iff.1 h).1

theorem St.newImm_le {S : St} {H : Hp} (hH : HRel S H) (o : Go.Obj) : Le S (S.newImm o) where
 os := rfl
 tape := rfl
 output := rfl
 size := by simp [St.newImm]
 imm := fun b h => .inl h
 keep := fun b h => heap_alloc_lt _ _ (hH.immlt b h)
 loc := fun _ _ _ => rfl
 next := Nat.le_refl _
 csize := fun b c e fz h => ⟨c, by rw [St.newImm, heap_alloc_lt _ _ (lt_of_heap h)]; exact h, rfl⟩

/-- An object stays what it is where its block and its place stay. -/
theorem OkObj.keep {S S' : St} {i : Nat} {o : Obj} (h : OkObj S i o) (hle : Le S S') (hloc : ∀ g, S'.loc i g = S.loc i g)
  (hb : ∀ b, S.loc i o.gen = .blk b → S'.w.heap[b]? = S.w.heap[b]?) (hi : ∀ b, S.loc i o.gen = .blk b → b < S.w.heap.size → S'.imm b → S.imm b) : OkObj S' i o := by
 cases o with
 | box st n f =>
   obtain ⟨b, c, e, h1, h2, h3, h4⟩ := h
   exact ⟨b, c, e, (hloc 0).trans h1, (hb b h1).trans h2, fun x => h3 (hi b h1 (lt_of_heap h2) x), h4.1, h4.2.1, fun i j hi hj => (h4.2.2 i j hi hj).mono hle⟩
 | row st n f =>
   obtain ⟨g1, old⟩ := h
   refine ⟨fun g hg => (hloc g).trans (g1 g hg), old.imp (fun ⟨x, y⟩ => ⟨x, (hloc 0).trans y⟩) ?_⟩
   rintro ⟨b, c, e, h1, h2, h3, h4⟩
   exact ⟨b, c, e, (hloc n).trans h1, (hb b h1).trans h2, fun x => h3 (hi b h1 (lt_of_heap h2) x), h4.1, h4.2.1, fun i j hi hj => (h4.2.2 i j hi hj).mono hle⟩
 | memo F =>
   obtain ⟨b, es, k, h1, h2, h3, h4⟩ := h
   exact ⟨b, es, k, (hloc 0).trans h1, (hb b h1).trans h2, fun x => h3 (hi b h1 (lt_of_heap h2) x), h4⟩
 | raw o =>
   obtain ⟨b, h1, h2, h3, h4⟩ := h
   exact ⟨b, (hloc 0).trans h1, (hb b h1).trans h2, h3, fun x => h4 (hi b h1 (lt_of_heap h2) x)⟩
 | iter mid since seen c0 =>
   obtain ⟨r', b', h1, h2, h3, h4⟩ := h
   exact ⟨r', b', (hloc 0).trans h1, hle.locBlk h2, (hb r' h1).trans h3, fun x => h4 (hi r' h1 (lt_of_heap h3) x)⟩
 | loop l n s ps assign body st pend did =>
   obtain ⟨h1, h2, fn, tmps, D, h3, h4, h5, h6⟩ := h
   exact ⟨(hloc 0).trans h1, fun x => h2 (hi l h1 (lt_of_heap h3) x), fn, tmps, D, (hb l h1).trans h3, h4, h5.mono hle, hle.locBlk h6⟩

theorem OkObj.blk_lt {S : St} {i b : Nat} {o : Obj} (h : OkObj S i o) (hb : S.loc i o.gen = .blk b) : ∃ x, S.w.heap[b]? = some x := by
 cases o with
 | box st n f => obtain ⟨b', c, e, h1, h2, h3, h4⟩ := h; rw [show S.loc i 0 = .blk b from hb] at h1; cases h1; exact ⟨_, h2⟩
 | row st n f =>
   obtain ⟨g1, old⟩ := h
   have hb' : S.loc i n = .blk b := hb
   rcases old with ⟨rfl, e⟩ | ⟨b', c, e, h1, h2, h3, h4⟩
   ·rw [e] at hb'; cases hb'
   ·rw [hb'] at h1; cases h1; exact ⟨_, h2⟩
 | memo F => obtain ⟨b', es, k, h1, h2, h3, h4⟩ := h; rw [show S.loc i 0 = .blk b from hb] at h1; cases h1; exact ⟨_, h2⟩
 | raw o => obtain ⟨b', h1, h2, h3, h4⟩ := h; rw [show S.loc i 0 = .blk b from hb] at h1; cases h1; exact ⟨_, h2⟩
 | loop l n s ps assign body st pend did => obtain ⟨h1, h2, fn, tmps, D, h3, h4⟩ := h; rw [show S.loc i 0 = .blk b from hb] at h1; cases h1; exact ⟨_, h3⟩
 | iter mid since seen c0 => obtain ⟨r, b', h1, h2, h3, h4⟩ := h; rw [show S.loc i 0 = .blk b from hb] at h1; cases h1; exact ⟨_, h3⟩

theorem HRel.newImm {S : St} {H : Hp} (hH : HRel S H) (o : Go.Obj) : HRel (S.newImm o) H where
 fresh := hH.fresh
 immlt := fun b h => by
  simp only [St.newImm, World.size_alloc]
  rcases h with h | rfl
  ·have := hH.immlt b h; omega
  ·omega
 obj := fun i x hx => (hH.obj i x hx).keep (S.newImm_le hH o) (fun _ => rfl)
  (fun b hb => by obtain ⟨y, hy⟩ := (hH.obj i x hx).blk_lt hb; exact heap_alloc_lt _ _ (lt_of_heap hy))
  (fun b hb hlt him => by rcases him with h | rfl; exact h; omega)
 inj := hH.inj
 giv := fun p hp => (hH.giv p hp).mono (S.newImm_le hH o)

theorem run_newVar {P : Program} {w : World} {T : TypeId} {v : Value} : (newVar T v).run P w = .ok ⟨w.heap.size, 0, none⟩ (w.alloc (.cells v.cells T)) := by
 simp [newVar, newRow]

theorem boxA_sound {T : TypeId} {x : AV} {K : Prop → AV → Prop} {S : St} {H : Hp} {cx : Value} (h : boxA x K) (hH : HRel S H) (hx : VRel S x cx) :
  ∃ p v, K p v ∧ (p → VRel (S.newImm (.cells cx.cells T)) v (.pointer (some ⟨S.w.heap.size, 0, none⟩))) := by
 have hle := S.newImm_le hH (.cells cx.cells T)
 have hblk : (S.newImm (.cells cx.cells T)).w.heap[S.w.heap.size]? = some (.cells cx.cells T (0, 0)) := heap_alloc _ _
 unfold boxA at h
 split at h
 case h_1 cs =>
  refine ⟨_, _, h, fun _ => ?_⟩
  cases hx with
  | @agg _ vs hn hh =>
    have := VRel.rptr (S := S.newImm (.cells (Value.agg vs).cells T)) (n := 1) (st := cs.length) (f := fun _ => cs) (i := 0) (j := 0) (off := 0) (.inr rfl) hblk
     (by simp [Value.cells]; omega) (fun _ _ => rfl) (fun i j hi hj => by
      have : i = 0 := by omega
      subst this
      simp only [Nat.zero_mul, Nat.zero_add]
      exact (hh j hj).mono hle)
    simpa using this
 case h_2 n st f =>
  refine ⟨_, _, h, fun _ => ?_⟩
  cases hx with
  | @arr _ _ _ vs hn hf hh =>
    have := VRel.rptr (S := S.newImm (.cells (Value.agg vs).cells T)) (n := n) (st := st) (f := f) (i := 0) (j := 0) (off := 0) (.inr rfl) hblk
     (by simp [Value.cells]; omega) hf (fun i j hi hj => by rw [Nat.zero_add]; exact (hh i j hi hj).mono hle)
    simpa using this
 case h_3 =>
  refine ⟨_, _, h, fun hc => ?_⟩
  have h1 := (cell_one hx hc).2
  have := VRel.rptr (S := S.newImm (.cells cx.cells T)) (n := 1) (st := 1) (f := fun _ => [x]) (i := 0) (j := 0) (off := 0) (.inr rfl) hblk
    (by simp [h1]) (fun _ _ => rfl) (fun i j hi hj => by
     have e1 : i = 0 := by omega
     have e2 : j = 0 := by omega
     subst e1 e2
     simpa [h1] using hx.mono hle)
  simpa using this

theorem boxZ_sound {P : Program} {T : TypeId} {x : AV} {K : Prop → AV → Prop} {S : St} {H : Hp} {cx : Value} (h : boxZ P T x K) (hH : HRel S H) (hx : VRel S x cx) :
  ∃ p v, K p v ∧ (p → ∃ cv S', (Instr.box T cx).run P S.w = .ok cv S'.w ∧ Le S S' ∧ HRel S' H ∧ VRel S' v cv) := by
 have hle := S.newImm_le hH (.cells cx.cells T)
 have hH' := hH.newImm (.cells cx.cells T)
 have hrun : (Instr.box T cx).run P S.w = .ok (.pointer (some ⟨S.w.heap.size, 0, none⟩)) (S.newImm (.cells cx.cells T)).w := by simp [Instr.box, run_newVar]; rfl
 have hblk : (S.newImm (.cells cx.cells T)).w.heap[S.w.heap.size]? = some (.cells cx.cells T (0, 0)) := heap_alloc _ _
 unfold boxZ at h
 split at h
 ·exact ⟨_, _, h, fun _ => ⟨_, _, hrun, hle, hH', .zp (.inr rfl) hblk⟩⟩
 ·obtain ⟨p, v, k, hv⟩ := boxA_sound (T := T) h hH hx
  exact ⟨p, v, k, fun q => ⟨_, _, hrun, hle, hH', hv q⟩⟩
 ·obtain ⟨p, v, k, hv⟩ := boxA_sound (T := T) h hH hx
  exact ⟨p, _, k, fun q => ⟨_, _, hrun, hle, hH', .tp (hv q) (.inr rfl) hblk⟩⟩

theorem convA_sound {P : Program} {src T : TypeId} {x : AV} {K : Prop → AV → Prop} {S : St} {cx : Value} (hsrc : ∃ d, P.underlying src = some d) (h : convA P T x K) (hx : VRel S x cx) :
  ∃ p v, K p v ∧ (p → ∃ cv, (convert src T cx).run P S.w = .ok cv S.w ∧ VRel S v cv) := by
 unfold convA at h
 split at h
 case h_2 => exact h.elim
 case h_1 k k0 n hk =>
  refine ⟨_, _, h, fun hr => ?_⟩
  have e := hx.lit_inv
  subst e
  obtain ⟨d, hd⟩ := hsrc
  have hu : P.underlying T = some (.int k) := by
   unfold intT at hk
   split at hk
   ·rename_i k' hk'; cases hk; exact hk'
   ·cases hk
  exact ⟨.int k n, by simp [convert, run_underlying hd, run_underlying hu, Conv.intToInt, hr.wrap], .lit _⟩

set_option maxHeartbeats 8000000 in
theorem mmA_sound {P : Program} {mx : Bool} {xs : List AV} {tys : Array TypeId} {ty : TypeId} {K : Prop → AV → Prop} {S : St} {vs : List Value} (h : mmA mx xs K) (hx : VRels S xs vs) :
  ∃ p v, K p v ∧ (p → ∃ cv, (match mx with | true => Builtin.max_ tys ty vs.toArray | false => Builtin.min_ tys ty vs.toArray).run P S.w = .ok cv S.w ∧ VRel S v cv) := by
 obtain ⟨hl, hr⟩ := hx
 unfold mmA at h
 split at h
 case h_5 => exact h.elim
 case h_4 k a k' b k'' c k3 d k4 x =>
  match vs, hl with
  | [v1, v2, v3, v4, v5], _ =>
    have e1 := (hr 0 (by simp)).lit_inv
    have e2 := (hr 1 (by simp)).lit_inv
    have e3 := (hr 2 (by simp)).lit_inv
    have e4 := (hr 3 (by simp)).lit_inv
    have e5 := (hr 4 (by simp)).lit_inv
    simp at e1 e2 e3 e4 e5
    subst e1 e2 e3 e4 e5
    refine ⟨_, _, h, fun e => ⟨_, ?_, .lit _⟩⟩
    obtain ⟨rfl, rfl, rfl, rfl⟩ := e
    cases mx
    ·simp only [Builtin.min_, Builtin.min2, List.foldlM, Sem.run_bind, Sem.run_pure, Result.andThen_ok]
     congr 2; simp only [Int.min_def]; repeat' split
     all_goals omega
    ·simp only [Builtin.max_, Builtin.max2, List.foldlM, Sem.run_bind, Sem.run_pure, Result.andThen_ok]
     congr 2; simp only [Int.max_def]; repeat' split
     all_goals omega
 case h_3 k a k' b k'' c k3 d =>
  match vs, hl with
  | [v1, v2, v3, v4], _ =>
    have e1 := (hr 0 (by simp)).lit_inv
    have e2 := (hr 1 (by simp)).lit_inv
    have e3 := (hr 2 (by simp)).lit_inv
    have e4 := (hr 3 (by simp)).lit_inv
    simp at e1 e2 e3 e4
    subst e1 e2 e3 e4
    refine ⟨_, _, h, fun e => ⟨_, ?_, .lit _⟩⟩
    obtain ⟨rfl, rfl, rfl⟩ := e
    cases mx
    ·simp only [Builtin.min_, Builtin.min2, List.foldlM, Sem.run_bind, Sem.run_pure, Result.andThen_ok]
     congr 2; simp only [Int.min_def]; repeat' split
     all_goals omega
    ·simp only [Builtin.max_, Builtin.max2, List.foldlM, Sem.run_bind, Sem.run_pure, Result.andThen_ok]
     congr 2; simp only [Int.max_def]; repeat' split
     all_goals omega
 case h_1 k a k' b =>
  match vs, hl with
  | [v1, v2], _ =>
    have e1 := (hr 0 (by simp)).lit_inv
    have e2 := (hr 1 (by simp)).lit_inv
    simp at e1 e2
    subst e1 e2
    refine ⟨_, _, h, fun e => ⟨_, ?_, .lit _⟩⟩
    subst e
    cases mx
    ·simp only [Builtin.min_, Builtin.min2, List.foldlM, Sem.run_bind, Sem.run_pure, Result.andThen_ok]
     congr 2; simp only [Int.min_def]; split <;> split <;> omega
    ·simp only [Builtin.max_, Builtin.max2, List.foldlM, Sem.run_bind, Sem.run_pure, Result.andThen_ok]
     congr 2; simp only [Int.max_def]; split <;> split <;> omega
 case h_2 k a k' b k'' c =>
  match vs, hl with
  | [v1, v2, v3], _ =>
    have e1 := (hr 0 (by simp)).lit_inv
    have e2 := (hr 1 (by simp)).lit_inv
    have e3 := (hr 2 (by simp)).lit_inv
    simp at e1 e2 e3
    subst e1 e2 e3
    refine ⟨_, _, h, fun e => ⟨_, ?_, .lit _⟩⟩
    obtain ⟨rfl, rfl⟩ := e
    cases mx
    ·simp only [Builtin.min_, Builtin.min2, List.foldlM, Sem.run_bind, Sem.run_pure, Result.andThen_ok]
     congr 2; simp only [Int.min_def]; repeat' split
     all_goals omega
    ·simp only [Builtin.max_, Builtin.max2, List.foldlM, Sem.run_bind, Sem.run_pure, Result.andThen_ok]
     congr 2; simp only [Int.max_def]; repeat' split
     all_goals omega

end Go.V
end
section
set_option linter.unusedVariables false
namespace Go.V
set_option linter.unusedSectionVars false
variable [Inhabited GivT]
def bT (P : Program) (T : TypeId) : Bool := match P.underlying T with
 | some (.struct fs) => fs.toList.all fun f => (P.info? f.type).isSome
 | _ => false

def buildA (P : Program) (T : TypeId) (parts : List (Nat × AV)) (K : Prop → AV → Prop) : Prop := match zeroT P T with
 | some z => match arT P T with
   | some (_, es, _) => okParts parts ∧ fillR es parts (z.map .lit) fun cs => K True (.agg cs)
   | none => bT P T = true ∧ okParts parts ∧ fillA P T parts (z.map .lit) fun cs => K True (.agg cs)
 | none => False

def partIdx : Nat → List (Nat × AV) → Prop
 | _, [] => True
 | i, (k, _) :: r => k = i ∧ partIdx (i + 1) r

def elemsA : List (Nat × AV) → List (List AV)
 | [] => []
 | (_, v) :: r => cellsA v :: elemsA r

def lensA (st : Nat) : List (List AV) → Prop
 | [] => True
 | c :: r => c.length = st ∧ lensA st r

def bsT (P : Program) (T : TypeId) : Option Nat := match P.underlying T with
 | some (.slice e) => match szT P e, zeroT P e with
   | some (st, _), some z => if z.length = st then some st else none
   | _, _ => none
 | _ => none

def buildSliceA (P : Program) (T : TypeId) (n : Nat) (parts : List (Nat × AV)) (K : Prop → AV → Prop) : Prop := match bsT P T with
 | some st => K (partIdx 0 parts ∧ parts.length = n ∧ n * st ≤ 16777216 ∧ lensA st (elemsA parts) ∧ okParts parts) (.rsl n st (fun i => (elemsA parts).getD i []))
 | none => False

def ifaceA (P : Program) (T : TypeId) (x : AV) (K : Prop → AV → Prop) : Prop := K (P.concrete T = true) (.iface T x)

def PartsRel (S : St) : List (Nat × AV) → List (Nat × Value) → Prop
 | [], [] => True
 | (i, x) :: r, (j, v) :: r' => i = j ∧ VRel S x v ∧ PartsRel S r r'
 | _, _ => False

theorem foldl_set (off : Nat) : ∀ (vs : List Value) (j : Nat) (cells : Array Value), off + j + vs.length ≤ cells.size →
  ((vs.zipIdx j).foldl (fun cs (c, j) => cs.setIfInBounds (off + j) c) cells).size = cells.size ∧
  ∀ k, ((vs.zipIdx j).foldl (fun cs (c, j) => cs.setIfInBounds (off + j) c) cells).getD k undef = if off + j ≤ k ∧ k < off + j + vs.length then vs.getD (k - (off + j)) undef else cells.getD k undef
 | [], j, cells, _ => by simp; intro k h1 h2; omega
 | v :: vs, j, cells, h => by
   simp only [List.length_cons] at h
   obtain ⟨h1, h2⟩ := foldl_set off vs (j + 1) (cells.setIfInBounds (off + j) v) (by simp; omega)
   simp only [List.zipIdx_cons, List.foldl_cons]
   refine ⟨by rw [h1]; simp, fun k => ?_⟩
   rw [h2 k]
   have e : (cells.setIfInBounds (off + j) v).getD k undef = if k = off + j then v else cells.getD k undef := by
    by_cases hk : k = off + j
    ·subst hk
     simp [Array.getD_eq_getD_getElem?, show off + j < cells.size by omega]
    ·rw [if_neg hk]
     simp [Array.getD_eq_getD_getElem?, Array.getElem?_setIfInBounds_ne (show off + j ≠ k by omega)]
   rw [e]
   by_cases c1 : off + (j + 1) ≤ k ∧ k < off + (j + 1) + vs.length
   ·rw [if_pos c1, if_pos (by simp; omega)]
    have : k - (off + j) = (k - (off + (j + 1))) + 1 := by omega
    rw [this]; rfl
   ·rw [if_neg c1]
    by_cases c2 : k = off + j
    ·subst c2; rw [if_pos rfl, if_pos (by simp)]; simp
    ·rw [if_neg c2, if_neg (by simp; omega)]

theorem arr_zipIdx_foldl (off : Nat) (vs cells : Array Value) :
  vs.zipIdx.foldl (fun cs (c, j) => cs.setIfInBounds (off + j) c) cells = (vs.toList.zipIdx 0).foldl (fun cs (c, j) => cs.setIfInBounds (off + j) c) cells := by
 rw [← Array.foldl_toList]; simp

theorem getD_splice (cs vs : List AV) (off k : Nat) (h : off + vs.length ≤ cs.length) :
  (cs.take off ++ vs ++ cs.drop (off + vs.length)).getD k .any = if off ≤ k ∧ k < off + vs.length then vs.getD (k - off) .any else cs.getD k .any := by
 simp only [List.getD, List.append_assoc]
 by_cases c1 : k < off
 ·rw [List.getElem?_append_left (by simp; omega), List.getElem?_take_of_lt c1, if_neg (by omega)]
 ·rw [List.getElem?_append_right (by simp; omega)]
  have e : (cs.take off).length = off := by simp; omega
  rw [e]
  by_cases c2 : k < off + vs.length
  ·rw [List.getElem?_append_left (by omega), if_pos (by omega)]
  ·rw [List.getElem?_append_right (by omega), if_neg (by omega), List.getElem?_drop]
   congr 2; omega

theorem fillA_sound {P : Program} {T : TypeId} {S : St} {K : List AV → Prop} (place : Nat → Option (Nat × Nat))
  (hp : ∀ i off sz b, fldT P T i = some (off, sz, b) → place i = some (off, sz)) (hq : ∀ i off, zfO P T i = some off → place i = some (off, 0)) :
  ∀ (parts : List (Nat × AV)) (vs : List (Nat × Value)) (cs : List AV) (cells : Array Value), fillA P T parts cs K → okParts parts → PartsRel S parts vs →
    cells.size = cs.length → (∀ k, k < cs.length → VRel S (cs.getD k .any) (cells.getD k undef)) →
    ∃ cs' cells', K cs' ∧ Instr.fill place cells vs = some cells' ∧ cells'.size = cs'.length ∧ ∀ k, k < cs'.length → VRel S (cs'.getD k .any) (cells'.getD k undef)
 | [], vs, cs, cells, h, _, hr, hs, hc => by
   cases vs with
   | nil => exact ⟨cs, cells, h, rfl, hs, hc⟩
   | cons _ _ => exact hr.elim
 | (i, x) :: parts, vs, cs, cells, h, hok, hr, hs, hc => by
   cases vs with
   | nil => exact hr.elim
   | cons p vs =>
     obtain ⟨j, v⟩ := p
     obtain ⟨rfl, hx, hr⟩ := hr
     simp only [fillA] at h
     split at h
     case h_2 =>
      split at h
      case h_2 => exact h.elim
      case h_1 off hf =>
       obtain ⟨hl, hle, h⟩ := h
       obtain ⟨hv1, hv2⟩ := cellsA_rel hx (by
        have := hok.1
        split at this
        ·exact .inl ⟨_, rfl⟩
        ·exact .inr (.inl ⟨_, _, _, rfl⟩)
        ·exact .inr (.inr this))
       rw [hl] at hv1
       have hv0 : v.cells = #[] := Array.eq_empty_of_size_eq_zero hv1
       obtain ⟨cs', cells', k1, k2, k3, k4⟩ := fillA_sound place hp hq parts vs cs cells h hok.2 hr hs hc
       refine ⟨cs', cells', k1, ?_, k3, k4⟩
       simp only [Instr.fill, hq i off hf, hv0]
       rw [if_neg (by simp; omega)]
       exact k2
     case h_1 off sz b hf =>
      obtain ⟨hl, hle, h⟩ := h
      obtain ⟨hv1, hv2⟩ := cellsA_rel hx (by
       have := hok.1
       split at this
       ·exact .inl ⟨_, rfl⟩
       ·exact .inr (.inl ⟨_, _, _, rfl⟩)
       ·exact .inr (.inr this))
      have hvl : v.cells.toList.length = sz := by simp; omega
      obtain ⟨g1, g2⟩ := foldl_set off v.cells.toList 0 cells (by omega)
      have hlen : (cs.take off ++ cellsA x ++ cs.drop (off + sz)).length = cs.length := by simp; omega
      obtain ⟨cs', cells', k1, k2, k3, k4⟩ := fillA_sound place hp hq parts vs (cs.take off ++ cellsA x ++ cs.drop (off + sz)) ((v.cells.toList.zipIdx 0).foldl (fun cs (c, j) => cs.setIfInBounds (off + j) c) cells) h hok.2 hr
       (by rw [g1, hs, hlen]) (fun k hk => by
        rw [hlen] at hk
        rw [g2 k]
        have e := getD_splice cs (cellsA x) off k (by omega)
        rw [hl] at e
        rw [e]
        simp only [Nat.add_zero, hvl]
        split
        ·rename_i hh
         have := hv2 (k - off) (by omega)
         have e2 : v.cells.toList.getD (k - off) undef = v.cells.getD (k - off) undef := by simp [List.getD, Array.getD_eq_getD_getElem?]
         rw [e2]; exact this
        ·exact hc k hk)
      refine ⟨cs', cells', k1, ?_, k3, k4⟩
      simp only [Instr.fill, hp i off sz b hf]
      rw [if_neg (by simp; omega), arr_zipIdx_foldl]
      exact k2

theorem fillR_sound {es : Nat} {S : St} {K : List AV → Prop} :
  ∀ (parts : List (Nat × AV)) (vs : List (Nat × Value)) (cs : List AV) (cells : Array Value), fillR es parts cs K → okParts parts → PartsRel S parts vs →
    cells.size = cs.length → (∀ k, k < cs.length → VRel S (cs.getD k .any) (cells.getD k undef)) →
    ∃ cs' cells', K cs' ∧ Instr.fill (fun i => some (i * es, es)) cells vs = some cells' ∧ cells'.size = cs'.length ∧ ∀ k, k < cs'.length → VRel S (cs'.getD k .any) (cells'.getD k undef)
 | [], vs, cs, cells, h, _, hr, hs, hc => by
   cases vs with
   | nil => exact ⟨cs, cells, h, rfl, hs, hc⟩
   | cons _ _ => exact hr.elim
 | (i, x) :: parts, vs, cs, cells, h, hok, hr, hs, hc => by
   cases vs with
   | nil => exact hr.elim
   | cons p vs =>
     obtain ⟨j, v⟩ := p
     obtain ⟨rfl, hx, hr⟩ := hr
     simp only [fillR] at h
     obtain ⟨hl, hle, h⟩ := h
     obtain ⟨hv1, hv2⟩ := cellsA_rel hx (by
      have := hok.1
      split at this
      ·exact .inl ⟨_, rfl⟩
      ·exact .inr (.inl ⟨_, _, _, rfl⟩)
      ·exact .inr (.inr this))
     have hvl : v.cells.toList.length = es := by simp; omega
     obtain ⟨g1, g2⟩ := foldl_set (i * es) v.cells.toList 0 cells (by omega)
     have hlen : (cs.take (i * es) ++ cellsA x ++ cs.drop (i * es + es)).length = cs.length := by simp; omega
     obtain ⟨cs', cells', k1, k2, k3, k4⟩ := fillR_sound parts vs (cs.take (i * es) ++ cellsA x ++ cs.drop (i * es + es)) ((v.cells.toList.zipIdx 0).foldl (fun cs (c, j) => cs.setIfInBounds (i * es + j) c) cells) h hok.2 hr
      (by rw [g1, hs, hlen]) (fun k hk => by
       rw [hlen] at hk
       rw [g2 k]
       have e := getD_splice cs (cellsA x) (i * es) k (by omega)
       rw [hl] at e
       rw [e]
       simp only [Nat.add_zero, hvl]
       split
       ·rename_i hh
        have := hv2 (k - i * es) (by omega)
        have e2 : v.cells.toList.getD (k - i * es) undef = v.cells.getD (k - i * es) undef := by simp [List.getD, Array.getD_eq_getD_getElem?]
        rw [e2]; exact this
       ·exact hc k hk)
     refine ⟨cs', cells', k1, ?_, k3, k4⟩
     simp only [Instr.fill]
     rw [if_neg (by simp; omega), arr_zipIdx_foldl]
     exact k2

theorem arT_run {P : Program} {T m es : Nat} {a : Bool} (h : arT P T = some (m, es, a)) (w : World) : ∃ n e, P.underlying T = some (.array n e) ∧ (sizeOf e).run P w = .ok es w := by
 unfold arT at h
 split at h
 case h_2 => cases h
 case h_1 n e hu =>
  split at h
  case h_2 => cases h
  case h_1 q b hs =>
   split at h
   case isFalse => cases h
   case isTrue =>
    simp only [Option.some.injEq, Prod.mk.injEq] at h
    obtain ⟨rfl, rfl, rfl⟩ := h
    have : ∃ inf, P.info? e = some inf ∧ inf.size = q := by
     unfold szT at hs
     split at hs <;> simp at hs <;> exact ⟨_, by assumption, hs.1⟩
    obtain ⟨inf, e1, e2⟩ := this
    exact ⟨n, e, hu, by simp [sizeOf, typeInfo, e1, e2]⟩

theorem run_mapM_places {P : Program} {w : World} (fs : Array Field) (h : fs.toList.all (fun f => (P.info? f.type).isSome) = true) :
  (fs.mapM fun f => do pure (f.offset, ← sizeOf f.type) : Sem _).run P w = .ok (fs.map fun f => (f.offset, ((P.info? f.type).map (·.size)).getD 0)) w := by
 rw [Array.mapM_eq_mapM_toList]
 have key : ∀ l : List Field, l.all (fun f => (P.info? f.type).isSome) = true →
   (l.mapM fun f => do pure (f.offset, ← sizeOf f.type) : Sem _).run P w = .ok (l.map fun f => (f.offset, ((P.info? f.type).map (·.size)).getD 0)) w := by
  intro l
  induction l with
  | nil => intro _; simp
  | cons f l ih =>
    intro hl
    simp only [List.all_cons, Bool.and_eq_true] at hl
    obtain ⟨i, hi⟩ := Option.isSome_iff_exists.1 hl.1
    have e : (sizeOf f.type).run P w = .ok i.size w := by simp [sizeOf, typeInfo, hi]
    simp only [List.mapM_cons, Sem.run_bind, e, ih hl.2, Result.andThen_ok, Sem.run_pure, List.map_cons, hi, Option.map_some, Option.getD_some]
 simp only [Sem.run_map, key fs.toList h, Result.andThen_ok]
 congr 1
 apply Array.ext'
 simp

theorem zeroT_spec {P : Program} {T : TypeId} {z : List Value} (h : zeroT P T = some z) (w : World) : ∃ v, (zeroValue T).run P w = .ok v w ∧ v.cells.toList = z := by
 unfold zeroT at h
 split at h
 case h_2 => cases h
 case h_1 i hi =>
  split at h
  case h_2 => cases h
  case h_1 v hv =>
   cases h
   exact ⟨v, by simp [zeroValue, typeInfo, hi, hv], rfl⟩

theorem buildA_sound {P : Program} {T : TypeId} {parts : List (Nat × AV)} {K : Prop → AV → Prop} {S : St} {vs : Array (Nat × Value)} (h : buildA P T parts K) (hx : PartsRel S parts vs.toList) :
  ∃ p v, K p v ∧ (p → ∃ cv, (Instr.build T vs).run P S.w = .ok cv S.w ∧ VRel S v cv) := by
 unfold buildA at h
 split at h
 case h_2 => exact h.elim
 case h_1 z hz =>
  obtain ⟨zv, hz1, hz2⟩ := zeroT_spec hz S.w
  split at h
  ·rename_i m es ag ha
   obtain ⟨hok, h⟩ := h
   obtain ⟨n, e, hu, hsz⟩ := arT_run ha S.w
   obtain ⟨cs', cells', k1, k2, k3, k4⟩ := fillR_sound (S := S) parts vs.toList (z.map .lit) zv.cells h hok hx (by simp [← hz2]) (fun k hk => by
    have hk' : k < zv.cells.size := by simpa [← hz2] using hk
    simp [List.getD, ← hz2, Array.getD_eq_getD_getElem?, hk']
    exact .lit _)
   refine ⟨_, _, k1, fun _ => ⟨.agg cells', ?_, .agg k3 k4⟩⟩
   simp only [Instr.build, Sem.run_bind, hz1, Result.andThen_ok, run_underlying hu, hsz, k2, Sem.run_pure]
  obtain ⟨hb, hok, h⟩ := h
  unfold bT at hb
  split at hb
  case h_2 => cases hb
  case h_1 fs hu =>
   have hpl : ∀ i off sz b, fldT P T i = some (off, sz, b) → (fs.map fun f => (f.offset, ((P.info? f.type).map (·.size)).getD 0))[i]? = some (off, sz) := by
    intro i off sz b hf
    unfold fldT at hf
    rw [hu] at hf
    simp only at hf
    split at hf
    case h_2 => cases hf
    case h_1 x hx' =>
     split at hf
     case h_2 => cases hf
     case h_1 m b' hs =>
      split at hf
      ·cases hf
      ·simp only [Option.some.injEq, Prod.mk.injEq] at hf
       obtain ⟨rfl, rfl, rfl⟩ := hf
       have : ∃ inf, P.info? x.type = some inf ∧ inf.size = m := by
        unfold szT at hs
        split at hs <;> simp at hs <;> exact ⟨_, by assumption, hs.1⟩
       obtain ⟨inf, e1, e2⟩ := this
       simp [hx', e1, e2]
   have hpz : ∀ i off, zfO P T i = some off → (fs.map fun f => (f.offset, ((P.info? f.type).map (·.size)).getD 0))[i]? = some (off, 0) := by
    intro i off hf
    unfold zfO at hf
    rw [hu] at hf
    simp only at hf
    split at hf
    case h_2 => cases hf
    case h_1 x hx' =>
     split at hf
     case h_2 => cases hf
     case h_1 b' hs =>
      simp only [Option.some.injEq] at hf
      subst hf
      have : ∃ inf, P.info? x.type = some inf ∧ inf.size = 0 := by
       unfold szT at hs
       split at hs <;> simp at hs <;> exact ⟨_, by assumption, hs.1⟩
      obtain ⟨inf, e1, e2⟩ := this
      simp [hx', e1, e2]
   obtain ⟨cs', cells', k1, k2, k3, k4⟩ := fillA_sound (S := S) _ hpl hpz parts vs.toList (z.map .lit) zv.cells h hok hx (by simp [← hz2]) (fun k hk => by
    have hk' : k < zv.cells.size := by simpa [← hz2] using hk
    simp [List.getD, ← hz2, Array.getD_eq_getD_getElem?, hk']
    exact .lit _)
   refine ⟨_, _, k1, fun _ => ⟨.agg cells', ?_, .agg k3 k4⟩⟩
   simp only [Instr.build, Sem.run_bind, hz1, Result.andThen_ok, run_underlying hu, run_mapM_places fs hb, k2, Sem.run_pure]

theorem ifaceA_sound {P : Program} {T : TypeId} {x : AV} {K : Prop → AV → Prop} {S : St} {cx : Value} (h : ifaceA P T x K) (hx : VRel S x cx) :
  ∃ p v, K p v ∧ (p → ∃ cv, (Instr.makeInterface T cx).run P S.w = .ok cv S.w ∧ VRel S v cv) :=
 ⟨_, _, h, fun hc => ⟨_, run_makeInterface S.w T cx hc, .iface hx⟩⟩

end Go.V
end
section
set_option linter.unusedVariables false
namespace Go.V
set_option linter.unusedSectionVars false
variable [Inhabited GivT]
theorem fillS_sound {S : St} {st : Nat} : ∀ (parts : List (Nat × AV)) (vs : List (Nat × Value)) (i : Nat) (cells : Array Value), partIdx i parts → lensA st (elemsA parts) → okParts parts → PartsRel S parts vs →
  (i + parts.length) * st ≤ cells.size →
  ∃ cells', Instr.fill (fun i => some (i * st, st)) cells vs = some cells' ∧ cells'.size = cells.size ∧ (∀ k, k < i * st → cells'.getD k undef = cells.getD k undef) ∧
    ∀ q j, q < parts.length → j < st → VRel S (((elemsA parts).getD q []).getD j .any) (cells'.getD ((i + q) * st + j) undef)
 | [], vs, i, cells, _, _, _, hr, _ => by
   cases vs with
   | nil => exact ⟨cells, rfl, rfl, fun _ _ => rfl, fun q j hq => absurd hq (by simp)⟩
   | cons _ _ => exact hr.elim
 | (a, x) :: parts, vs, i, cells, hi, hl, hok, hr, hs => by
   cases vs with
   | nil => exact hr.elim
   | cons p vs =>
     obtain ⟨b, v⟩ := p
     obtain ⟨rfl, hx, hr⟩ := hr
     obtain ⟨rfl, hi⟩ := hi
     obtain ⟨hl1, hl⟩ := hl
     obtain ⟨hv1, hv2⟩ := cellsA_rel hx (by
      have := hok.1
      split at this
      ·exact .inl ⟨_, rfl⟩
      ·exact .inr (.inl ⟨_, _, _, rfl⟩)
      ·exact .inr (.inr this))
     have hvl : v.cells.toList.length = st := by simp; omega
     simp only [List.length_cons] at hs
     have e1 : (a + (parts.length + 1)) * st = a * st + st + parts.length * st := by
      rw [Nat.add_mul, Nat.add_mul, Nat.one_mul]; omega
     obtain ⟨g1, g2⟩ := foldl_set (a * st) v.cells.toList 0 cells (by omega)
     have e2 : (a + 1) * st = a * st + st := by rw [Nat.add_mul, Nat.one_mul]
     obtain ⟨cells', k1, k2, k3, k4⟩ := fillS_sound parts vs (a + 1) ((v.cells.toList.zipIdx 0).foldl (fun cs (c, j) => cs.setIfInBounds (a * st + j) c) cells) hi hl hok.2 hr
      (by rw [g1]; rw [show a + 1 + parts.length = a + (parts.length + 1) by omega]; exact hs)
     refine ⟨cells', ?_, by rw [k2, g1], fun k hk => ?_, fun q j hq hj => ?_⟩
     ·simp only [Instr.fill]
      rw [if_neg (by simp; omega), arr_zipIdx_foldl]
      exact k1
     ·rw [k3 k (by omega), g2 k, if_neg (by omega)]
     ·cases q with
      | zero =>
        simp only [elemsA, List.getD_cons_zero, Nat.add_zero]
        rw [k3 _ (by omega), g2 _, if_pos (by omega)]
        have := hv2 j (by omega)
        have e3 : v.cells.toList.getD (a * st + j - (a * st + 0)) undef = v.cells.getD j undef := by
         rw [show a * st + j - (a * st + 0) = j by omega]; simp [List.getD, Array.getD_eq_getD_getElem?]
        rw [e3]; exact this
      | succ q =>
        have := k4 q j (by simp at hq; omega) hj
        rw [show a + 1 + q = a + (q + 1) by omega] at this
        simpa [elemsA] using this

theorem bsT_spec {P : Program} {T st : Nat} (h : bsT P T = some st) (w : World) : ∃ e z, P.underlying T = some (.slice e) ∧ (sizeOf e).run P w = .ok st w ∧ (zeroValue e).run P w = .ok z w ∧ z.cells.size = st := by
 unfold bsT at h
 split at h
 case h_2 => cases h
 case h_1 e hu =>
  split at h
  case h_2 => cases h
  case h_1 st' b z hs hz =>
   split at h
   case isFalse => cases h
   case isTrue hl =>
    cases h
    obtain ⟨zv, h1, h2⟩ := zeroT_spec hz w
    exact ⟨e, zv, hu, (szT_spec hs w).1, h1, by rw [← hl, ← h2]; simp⟩

theorem elemsA_length (parts : List (Nat × AV)) : (elemsA parts).length = parts.length := by
 induction parts with
 | nil => rfl
 | cons p r ih => obtain ⟨a, b⟩ := p; simp [elemsA, ih]

theorem lensA_getD {st : Nat} : ∀ {l : List (List AV)}, lensA st l → ∀ i, i < l.length → (l.getD i []).length = st
 | [], _, i, h => absurd h (by simp)
 | c :: r, h, 0, _ => h.1
 | c :: r, h, i + 1, hi => by simpa using lensA_getD h.2 i (by simpa using hi)

theorem buildSliceA_sound {P : Program} {T n : Nat} {parts : List (Nat × AV)} {K : Prop → AV → Prop} {S : St} {H : Hp} {vs : Array (Nat × Value)} (h : buildSliceA P T n parts K) (hH : HRel S H)
  (hx : PartsRel S parts vs.toList) :
  ∃ p v, K p v ∧ (p → ∃ cv S', (Instr.buildSlice T n vs).run P S.w = .ok cv S'.w ∧ Le S S' ∧ HRel S' H ∧ VRel S' v cv) := by
 unfold buildSliceA at h
 split at h
 case h_2 => exact h.elim
 case h_1 st hb =>
  refine ⟨_, _, h, ?_⟩
  rintro ⟨h1, h2, h3, h4, h5⟩
  obtain ⟨e, z, hu, hs, hz, hzs⟩ := bsT_spec hb S.w
  obtain ⟨cells, hc⟩ : ∃ cells : Array Value, cells = (Array.range (n * st)).map ((if n * st = 0 then #[] else z.cells)[· % (if n * st = 0 then #[] else z.cells).size]!) := ⟨_, rfl⟩
  have hcs : cells.size = n * st := by rw [hc]; simp
  obtain ⟨cells', k1, k2, k3, k4⟩ := fillS_sound (S := S) (st := st) parts vs.toList 0 cells h1 h4 h5 hx (by rw [Nat.zero_add, h2]; omega)
  refine ⟨.slice (some ⟨S.w.heap.size, 0, none⟩) n n, S.newImm (.cells cells' e), ?_, S.newImm_le hH _, hH.newImm _, ?_⟩
  ·have hne : ¬ n * st > 2 ^ 24 := by omega
   have hrow : (newRow e cells').run P S.w = .ok ⟨S.w.heap.size, 0, none⟩ (S.newImm (.cells cells' e)).w := by simp [newRow]; rfl
   simp only [Instr.buildSlice, Sem.run_bind, run_underlying hu, Result.andThen_ok, hs, Sem.run_ite, if_neg hne, Sem.run_pure]
   by_cases h0 : n * st = 0
   ·simp only [if_pos h0] at hc
    simp only [if_pos h0, Result.andThen_ok, ← hc, k1, Sem.run_bind, hrow, Sem.run_pure]
   ·simp only [if_neg h0] at hc
    simp only [if_neg h0, Sem.run_bind, hz, Result.andThen_ok, Sem.run_pure, ← hc, k1, hrow]
  ·refine .rsl (S := S.newImm (.cells cells' e)) (c := cells') (.inr rfl) (heap_alloc _ _) (by rw [k2, hcs]; omega) (fun i hi => lensA_getD h4 i (by rw [elemsA_length]; omega)) (fun i j hi hj => ?_) (Nat.le_refl _)
   have := (k4 i j (by omega) hj).mono (S.newImm_le hH (.cells cells' e))
   simpa using this

theorem pickA_sound {c a b : AV} {K : Prop → AV → Prop} {S : St} {P : Program} {w : World} {cc ca cb : Value} (h : pickA c a b K) (hc : VRel S c cc) (ha : VRel S a ca) (hb : VRel S b cb) :
  ∃ p v, K p v ∧ (p → ∃ cv, (do pure (.value (if ← asBool cc then ca else cb)) : Sem Next).run P w = .ok (.value cv) w ∧ VRel S v cv) := by
 unfold pickA at h
 split at h
 case h_2 => exact h.elim
 case h_1 g =>
  have e := hc.lit_inv
  subst e
  have key : ∀ z : AV, ((g = true → a.ok) ∧ (g = false → b.ok)) → (g = true → z = a.st) → (g = false → z = b.st) →
    ∃ cv, (do pure (.value (if ← asBool (.bool g) then ca else cb)) : Sem Next).run P w = .ok (.value cv) w ∧ VRel S z cv := by
   intro z hp h1 h2
   cases g
   ·exact ⟨cb, by simp [asBool], by rw [h2 rfl]; exact hb.strip (hp.2 rfl)⟩
   ·exact ⟨ca, by simp [asBool], by rw [h1 rfl]; exact ha.strip (hp.1 rfl)⟩
  split at h
  case h_2 => exact h.elim
  case h_1 x y e1 e2 => exact ⟨_, _, h, fun hp => key _ hp (fun e => by rw [e1, e]; simp) (fun e => by rw [e2, e]; simp)⟩

end Go.V
end
section
set_option linter.unusedVariables false
set_option linter.unusedSimpArgs false
namespace Go.V
set_option linter.unusedSectionVars false
variable [Inhabited GivT]
/-- Plain values. -/
def litV : List AV → Option (List Value)
 | [] => some []
 | .lit v :: r => match litV r with
   | some l => some (v :: l)
   | none => none
 | _ => none
theorem litV_nil : litV [] = some [] := rfl
theorem litV_cons (v : Value) (r : List AV) : litV (.lit v :: r) = match litV r with
  | some l => some (v :: l)
  | none => none := rfl
theorem litV_spec {S : St} : ∀ {cs : List AV} {l : List Value} {vs : List Value}, litV cs = some l → vs.length = cs.length → (∀ k, k < cs.length → VRel S (cs.getD k .any) (vs.getD k undef)) → vs = l
 | [], l, vs, h, hl, hr => by
   simp only [litV, Option.some.injEq] at h
   subst h
   exact List.eq_nil_of_length_eq_zero hl
 | x :: cs, l, [], h, hl, hr => by simp at hl
 | x :: cs, l, w :: vs, h, hl, hr => by
   have : ∃ v l2, x = .lit v ∧ litV cs = some l2 ∧ l = v :: l2 := by
    unfold litV at h
    split at h
    ·rename_i e; cases e
    ·rename_i v r e
     cases e
     split at h
     ·rename_i l2 e2; cases h; exact ⟨_, _, rfl, e2, rfl⟩
     ·cases h
    ·cases h
   obtain ⟨v, l2, rfl, h2, rfl⟩ := this
   have h0 := hr 0 (by simp)
   simp only [List.getD_cons_zero] at h0
   have hw : w = v := h0.lit_inv
   subst hw
   rw [litV_spec (S := S) (vs := vs) h2 (by simpa using hl) (fun k hk => by
    have := hr (k + 1) (by simpa using hk)
    simpa only [List.getD_cons_succ] using this)]

/-- A key's value, or an entry's. -/
def keyV : AV → Option Value
 | .lit v => some v
 | .agg cs => match litV cs with
   | some l => some (.agg l.toArray)
   | none => none
 | _ => none
theorem keyV_lit (v : Value) : keyV (.lit v) = some v := rfl
theorem keyV_agg (cs : List AV) : keyV (.agg cs) = match litV cs with
  | some l => some (.agg l.toArray)
  | none => none := rfl

theorem keyV_rel {S : St} {x : AV} {cv v : Value} (h : keyV x = some v) (r : VRel S x cv) : cv = v := by
 unfold keyV at h
 split at h
 ·cases h; exact r.lit_inv
 ·rename_i cs
  split at h
  ·rename_i l e
   cases h
   cases r with
   | @agg _ vs hn hr =>
     congr 1
     apply Array.toList_inj.1
     rw [litV_spec (S := S) (vs := vs.toList) e (by simpa using hn) (fun k hk => by simpa [List.getD, Array.getD_eq_getD_getElem?] using hr k hk)]
  ·cases h
 ·cases h

/-- A value as an abstract one: what has cells, by its cells. -/
def valA : Value → AV
 | .agg vs => .agg (vs.toList.map .lit)
 | v => .lit v
theorem valA_agg (vs : Array Value) : valA (.agg vs) = .agg (vs.toList.map .lit) := rfl
theorem valA_int (k : IntKind) (n : Int) : valA (.int k n) = .lit (.int k n) := rfl
theorem valA_bool (b : Bool) : valA (.bool b) = .lit (.bool b) := rfl
theorem valA_rel {S : St} (v : Value) : VRel S (valA v) v := by
 unfold valA
 split
 ·rename_i vs
  refine .agg (by simp) fun k hk => ?_
  simp only [List.length_map, Array.length_toList] at hk
  have e1 : (vs.toList.map AV.lit).getD k .any = .lit (vs.getD k undef) := by
   simp [List.getD, Array.getD_eq_getD_getElem?, hk]
  rw [e1]; exact .lit _
 ·exact .lit _

/-- What a look into a map's entries finds. -/
def FoundAt (P : Program) (T : TypeId) (em : Bool) (es : Array MapEntry) (key : Value) (o : Option (Nat × Value)) : Prop :=
 ∃ kt et, P.underlying T = some (.map kt et) ∧ ∀ w, (Instr.checkKey em 10000 kt key).run P w = .ok () w ∧ (Instr.findKey kt key es.toList).run P w = .ok o w

/-- The zero value of a map's entries. -/
def mapZ (P : Program) (T : TypeId) : Option Value := match P.underlying T with
 | some (.map _ et) => match P.info? et with
   | some i => i.zero
   | none => none
 | _ => none

def gotV (z : Value) : Option (Nat × Value) → Value
 | some (_, v) => v
 | none => z
theorem gotV_some (z v : Value) (i : Nat) : gotV z (some (i, v)) = v := rfl
theorem gotV_none (z : Value) : gotV z none = z := rfl

def lookRes (ok : Bool) (v : Value) (b : Bool) : AV := match ok with
 | true => .tuple [valA v, .lit (.bool b)]
 | false => valA v
theorem lookRes_true (v : Value) (b : Bool) : lookRes true v b = .tuple [valA v, .lit (.bool b)] := rfl
theorem lookRes_false (v : Value) (b : Bool) : lookRes false v b = valA v := rfl

/-- A look into a map whose entries are known. -/
def lookA (P : Program) (T : TypeId) (x y : AV) (ok : Bool) (H : Hp) (K : Prop → AV → Prop) : Prop := match x, keyV y, mapZ P T with
 | .map id, some key, some z => match H id with
   | some (.raw (.map es _)) => ∃ o, FoundAt P T es.isEmpty es key o ∧ K True (lookRes ok (gotV z o) o.isSome)
   | _ => False
 | _, _, _ => False

theorem lookA_sound {P : Program} {T : TypeId} {x y : AV} {ok : Bool} {H : Hp} {K : Prop → AV → Prop} {S : St} {cx cy : Value} (h : lookA P T x y ok H K) (hH : HRel S H) (hx : VRel S x cx) (hy : VRel S y cy) :
  ∃ p v, K p v ∧ (p → ∃ cv, (Instr.lookup T cx cy ok).run P S.w = .ok cv S.w ∧ VRel S v cv) := by
 unfold lookA at h
 split at h
 case h_2 => exact h.elim
 case h_1 id key z e1 e2 =>
  split at h
  case h_2 => exact h.elim
  case h_1 es ck ho =>
   obtain ⟨o, ⟨kt, et, hu, hf⟩, hk⟩ := h
   refine ⟨_, _, hk, fun _ => ?_⟩
   obtain ⟨b, hl, hb, -, -⟩ := hH.obj id _ ho
   have ey := keyV_rel e1 hy
   subst ey
   cases hx with
   | @map _ b' hl' =>
     rw [hl] at hl'; cases hl'
     have hz : (zeroValue et).run P S.w = .ok z S.w := by
      unfold mapZ at e2
      rw [hu] at e2
      simp only at e2
      cases hi : P.info? et with
      | none => rw [hi] at e2; cases e2
      | some i => rw [hi] at e2; simp [zeroValue, typeInfo, hi, show i.zero = some z from e2]
     obtain ⟨h1, h2⟩ := hf S.w
     cases o with
     | none =>
       refine ⟨if ok then .tuple #[z, .bool false] else z, ?_, ?_⟩
       ·simp [Instr.lookup, run_underlying hu, MapKept.run_getObj_map hb, h1, h2, hz]
       ·cases ok
        ·exact valA_rel _
        ·refine .tuple (by simp [lookRes]) fun k hk => ?_
         have : k = 0 ∨ k = 1 := by simp at hk; omega
         rcases this with rfl | rfl
         ·exact valA_rel _
         ·exact .lit _
     | some r =>
       obtain ⟨i, v⟩ := r
       refine ⟨if ok then .tuple #[v, .bool true] else v, ?_, ?_⟩
       ·simp [Instr.lookup, run_underlying hu, MapKept.run_getObj_map hb, h1, h2]
       ·cases ok
        ·exact valA_rel _
        ·refine .tuple (by simp [lookRes]) fun k hk => ?_
         have : k = 0 ∨ k = 1 := by simp at hk; omega
         rcases this with rfl | rfl
         ·exact valA_rel _
         ·exact .lit _

/-- A look into entries all of whose keys can be read. -/
theorem found_of {P : Program} {T kt et : TypeId} {es : Array MapEntry} {key : Value} (hu : P.underlying T = some (.map kt et)) (K : Maps.Keyed P kt) (hk : ∃ l, keyOf P kt key = some l)
  (hes : ∀ e ∈ es.toList, ∃ l, keyOf P kt e.key = some l) (hp : es.toList.Pairwise fun x y => x.key ≠ y.key) :
  ∃ o, (∀ em, FoundAt P T em es key o) ∧ (∀ w, (Instr.keyThatStays key key).run P w = .ok key w) ∧
    ((o = none ∧ ∀ e ∈ es.toList, e.key ≠ key) ∨ ∃ j e, o = some (j, e.val) ∧ es[j]? = some e ∧ e.key = key) := by
 obtain ⟨l, hl⟩ := hk
 have hst : ∀ w, (Instr.keyThatStays key key).run P w = .ok key w := fun w => K.stays w hl
 have uniq : ∀ (i j : Nat) (x y : MapEntry), es.toList[i]? = some x → es.toList[j]? = some y → x.key = y.key → i = j := by
  intro i j x y hi hj e
  apply Classical.byContradiction
  intro hne
  obtain ⟨hil, hix⟩ := List.getElem?_eq_some_iff.1 hi
  obtain ⟨hjl, hjx⟩ := List.getElem?_eq_some_iff.1 hj
  rcases Nat.lt_or_ge i j with h | h
  ·have := (List.pairwise_iff_getElem.1 hp) i j hil hjl h
   rw [hix, hjx] at this; exact this e
  ·have := (List.pairwise_iff_getElem.1 hp) j i hjl hil (by omega)
   rw [hix, hjx] at this; exact this e.symm
 by_cases hc : ∃ e ∈ es.toList, e.key = key
 ·obtain ⟨e, he, hek⟩ := hc
  obtain ⟨j, hj⟩ := List.getElem?_of_mem he
  refine ⟨some (j, e.val), fun em => ⟨kt, et, hu, fun w => ⟨K.check w em hl, ?_⟩⟩, hst, .inr ⟨j, e, rfl, by simpa using hj, hek⟩⟩
  rcases K.find w hl es.toList hes with ⟨h1, h2⟩ | ⟨j', e', h1, h2, h3⟩
  ·exact absurd hek (h2 e he)
  ·have := uniq j j' e e' hj h2 (by rw [hek, h3])
   subst this
   rw [hj] at h2; cases h2
   exact h1
 ·refine ⟨none, fun em => ⟨kt, et, hu, fun w => ⟨K.check w em hl, ?_⟩⟩, hst, .inl ⟨rfl, fun e he hek => hc ⟨e, he, hek⟩⟩⟩
  rcases K.find w hl es.toList hes with ⟨h1, h2⟩ | ⟨j', e', h1, h2, h3⟩
  ·exact h1
  ·exact absurd ⟨e', List.mem_of_getElem? h2, h3⟩ hc

/-- The entries behind an update. -/
def updM (es : Array MapEntry) (key val : Value) (ck : Nat) : Option (Nat × Value) → Array MapEntry
 | some (i, _) => es.modify i fun e => { e with key := key, val := val }
 | none => es.push { key := key, val := val, born := ck }
def updC (ck : Nat) : Option (Nat × Value) → Nat
 | some _ => ck
 | none => ck + 1

/-- What one may say of a key. -/
def KeyOkay (P : Program) (T : TypeId) (es : Array MapEntry) (key : Value) (o : Option (Nat × Value)) : Prop :=
 FoundAt P T false es key o ∧ (∀ w, (Instr.keyThatStays key key).run P w = .ok key w) ∧ ∀ i v, o = some (i, v) → (es[i]?).map (·.key) = some key

def mapUpA (P : Program) (T : TypeId) (x y z : AV) (H : Hp) (K : Hp → Prop) : Prop := match x, keyV y, keyV z with
 | .map id, some key, some val => match H id with
   | some (.raw (.map es ck)) => ∃ o, KeyOkay P T es key o ∧ K (H.set id (.raw (.map (updM es key val ck o) (updC ck o))))
   | some (.memo F) => ∃ kt et, P.underlying T = some (.map kt et) ∧ Maps.Keyed P kt ∧ (∃ l, keyOf P kt key = some l) ∧ (∀ k v, F k v → ∃ l, keyOf P kt k = some l) ∧ F key val ∧ K H
   | _ => False
 | _, _, _ => False

def boundsA (m : Nat) (lo hi : Option AV) (K : Prop → Nat → Nat → Prop) : Prop := match lo with
 | none => match hi with
   | none => K True 0 m
   | some (.lit (.int _ h)) => K (0 ≤ h ∧ h ≤ m) 0 h.toNat
   | _ => False
 | some (.lit (.int _ l)) => match hi with
   | none => K (0 ≤ l ∧ l ≤ m) l.toNat m
   | some (.lit (.int _ h)) => K (0 ≤ l ∧ l ≤ h ∧ h ≤ m) l.toNat h.toNat
   | _ => False
 | _ => False
def sliceS (P : Program) (T : TypeId) (x : AV) (lo hi : Option AV) (K : Prop → AV → Prop) : Prop := match elT P T, x with
 | some (es, _), .rsl n st f => boundsA n lo hi fun p l h => K (es = st ∧ p) (.rsl (h - l) st (fun i => f (l + i)))
 | _, _ => False
def sliceA (P : Program) (T : TypeId) (x : AV) (lo hi : Option AV) (K : Prop → AV → Prop) : Prop := match arT P T, x with
 | some (m, es, _), .ref id g st i j => boundsA m lo hi fun p l h => K (es = st ∧ i = 0 ∧ j = 0 ∧ g = 0 ∧ p) (.vw id st l (h - l))
 | some (m, es, _), .rptr n st f i j => boundsA m lo hi fun p l h => K (es = 1 ∧ i < n ∧ j + m ≤ st ∧ p) (.rsl (h - l) 1 (fun q => [(f i).getD (j + l + q) .any]))
 | _, _ => sliceS P T x lo hi K
def opO (s : Fr) : Option Operand → Option AV
 | some x => some (opA s x).st
 | none => none
def okO (s : Fr) : Option Operand → Prop
 | some x => (opA s x).ok
 | none => True
/-- Optional operands, related. -/
def ORel (S : St) : Option AV → Option Value → Prop
 | some x, some v => VRel S x v
 | none, none => True
 | _, _ => False

theorem arT_parts {P : Program} {T m es : Nat} {b : Bool} (h : arT P T = some (m, es, b)) : P.underlying T = some (.array (P.arrayLen T) (P.elem T)) ∧ P.arrayLen T = m ∧ szT P (P.elem T) = some (es, b) := by
 obtain ⟨e, h1, h2⟩ := arT_spec h
 have e1 : P.arrayLen T = m := by simp [Program.arrayLen, h1]
 have e2 : P.elem T = e := by simp [Program.elem, h1]
 exact ⟨by rw [e1, e2]; exact h1, e1, by rw [e2]; exact h2⟩

theorem boundsA_pick {m : Nat} {lo hi : Option AV} {K : Prop → Nat → Nat → Prop} (h : boundsA m lo hi K) : ∃ p l h', K p l h' ∧ boundsA m lo hi fun p' l' h'' => p' = p ∧ l' = l ∧ h'' = h' := by
 unfold boundsA at h ⊢
 split at h
 ·split at h
  ·exact ⟨_, _, _, h, rfl, rfl, rfl⟩
  ·exact ⟨_, _, _, h, rfl, rfl, rfl⟩
  ·exact h.elim
 ·split at h
  ·exact ⟨_, _, _, h, rfl, rfl, rfl⟩
  ·exact ⟨_, _, _, h, rfl, rfl, rfl⟩
  ·exact h.elim
 ·exact h.elim

theorem slT_parts {P : Program} {T es : Nat} {b : Bool} (h : elT P T = some (es, b)) : P.underlying T = some (.slice (P.elem T)) ∧ szT P (P.elem T) = some (es, b) := by
 obtain ⟨e, h1, h2⟩ := elT_spec h
 have e2 : P.elem T = e := by simp [Program.elem, h1]
 exact ⟨by rw [e2]; exact h1, by rw [e2]; exact h2⟩
theorem sliceS_sound {P : Program} {T : TypeId} {x : AV} {lo hi : Option AV} {K : Prop → AV → Prop} {S : St} {cx : Value} {clo chi : Option Value} {w : World} (h : sliceS P T x lo hi K)
  (hx : VRel S x cx) (hlo : ORel S lo clo) (hhi : ORel S hi chi) :
  ∃ p v, K p v ∧ (p → ∃ cv, (Instr.sliceAt T cx clo chi none).run P w = .ok cv w ∧ VRel S v cv) := by
 unfold sliceS at h
 split at h
 case h_2 => exact h.elim
 case h_1 es b n st f he =>
  obtain ⟨hu, hs⟩ := slT_parts he
  have hsz := (szT_spec hs w).1
  obtain ⟨p, l, h', hk, hb⟩ := boundsA_pick h
  refine ⟨_, _, hk, fun ⟨h1, hp⟩ => ?_⟩
  subst h1
  obtain ⟨a, cap, rfl, hnc, fin⟩ : ∃ a cap, cx = .slice a n cap ∧ n ≤ cap ∧ ∀ (l h' : Nat), l ≤ h' → h' ≤ n → VRel S (.rsl (h' - l) es fun i => f (l + i)) (sliced a l h' cap es) := by
   cases hx with
   | @rsl0 _ _ a cap =>
     refine ⟨a, cap, rfl, Nat.zero_le _, fun l h' h1 h2 => ?_⟩
     have e1 : h' = 0 := by omega
     have e2 : l = 0 := by omega
     subst e1 e2
     exact .rsl0
   | @rsl _ _ _ blk off cap c e fz hi hbk hsz hf hh hcap =>
     refine ⟨_, cap, rfl, hcap, fun l h' h1 h2 => ?_⟩
     unfold sliced
     by_cases e0 : cap = l
     ·have : h' - l = 0 := by omega
      rw [this]; exact .rsl0
     ·rw [if_neg e0]
      have ea : (some (⟨blk, off, none⟩ : Addr)).map (·.add (l * es)) = some ⟨blk, off + l * es, none⟩ := by simp [addr_add]
      rw [ea]
      have hm : l * es + (h' - l) * es = h' * es := by rw [← Nat.add_mul]; congr 1; omega
      have hm2 : h' * es ≤ n * es := Nat.mul_le_mul_right _ h2
      refine .rsl hi hbk (by omega) (fun i hi' => hf (l + i) (by omega)) (fun i j hi' hj => ?_) (by omega)
      have := hh (l + i) j (by omega) hj
      rwa [Nat.add_mul, ← Nat.add_assoc] at this
  have hr : ∀ lo hi : Option Value, (Instr.sliceAt T (.slice a n cap) lo hi none).run P w = (Instr.slice T (.slice a n cap) lo hi none).run P w := fun lo hi => run_sliceAt_slice w T _ lo hi none hu
  unfold boundsA at hb
  split at hb
  ·split at hb
   ·obtain ⟨rfl, rfl, rfl⟩ := hb
    cases clo <;> cases chi <;> simp only [ORel] at hlo hhi
    exact ⟨_, by rw [hr, run_slice_all w T _ _ _ hu, hsz, Result.andThen_ok], fin 0 n (Nat.zero_le _) (Nat.le_refl _)⟩
   ·obtain ⟨rfl, rfl, rfl⟩ := hb
    cases clo <;> cases chi <;> simp only [ORel] at hlo hhi
    have := hhi.lit_inv
    subst this
    exact ⟨_, by rw [hr, run_slice_h w T _ _ _ hu _ _ hp.1 (by omega), hsz, Result.andThen_ok], fin 0 _ (Nat.zero_le _) (by omega)⟩
   ·exact hb.elim
  ·split at hb
   ·obtain ⟨rfl, rfl, rfl⟩ := hb
    cases clo <;> cases chi <;> simp only [ORel] at hlo hhi
    have := hlo.lit_inv
    subst this
    exact ⟨_, by rw [hr, run_slice_l w T _ _ _ hu _ _ hp.1 (by omega), hsz, Result.andThen_ok], fin _ n (by omega) (Nat.le_refl _)⟩
   ·obtain ⟨rfl, rfl, rfl⟩ := hb
    cases clo <;> cases chi <;> simp only [ORel] at hlo hhi
    have := hlo.lit_inv
    subst this
    have := hhi.lit_inv
    subst this
    exact ⟨_, by rw [hr, run_slice_lh w T _ _ _ hu _ _ _ _ hp.1 hp.2.1 (by omega), hsz, Result.andThen_ok], fin _ _ (by omega) (by omega)⟩
   ·exact hb.elim
  ·exact hb.elim
theorem sliceArr_sound {P : Program} {T m es : Nat} {V : Nat → Nat → AV} {a : Addr} {lo hi : Option AV} {S : St} {clo chi : Option Value} {w : World} {p : Prop} {l h' : Nat}
  (hu : P.underlying T = some (.array (P.arrayLen T) (P.elem T))) (hm : P.arrayLen T = m) (hsz : (sizeOf (P.elem T)).run P w = .ok es w)
  (hb : boundsA m lo hi fun p' l' h'' => p' = p ∧ l' = l ∧ h'' = h') (hlo : ORel S lo clo) (hhi : ORel S hi chi) (hp : p)
  (fin : ∀ (l h' : Nat), l ≤ h' → h' ≤ m → VRel S (V l (h' - l)) (slicedAt a l h' m es)) :
  ∃ cv, (Instr.sliceAt T (.pointer (some a)) clo chi none).run P w = .ok cv w ∧ VRel S (V l (h' - l)) cv := by
 unfold boundsA at hb
 split at hb
 ·split at hb
  ·obtain ⟨rfl, rfl, rfl⟩ := hb
   cases clo <;> cases chi <;> simp only [ORel] at hlo hhi
   exact ⟨_, by rw [run_sliceAt_array_all w T _ hu, hsz, Result.andThen_ok], by rw [hm]; exact fin 0 m (Nat.zero_le _) (Nat.le_refl _)⟩
  ·obtain ⟨rfl, rfl, rfl⟩ := hb
   cases clo <;> cases chi <;> simp only [ORel] at hlo hhi
   have := hhi.lit_inv
   subst this
   exact ⟨_, by rw [run_sliceAt_array_h w T _ hu _ _ hp.1 (by rw [hm]; exact hp.2), hsz, Result.andThen_ok], by rw [hm]; exact fin 0 _ (Nat.zero_le _) (by omega)⟩
  ·exact hb.elim
 ·split at hb
  ·obtain ⟨rfl, rfl, rfl⟩ := hb
   cases clo <;> cases chi <;> simp only [ORel] at hlo hhi
   have := hlo.lit_inv
   subst this
   exact ⟨_, by rw [run_sliceAt_array_l w T _ hu _ _ hp.1 (by rw [hm]; exact hp.2), hsz, Result.andThen_ok], by rw [hm]; exact fin _ m (by omega) (Nat.le_refl _)⟩
  ·obtain ⟨rfl, rfl, rfl⟩ := hb
   cases clo <;> cases chi <;> simp only [ORel] at hlo hhi
   have := hlo.lit_inv
   subst this
   have := hhi.lit_inv
   subst this
   exact ⟨_, by rw [run_sliceAt_array_lh w T _ hu _ _ _ _ hp.1 hp.2.1 (by rw [hm]; exact hp.2.2), hsz, Result.andThen_ok], by rw [hm]; exact fin _ _ (by omega) (by omega)⟩
  ·exact hb.elim
 ·exact hb.elim

theorem sliceA_sound {P : Program} {T : TypeId} {x : AV} {lo hi : Option AV} {K : Prop → AV → Prop} {S : St} {cx : Value} {clo chi : Option Value} {w : World} (h : sliceA P T x lo hi K)
  (hx : VRel S x cx) (hlo : ORel S lo clo) (hhi : ORel S hi chi) :
  ∃ p v, K p v ∧ (p → ∃ cv, (Instr.sliceAt T cx clo chi none).run P w = .ok cv w ∧ VRel S v cv) := by
 unfold sliceA at h
 split at h
 case h_3 => exact sliceS_sound h hx hlo hhi
 case h_2 m es b n st f i j ha =>
  obtain ⟨hu, hm, hs⟩ := arT_parts ha
  have hsz := (szT_spec hs w).1
  obtain ⟨p, l, h', hk, hb⟩ := boundsA_pick h
  refine ⟨_, _, hk, fun ⟨h1, h2, h3, hp⟩ => ?_⟩
  subst h1
  cases hx with
  | @rptr _ _ _ _ _ blk off c e fz hi' hb' hsz' hf' hh' =>
    refine sliceArr_sound (V := fun l n' => .rsl n' 1 (fun q => [(f i).getD (j + l + q) .any])) hu hm hsz hb hlo hhi hp fun l h' h1 h4 => ?_
    have hmul : i * st + st ≤ n * st := by
     have : (i + 1) * st ≤ n * st := Nat.mul_le_mul_right st (by omega)
     rw [Nat.add_mul, Nat.one_mul] at this; exact this
    unfold slicedAt
    by_cases e : m = l
    ·have : h' - l = 0 := by omega
     rw [this, if_pos e]; exact .rsl0
    ·rw [if_neg e, addr_add, Nat.mul_one]
     refine .rsl hi' hb' (by omega) (fun _ _ => rfl) (fun q z hq hz => ?_) (by omega)
     have hz0 : z = 0 := by omega
     subst hz0
     have := hh' i (j + l + q) h2 (by omega)
     rw [show off + i * st + j + l + q * 1 + 0 = off + i * st + (j + l + q) by omega]
     exact this
 case h_1 m es b id g st i j ha =>
  obtain ⟨hu, hm, hs⟩ := arT_parts ha
  have hsz := (szT_spec hs w).1
  obtain ⟨p, l, h', hk, hb⟩ := boundsA_pick h
  refine ⟨_, _, hk, fun ⟨h1, h2, h3, h4, hp⟩ => ?_⟩
  subst h1 h2 h3 h4
  cases hx with
  | @ref _ _ _ _ _ blk hl =>
    have fin : ∀ (l h' : Nat), l ≤ h' → h' ≤ m → VRel S (.vw id es l (h' - l)) (slicedAt ⟨blk, 0 * es + 0, none⟩ l h' m es) := by
     intro l h' h1 h2
     unfold slicedAt
     by_cases e : m = l
     ·have : h' - l = 0 := by omega
      rw [this, if_pos e]; exact .vw0
     ·rw [if_neg e]
      have : (⟨blk, 0 * es + 0, none⟩ : Addr).add (l * es) = ⟨blk, l * es, none⟩ := by rw [addr_add]; simp
      rw [this]; exact .vw hl
    exact sliceArr_sound (V := fun l n => .vw id es l n) hu hm hsz hb hlo hhi hp fin

def taRes (ok : Bool) (v : AV) : AV := match ok with
 | true => .tuple [v, .lit (.bool true)]
 | false => v
theorem taRes_true (v : AV) : taRes true v = .tuple [v, .lit (.bool true)] := rfl
theorem taRes_false (v : AV) : taRes false v = v := rfl
def taA (P : Program) (T : TypeId) (ok : Bool) (x : AV) (K : Prop → AV → Prop) : Prop := match x, intT P T with
 | .iface t v, some _ => K (t = T) (taRes ok v)
 | .iface t v, none => bT P T = true ∧ K (t = T) (taRes ok v)
 | _, _ => False
theorem taA_sound {P : Program} {T xt : TypeId} {ok : Bool} {x : AV} {K : Prop → AV → Prop} {S : St} {cx : Value} {w : World} (h : taA P T ok x K) (hx : VRel S x cx) :
  ∃ p v, K p v ∧ (p → ∃ cv, (Instr.typeAssert cx xt T ok).run P w = .ok cv w ∧ VRel S v cv) := by
 unfold taA at h
 split at h
 case h_3 => exact h.elim
 case h_2 t v hk =>
  obtain ⟨hb, h⟩ := h
  refine ⟨_, _, h, fun e => ?_⟩
  subst e
  cases hx with
  | @iface _ _ cv hv =>
    have hu : ∃ k, P.underlying t = some (.struct k) := by
     unfold bT at hb; split at hb
     ·exact ⟨_, by assumption⟩
     ·cases hb
    obtain ⟨k', hu⟩ := hu
    refine ⟨if ok then .tuple #[cv, .bool true] else cv, by simp [Instr.typeAssert, run_underlying hu], ?_⟩
    cases ok
    ·exact hv
    ·refine .tuple (by simp [taRes]) fun k hk => ?_
     have : k = 0 ∨ k = 1 := by simp at hk; omega
     rcases this with rfl | rfl
     ·exact hv
     ·exact .lit _
 case h_1 t v k hk =>
  refine ⟨_, _, h, fun e => ?_⟩
  subst e
  cases hx with
  | @iface _ _ cv hv =>
    have hu : ∃ k, P.underlying t = some (.int k) := by
     unfold intT at hk; split at hk
     ·exact ⟨_, by assumption⟩
     ·cases hk
    obtain ⟨k', hu⟩ := hu
    refine ⟨if ok then .tuple #[cv, .bool true] else cv, by simp [Instr.typeAssert, run_underlying hu], ?_⟩
    cases ok
    ·exact hv
    ·refine .tuple (by simp [taRes]) fun k hk => ?_
     have : k = 0 ∨ k = 1 := by simp at hk; omega
     rcases this with rfl | rfl
     ·exact hv
     ·exact .lit _

end Go.V
end
section
set_option linter.unusedVariables false
namespace Go.V
set_option linter.unusedSectionVars false
variable [Inhabited GivT]
def okAll : List AV → Prop
 | [] => True
 | x :: r => x.ok ∧ okAll r

def stAll : List AV → List AV
 | [] => []
 | x :: r => x.st :: stAll r

def opsA (s : Fr) : List Operand → List AV
 | [] => []
 | x :: r => opA s x :: opsA s r

def partsA (s : Fr) : List (Nat × Operand) → List (Nat × AV)
 | [] => []
 | (i, x) :: r => (i, (opA s x).st) :: partsA s r

def partsOk (s : Fr) : List (Nat × Operand) → Prop
 | [] => True
 | (_, x) :: r => (opA s x).ok ∧ partsOk s r

/-- What a quiet operation gives: under p, the value v. -/
def pureA (P : Program) (H : Hp) (o : Op) (s : Fr) (K : Prop → AV → Prop) : Prop := match o with
 | .move x => K (opA s x).ok (opA s x).st
 | .assign x => K (opA s x).ok (opA s x).st
 | .pick c a b => pickA (opA s c).st (opA s a) (opA s b) fun p v => K ((opA s c).ok ∧ p) v
 | .box T x => boxZ P T (opA s x).st fun p v => K ((opA s x).ok ∧ p) v
 | .build T parts => buildA P T (partsA s parts.toList) fun p v => K (partsOk s parts.toList ∧ p) v
 | .buildSlice T n parts => buildSliceA P T n (partsA s parts.toList) fun p v => K (partsOk s parts.toList ∧ p) v
 | .load T x => loadA P T (opA s x).st H fun p v => K ((opA s x).ok ∧ p) v
 | .nilCheck x => nilCheckA P (opA s x).st fun p v => K ((opA s x).ok ∧ p) v
 | .binOp op T x y _ => binA P op T x y (opA s x).st (opA s y).st fun p v => K ((opA s x).ok ∧ (opA s y).ok ∧ p) v
 | .unOp op _ x => unA op (opA s x).st fun p v => K ((opA s x).ok ∧ p) v
 | .convert src dst x => convA P dst (opA s x).st fun p v => K ((P.underlying src).isSome = true ∧ (opA s x).ok ∧ p) v
 | .makeInterface T x => ifaceA P T (opA s x).st fun p v => K ((opA s x).ok ∧ p) v
 | .makeFunc fn first caps => K (okAll (opsA s first.toList) ∧ okAll (opsA s caps.toList)) (.func fn (stAll (opsA s first.toList)) (stAll (opsA s caps.toList)))
 | .fieldAddr T x f => fieldAddrA P T (opA s x).st f fun p v => K ((opA s x).ok ∧ p) v
 | .field T x f => fieldA P T (opA s x).st f fun p v => K ((opA s x).ok ∧ p) v
 | .indexAddr T x i => indexAddrA P T (opA s x).st (opA s i).st fun p v => K ((opA s x).ok ∧ (opA s i).ok ∧ p) v
 | .index T x i => indexA P T (opA s x).st (opA s i).st fun p v => K ((opA s x).ok ∧ (opA s i).ok ∧ p) v
 | .lookup T x y ok => lookA P T (opA s x).st (opA s y).st ok H fun p v => K ((opA s x).ok ∧ (opA s y).ok ∧ p) v
 | .slice T x lo hi mx => match mx with
   | none => sliceA P T (opA s x).st (opO s lo) (opO s hi) fun p v => K ((opA s x).ok ∧ okO s lo ∧ okO s hi ∧ p) v
   | some _ => False
 | .typeAssert x _ T ok => taA P T ok (opA s x).st fun p v => K ((opA s x).ok ∧ p) v
 | .extract x i => extractA (opA s x).st i fun p v => K ((opA s x).ok ∧ p) v
 | .call c => match c.callee with
   | .builtin .len => match c.args.toList, c.argTypes.toList with
     | [x], [T] => lenA P T (opA s x).st fun p v => K ((opA s x).ok ∧ p) v
     | _, _ => False
   | .builtin .max => mmA true (stAll (opsA s c.args.toList)) fun p v => K (okAll (opsA s c.args.toList) ∧ p) v
   | .builtin .min => mmA false (stAll (opsA s c.args.toList)) fun p v => K (okAll (opsA s c.args.toList) ∧ p) v
   | _ => False
 | _ => False

section
variable {S : St} {s : Fr} {a : Act}
theorem opsA_rel {l : List Operand} (h : ∀ x ∈ l, VRel S (opA s x) (a.eval x)) : VRels S (opsA s l) (l.map a.eval) := by
 induction l with
 | nil => exact ⟨rfl, fun k hk => absurd hk (by simp [opsA])⟩
 | cons x r ih =>
   obtain ⟨h1, h2⟩ := ih fun y hy => h y (List.mem_cons_of_mem _ hy)
   refine ⟨by simp [opsA] at h1 ⊢; exact h1, fun k hk => ?_⟩
   cases k with
   | zero => exact h x (by simp)
   | succ k => simpa [opsA] using h2 k (by simpa [opsA] using hk)

theorem stAll_rel {l : List AV} {vs : List Value} (h : VRels S l vs) (k : okAll l) : VRels S (stAll l) vs := by
 induction l generalizing vs with
 | nil => exact h
 | cons x r ih =>
   obtain ⟨h1, h2⟩ := h
   cases vs with
   | nil => simp at h1
   | cons v vs =>
     have := ih (vs := vs) ⟨by simpa using h1, fun k hk => by simpa using h2 (k + 1) (by simpa using hk)⟩ k.2
     refine ⟨by have := this.1; simp [stAll] at this ⊢; exact this, fun q hq => ?_⟩
     cases q with
     | zero => exact (h2 0 (by simp)).strip k.1
     | succ q => simpa [stAll] using this.2 q (by simpa [stAll] using hq)

theorem partsA_rel {l : List (Nat × Operand)} (h : ∀ x ∈ l.map (·.2), VRel S (opA s x) (a.eval x)) (k : partsOk s l) :
  PartsRel S (partsA s l) (l.map fun (i, x) => (i, a.eval x)) := by
 induction l with
 | nil => trivial
 | cons p r ih =>
   obtain ⟨i, x⟩ := p
   exact ⟨rfl, (h x (by simp)).strip k.1, ih (fun y hy => h y (by simp at hy ⊢; exact .inr hy)) k.2⟩

theorem VRels.size {l : List AV} {vs : Array Value} (h : VRels S l vs.toList) : vs.size = l.length ∧ ∀ k, k < l.length → VRel S (l.getD k .any) (vs.getD k undef) :=
 ⟨by have := h.1; simpa using this, fun k hk => by
  have := h.2 k hk
  have e : vs.toList.getD k undef = vs.getD k undef := by simp [List.getD, Array.getD_eq_getD_getElem?]
  rwa [e] at this⟩

end
abbrev Pick (F : (Prop → AV → Prop) → Prop) : Prop := ∀ {K : Prop → AV → Prop}, F K → ∃ p v, K p v ∧ F (fun p' v' => p' = p ∧ v' = v)

theorem intA_pick (op : BinOp) (x y : AV) : Pick (intA op x y) := by
 intro K h
 unfold intA at h ⊢
 split at h
 ·cases op <;> exact ⟨_, _, h, rfl, rfl⟩
 ·exact h.elim
theorem nilA2_pick (P : Program) (op : BinOp) (T : TypeId) (q : Prop) (b : Bool) : Pick (nilA2 P op T q b) := by
 intro K h
 cases op <;> first | exact h.elim | exact ⟨_, _, h, rfl, rfl⟩
theorem boolA_pick (P : Program) (op : BinOp) (T : TypeId) (a b : Bool) : Pick (boolA P op T a b) := by
 intro K h
 cases op <;> first | exact h.elim | exact ⟨_, _, h, rfl, rfl⟩
theorem aggV_pick (P : Program) (op : BinOp) (T : TypeId) (cs ds : List AV) : Pick (aggV P op T cs ds) := by
 intro K h
 unfold aggV at h ⊢
 split at h
 ·cases op <;> first | exact h.elim | exact ⟨_, _, h, rfl, rfl⟩
 ·exact h.elim
theorem aggA_pick (P : Program) (op : BinOp) (T : TypeId) (cs ds : List AV) : Pick (aggA P op T cs ds) := by
 intro K h
 unfold aggA at h ⊢
 split at h
 ·cases op <;> first | exact h.elim | exact ⟨_, _, h, rfl, rfl⟩
 ·exact aggV_pick _ _ _ _ _ h
theorem binLitA_pick (P : Program) (op : BinOp) (T : TypeId) (ox oy : Operand) (v : Value) (y : AV) : Pick (binLitA P op T ox oy v y) := by
 intro K h
 unfold binLitA at h ⊢
 split at h
 ·exact intA_pick _ _ _ h
 ·exact boolA_pick _ _ _ _ _ h
 ·exact nilA2_pick _ _ _ _ _ h
 ·exact nilA2_pick _ _ _ _ _ h
 ·exact h.elim
theorem binA_pick (P : Program) (op : BinOp) (T : TypeId) (ox oy : Operand) (x y : AV) : Pick (binA P op T ox oy x y) := by
 intro K h
 unfold binA at h ⊢
 split at h
 ·exact aggA_pick _ _ _ _ _ h
 ·exact nilA2_pick _ _ _ _ _ h
 ·exact binLitA_pick _ _ _ _ _ _ _ h
 ·exact aggA_pick _ _ _ _ _ h
 ·exact h.elim
theorem lookA_pick (P : Program) (T : TypeId) (x y : AV) (ok : Bool) (H : Hp) : Pick (lookA P T x y ok H) := by
 intro K h
 unfold lookA at h ⊢
 split at h
 ·split at h
  ·obtain ⟨o, h1, h2⟩ := h; exact ⟨_, _, h2, o, h1, rfl, rfl⟩
  ·exact h.elim
 ·exact h.elim
theorem sliceS_pick (P : Program) (T : TypeId) (x : AV) (lo hi : Option AV) : Pick (sliceS P T x lo hi) := by
 intro K h
 unfold sliceS at h ⊢
 split at h
 ·obtain ⟨p, l, h', hk, hb⟩ := boundsA_pick h
  refine ⟨_, _, hk, ?_⟩
  unfold boundsA at hb ⊢
  split at hb
  ·split at hb
   ·obtain ⟨rfl, rfl, rfl⟩ := hb; exact ⟨rfl, rfl⟩
   ·obtain ⟨rfl, rfl, rfl⟩ := hb; exact ⟨rfl, rfl⟩
   ·exact hb.elim
  ·split at hb
   ·obtain ⟨rfl, rfl, rfl⟩ := hb; exact ⟨rfl, rfl⟩
   ·obtain ⟨rfl, rfl, rfl⟩ := hb; exact ⟨rfl, rfl⟩
   ·exact hb.elim
  ·exact hb.elim
 ·exact h.elim
theorem sliceA_pick (P : Program) (T : TypeId) (x : AV) (lo hi : Option AV) : Pick (sliceA P T x lo hi) := by
 intro K h
 unfold sliceA at h ⊢
 split at h
 ·obtain ⟨p, l, h', hk, hb⟩ := boundsA_pick h
  refine ⟨_, _, hk, ?_⟩
  unfold boundsA at hb ⊢
  split at hb
  ·split at hb
   ·obtain ⟨rfl, rfl, rfl⟩ := hb; exact ⟨rfl, rfl⟩
   ·obtain ⟨rfl, rfl, rfl⟩ := hb; exact ⟨rfl, rfl⟩
   ·exact hb.elim
  ·split at hb
   ·obtain ⟨rfl, rfl, rfl⟩ := hb; exact ⟨rfl, rfl⟩
   ·obtain ⟨rfl, rfl, rfl⟩ := hb; exact ⟨rfl, rfl⟩
   ·exact hb.elim
  ·exact hb.elim
 ·obtain ⟨p, l, h', hk, hb⟩ := boundsA_pick h
  refine ⟨_, _, hk, ?_⟩
  unfold boundsA at hb ⊢
  split at hb
  ·split at hb
   ·obtain ⟨rfl, rfl, rfl⟩ := hb; exact ⟨rfl, rfl⟩
   ·obtain ⟨rfl, rfl, rfl⟩ := hb; exact ⟨rfl, rfl⟩
   ·exact hb.elim
  ·split at hb
   ·obtain ⟨rfl, rfl, rfl⟩ := hb; exact ⟨rfl, rfl⟩
   ·obtain ⟨rfl, rfl, rfl⟩ := hb; exact ⟨rfl, rfl⟩
   ·exact hb.elim
  ·exact hb.elim
 ·exact sliceS_pick _ _ _ _ _ h
theorem taA_pick (P : Program) (T : TypeId) (ok : Bool) (x : AV) : Pick (taA P T ok x) := by
 intro K h
 unfold taA at h ⊢
 split at h
 ·exact ⟨_, _, h, rfl, rfl⟩
 ·exact ⟨_, _, h.2, h.1, rfl, rfl⟩
 ·exact h.elim
theorem unA_pick (op : UnOp) (x : AV) : Pick (unA op x) := by
 intro K h
 unfold unA at h ⊢
 split at h <;> first | exact ⟨_, _, h, rfl, rfl⟩ | exact h.elim
theorem loadRow_pick (P : Program) (T n st : Nat) (f : Nat → List AV) (i j : Nat) (q : Prop) : Pick (loadRow P T n st f i j q) := by
 intro K h
 unfold loadRow at h ⊢
 split at h
 ·split at h
  ·split at h
   ·rename_i e; refine ⟨_, _, h, ?_⟩; rw [if_pos e]; exact ⟨rfl, rfl⟩
   ·rename_i e; refine ⟨_, _, h, ?_⟩; rw [if_neg e]; exact ⟨rfl, rfl⟩
  ·exact ⟨_, _, h, rfl, rfl⟩
 ·exact h.elim
theorem loadA_pick (P : Program) (T : Nat) (x : AV) (H : Hp) : Pick (loadA P T x H) := by
 intro K h
 unfold loadA at h ⊢
 split at h
 ·exact loadRow_pick _ _ _ _ _ _ _ _ h
 ·split at h
  ·exact loadRow_pick _ _ _ _ _ _ _ _ h
  ·exact loadRow_pick _ _ _ _ _ _ _ _ h
  ·exact h.elim
 ·exact ⟨_, _, h, rfl, rfl⟩
 ·exact loadRow_pick _ _ _ _ _ _ _ _ h
 ·exact h.elim
theorem fieldAddrA_pick (P : Program) (T : Nat) (x : AV) (f : Nat) : Pick (fieldAddrA P T x f) := by
 intro K h
 unfold fieldAddrA at h ⊢
 split at h <;> first | exact ⟨_, _, h, rfl, rfl⟩ | exact h.elim
theorem indexAddrA_pick (P : Program) (T : Nat) (x i : AV) : Pick (indexAddrA P T x i) := by
 intro K h
 unfold indexAddrA at h ⊢
 split at h
 ·split at h
  ·exact ⟨_, _, h, rfl, rfl⟩
  ·exact ⟨_, _, h, rfl, rfl⟩
  ·split at h <;> rename_i hc
   ·refine ⟨_, _, h, ?_⟩; simp [hc]
   ·refine ⟨_, _, h, ?_⟩; simp [hc]
  ·split at h <;> rename_i hc
   ·refine ⟨_, _, h, ?_⟩; simp [hc]
   ·refine ⟨_, _, h, ?_⟩; simp [hc]
  ·exact h.elim
 ·exact h.elim
theorem indexA_pick (P : Program) (T : Nat) (x i : AV) : Pick (indexA P T x i) := by
 intro K h
 unfold indexA at h ⊢
 split at h
 ·split at h <;> first | exact ⟨_, _, h, rfl, rfl⟩ | exact h.elim
 ·exact h.elim
theorem fieldA_pick (P : Program) (T : Nat) (x : AV) (f : Nat) : Pick (fieldA P T x f) := by
 intro K h
 unfold fieldA at h ⊢
 split at h <;> first | exact ⟨_, _, h, rfl, rfl⟩ | exact h.elim
theorem extractA_pick (x : AV) (i : Nat) : Pick (extractA x i) := by
 intro K h
 unfold extractA at h ⊢
 split at h <;> first | exact ⟨_, _, h, rfl, rfl⟩ | exact h.elim
theorem lenA_pick (P : Program) (T : Nat) (x : AV) : Pick (lenA P T x) := by
 intro K h
 unfold lenA at h ⊢
 split at h
 ·exact ⟨_, _, h, rfl, rfl⟩
 ·split at h <;> first | exact ⟨_, _, h, rfl, rfl⟩ | exact h.elim
theorem nilCheckA_pick (P : Program) (x : AV) : Pick (nilCheckA P x) := by
 intro K h
 unfold nilCheckA at h ⊢
 split at h <;> first | exact ⟨_, _, h, rfl, rfl⟩ | exact h.elim
theorem boxA_pick (x : AV) : Pick (boxA x) := by
 intro K h
 unfold boxA at h ⊢
 split at h <;> exact ⟨_, _, h, rfl, rfl⟩
theorem boxZ_pick (P : Program) (T : Nat) (x : AV) : Pick (boxZ P T x) := by
 intro K h
 unfold boxZ at h ⊢
 split at h
 ·exact ⟨_, _, h, rfl, rfl⟩
 ·exact boxA_pick _ h
 ·unfold boxA at h ⊢
  split at h <;> exact ⟨_, _, h, rfl, rfl⟩
theorem fillA_pick (P : Program) (T : Nat) : ∀ (parts : List (Nat × AV)) (cs : List AV) {K : List AV → Prop}, fillA P T parts cs K → ∃ r, K r ∧ fillA P T parts cs (· = r)
 | [], cs, K, h => ⟨cs, h, rfl⟩
 | (i, v) :: parts, cs, K, h => by
   simp only [fillA] at h ⊢
   split at h
   ·obtain ⟨h1, h2, h⟩ := h
    obtain ⟨r, k, h⟩ := fillA_pick P T parts _ h
    exact ⟨r, k, h1, h2, h⟩
   ·split at h
    ·obtain ⟨h1, h2, h⟩ := h
     obtain ⟨r, k, h⟩ := fillA_pick P T parts _ h
     exact ⟨r, k, h1, h2, h⟩
    ·exact h.elim
theorem fillR_pick (es : Nat) : ∀ (parts : List (Nat × AV)) (cs : List AV) {K : List AV → Prop}, fillR es parts cs K → ∃ r, K r ∧ fillR es parts cs (· = r)
 | [], cs, K, h => ⟨cs, h, rfl⟩
 | (i, v) :: parts, cs, K, h => by
   simp only [fillR] at h ⊢
   obtain ⟨h1, h2, h⟩ := h
   obtain ⟨r, k, h⟩ := fillR_pick es parts _ h
   exact ⟨r, k, h1, h2, h⟩
theorem buildA_pick (P : Program) (T : Nat) (parts : List (Nat × AV)) : Pick (buildA P T parts) := by
 intro K h
 unfold buildA at h ⊢
 split at h
 ·split at h
  ·obtain ⟨h2, h⟩ := h
   obtain ⟨r, k, h⟩ := fillR_pick _ _ _ h
   refine ⟨_, _, k, h2, ?_⟩
   have : (fun cs => True = True ∧ AV.agg cs = AV.agg r) = (· = r) := by funext cs; simp
   rw [this]; exact h
  ·obtain ⟨h1, h2, h⟩ := h
   obtain ⟨r, k, h⟩ := fillA_pick _ _ _ _ h
   refine ⟨_, _, k, h1, h2, ?_⟩
   have : (fun cs => True = True ∧ AV.agg cs = AV.agg r) = (· = r) := by funext cs; simp
   rw [this]; exact h
 ·exact h.elim
theorem buildSliceA_pick (P : Program) (T n : Nat) (parts : List (Nat × AV)) : Pick (buildSliceA P T n parts) := by
 intro K h
 unfold buildSliceA at h ⊢
 split at h <;> first | exact ⟨_, _, h, rfl, rfl⟩ | exact h.elim
theorem ifaceA_pick (P : Program) (T : Nat) (x : AV) : Pick (ifaceA P T x) := fun h => ⟨_, _, h, rfl, rfl⟩
theorem convA_pick (P : Program) (T : Nat) (x : AV) : Pick (convA P T x) := by
 intro K h
 unfold convA at h ⊢
 split at h <;> first | exact ⟨_, _, h, rfl, rfl⟩ | exact h.elim
theorem mmA_pick (b : Bool) (xs : List AV) : Pick (mmA b xs) := by
 intro K h
 unfold mmA at h ⊢
 split at h <;> first | exact ⟨_, _, h, rfl, rfl⟩ | exact h.elim
theorem pickA_pick (c a b : AV) : Pick (pickA c a b) := by
 intro K h
 unfold pickA at h ⊢
 split at h
 ·split at h <;> first | (rename_i e1 e2; exact ⟨_, _, h, rfl, rfl⟩) | exact h.elim
 ·exact h.elim

end Go.V
end
section
set_option linter.unusedVariables false
namespace Go.V
set_option linter.unusedSectionVars false
variable [Inhabited GivT]
theorem nilCheckA_sound {P : Program} {x : AV} {K : Prop → AV → Prop} {S : St} {cx : Value} {o : Oper} {y : Operand} {a : Act} (ho : o.op = .nilCheck y) (he : a.eval y = cx)
  (h : nilCheckA P x K) (hx : VRel S x cx) :
  ∃ p v, K p v ∧ (p → ∃ cv, (execOp a.eval o).run P S.w = .ok (.value cv) S.w ∧ VRel S v cv) := by
 unfold nilCheckA at h
 split at h
 case h_6 => exact h.elim
 case h_5 nm t v b =>
  refine ⟨_, _, h, fun hp => ⟨cx, ?_, hx⟩⟩
  cases hx with
  | @func _ _ _ ws us hn hu h1 h2 =>
    have hs : ws.size = 1 := hn
    obtain ⟨y0, e0⟩ : ∃ y0, ws = #[y0] := by
     refine ⟨ws[0]'(by omega), Array.ext (by simp [hs]) fun i hi hj => ?_⟩
     have hi0 : i = 0 := by omega
     subst hi0
     rfl
    subst e0
    have h3 : VRel S (.iface t v) y0 := h1 0 (by simp)
    cases h3 with
    | @iface _ _ v' hv =>
      have hq := hp v' S.w
      simp only [execOp, ho, he]
      show Sem.run P (bind program fun q => bind (nilAhead (q.types.size + Made.depth) t v' nm) fun d => _) S.w = _
      have hpr : Sem.run P program S.w = .ok P S.w := rfl
      simp only [Sem.run_bind, hpr, Result.andThen_ok, hq]
      rfl
 all_goals refine ⟨_, _, h, fun _ => ⟨cx, ?_, hx⟩⟩
 all_goals cases hx
 all_goals simp only [execOp, ho, he]; rfl

def Gives (P : Program) (H : Hp) (o : Oper) (S : St) (a : Act) (v : AV) : Prop := ∃ cv S', (execOp a.eval o).run P S.w = .ok (.value cv) S'.w ∧ Le S S' ∧ HRel S' H ∧ VRel S' v cv
def OpsRel (o : Oper) (s : Fr) (S : St) (a : Act) : Prop := ∀ x ∈ o.op.operands.toList, VRel S (opA s x) (a.eval x)

theorem close' {P : Program} {H : Hp} {o : Oper} {s : Fr} {q p : Prop} {v : AV} {K : Prop → AV → Prop} (k : K (q ∧ p) v)
  (g : q → ∀ S a, HRel S H → OpsRel o s S a → ∃ p' v', (p' = p ∧ v' = v) ∧ (p' → Gives P H o S a v')) : ∃ p v, K p v ∧ (p → ∀ S a, HRel S H → OpsRel o s S a → Gives P H o S a v) :=
 ⟨_, v, k, fun ⟨hq, hp⟩ S a hH hop => by obtain ⟨p', v', ⟨rfl, rfl⟩, c⟩ := g hq S a hH hop; exact c hp⟩

theorem pureA_all {P : Program} {H : Hp} {o : Oper} {s : Fr} {K : Prop → AV → Prop} (h : pureA P H o.op s K) :
  ∃ p v, K p v ∧ (p → ∀ S a, HRel S H → OpsRel o s S a → Gives P H o S a v) := by
 -- a value that the world gives as it is
 have still : ∀ {S : St} {a : Act} (hH : HRel S H) (v : AV), (∃ cv, (execOp a.eval o).run P S.w = .ok (.value cv) S.w ∧ VRel S v cv) → Gives P H o S a v :=
  fun {S a} hH v ⟨cv, e, r⟩ => ⟨cv, S, e, Le.refl S, hH, r⟩
 obtain ⟨dst, op, ty, pos, after, guard⟩ := o
 cases op <;> simp only [pureA] at h <;> try exact h.elim
 case move x =>
  refine ⟨_, _, h, fun hk S a hH hop => still hH _ ⟨a.eval x, rfl, ?_⟩⟩
  exact (hop x (by simp [Op.operands])).strip hk
 case assign x =>
  refine ⟨_, _, h, fun hk S a hH hop => still hH _ ⟨a.eval x, rfl, ?_⟩⟩
  exact (hop x (by simp [Op.operands])).strip hk
 case pick c x y =>
  obtain ⟨p, v, k, g⟩ := pickA_pick _ _ _ h
  refine close' k fun hk S a hH hop => ?_
  obtain ⟨p', v', e, c'⟩ := pickA_sound (P := P) (w := S.w) g ((hop c (by simp [Op.operands])).strip hk) (hop x (by simp [Op.operands])) (hop y (by simp [Op.operands]))
  exact ⟨p', v', e, fun q => still hH _ (c' q)⟩
 case box T x =>
  obtain ⟨p, v, k, g⟩ := boxZ_pick _ _ _ h
  refine close' k fun hk S a hH hop => ?_
  obtain ⟨p', v', e, c'⟩ := boxZ_sound (P := P) (T := T) g hH ((hop x (by simp [Op.operands])).strip hk)
  refine ⟨p', v', e, fun q => ?_⟩
  obtain ⟨cv, S', r1, r2, r3, r4⟩ := c' q
  exact ⟨cv, S', by simp [execOp, r1], r2, r3, r4⟩
 case build T parts =>
  obtain ⟨p, v, k, g⟩ := buildA_pick _ _ _ h
  refine close' k fun hk S a hH hop => ?_
  have hr := partsA_rel (S := S) (s := s) (a := a) (l := parts.toList) (fun x hx => hop x (by simpa [Op.operands] using hx)) hk
  obtain ⟨p', v', e, c'⟩ := buildA_sound (vs := parts.map fun (i, x) => (i, a.eval x)) g (by simpa using hr)
  refine ⟨p', v', e, fun q => still hH _ ?_⟩
  obtain ⟨cv, r1, r2⟩ := c' q
  exact ⟨cv, by simp [execOp, r1], r2⟩
 case buildSlice T n parts =>
  obtain ⟨p, v, k, g⟩ := buildSliceA_pick _ _ _ _ h
  refine close' k fun hk S a hH hop => ?_
  have hr := partsA_rel (S := S) (s := s) (a := a) (l := parts.toList) (fun x hx => hop x (by simpa [Op.operands] using hx)) hk
  obtain ⟨p', v', e, c'⟩ := buildSliceA_sound (vs := parts.map fun (i, x) => (i, a.eval x)) g hH (by simpa using hr)
  refine ⟨p', v', e, fun q => ?_⟩
  obtain ⟨cv, S', r1, r2, r3, r4⟩ := c' q
  exact ⟨cv, S', by simp [execOp, r1], r2, r3, r4⟩
 case load T x =>
  obtain ⟨p, v, k, g⟩ := loadA_pick _ _ _ _ h
  refine close' k fun hk S a hH hop => ?_
  obtain ⟨p', v', e, c'⟩ := loadA_sound g hH ((hop x (by simp [Op.operands])).strip hk)
  refine ⟨p', v', e, fun q => still hH _ ?_⟩
  obtain ⟨cv, r1, r2⟩ := c' q
  exact ⟨cv, by simp [execOp, r1], r2⟩
 case nilCheck x =>
  obtain ⟨p, v, k, g⟩ := nilCheckA_pick _ _ h
  refine close' k fun hk S a hH hop => ?_
  obtain ⟨p', v', e, c'⟩ := nilCheckA_sound (P := P) (o := ⟨dst, .nilCheck x, ty, pos, after, guard⟩) (a := a) rfl rfl g ((hop x (by simp [Op.operands])).strip hk)
  exact ⟨p', v', e, fun q => still hH _ (c' q)⟩
 case binOp op T x y yt =>
  obtain ⟨p, v, k, g⟩ := binA_pick _ _ _ _ _ _ _ h
  have k' : K (((opA s x).ok ∧ (opA s y).ok) ∧ p) v := by rw [and_assoc]; exact k
  refine close' k' fun hk S a hH hop => ?_
  obtain ⟨p', v', e, c'⟩ := binA_sound (P := P) (w := S.w) (t := T) (ox := x) (oy := y) g ((hop x (by simp [Op.operands])).strip hk.1) ((hop y (by simp [Op.operands])).strip hk.2)
  refine ⟨p', v', e, fun q => still hH _ ?_⟩
  obtain ⟨cv, r1, r2⟩ := c' q
  exact ⟨cv, by simp only [execOp, Sem.run_bind] at r1 ⊢; simp only [r1, Result.andThen_ok]; rfl, r2 ▸ .lit _⟩
 case unOp op T x =>
  obtain ⟨p, v, k, g⟩ := unA_pick _ _ h
  refine close' k fun hk S a hH hop => ?_
  obtain ⟨p', v', e, c'⟩ := unA_sound (P := P) (w := S.w) g ((hop x (by simp [Op.operands])).strip hk)
  refine ⟨p', v', e, fun q => still hH _ ?_⟩
  obtain ⟨cv, r1, r2⟩ := c' q
  exact ⟨cv, by simp [execOp, r1], r2 ▸ .lit _⟩
 case convert src T x =>
  obtain ⟨p, v, k, g⟩ := convA_pick _ _ _ h
  have k' : K (((P.underlying src).isSome = true ∧ (opA s x).ok) ∧ p) v := by rw [and_assoc]; exact k
  refine close' k' fun hk S a hH hop => ?_
  obtain ⟨p', v', e, c'⟩ := convA_sound (S := S) (src := src) (Option.isSome_iff_exists.1 hk.1) g ((hop x (by simp [Op.operands])).strip hk.2)
  refine ⟨p', v', e, fun q => still hH _ ?_⟩
  obtain ⟨cv, r1, r2⟩ := c' q
  exact ⟨cv, by simp [execOp, r1], r2⟩
 case makeInterface T x =>
  obtain ⟨p, v, k, g⟩ := ifaceA_pick _ _ _ h
  refine close' k fun hk S a hH hop => ?_
  obtain ⟨p', v', e, c'⟩ := ifaceA_sound (S := S) g ((hop x (by simp [Op.operands])).strip hk)
  refine ⟨p', v', e, fun q => still hH _ ?_⟩
  obtain ⟨cv, r1, r2⟩ := c' q
  exact ⟨cv, by simp [execOp, r1], r2⟩
 case makeFunc fn first caps =>
  refine ⟨_, _, h, fun hk S a hH hop => still hH _ ⟨.func fn (first.map a.eval) (caps.map a.eval), rfl, ?_⟩⟩
  have h1 := (stAll_rel (opsA_rel (S := S) (s := s) (a := a) (l := first.toList) (fun x hx => hop x (by simp [Op.operands] at hx ⊢; exact .inl hx))) hk.1)
  have h2 := (stAll_rel (opsA_rel (S := S) (s := s) (a := a) (l := caps.toList) (fun x hx => hop x (by simp [Op.operands] at hx ⊢; exact .inr hx))) hk.2)
  have g1 := VRels.size (vs := first.map a.eval) (by simpa using h1)
  have g2 := VRels.size (vs := caps.map a.eval) (by simpa using h2)
  exact .func g1.1 g2.1 g1.2 g2.2
 case lookup T x y ok =>
  obtain ⟨p, v, k, g⟩ := lookA_pick _ _ _ _ _ _ h
  have k' : K (((opA s x).ok ∧ (opA s y).ok) ∧ p) v := by rw [and_assoc]; exact k
  refine close' k' fun hk S a hH hop => ?_
  obtain ⟨p', v', e, c'⟩ := lookA_sound g hH ((hop x (by simp [Op.operands])).strip hk.1) ((hop y (by simp [Op.operands])).strip hk.2)
  refine ⟨p', v', e, fun q => still hH _ ?_⟩
  obtain ⟨cv, r1, r2⟩ := c' q
  exact ⟨cv, by simp [execOp, r1], r2⟩
 case slice T x lo hi mx =>
  cases mx with
  | some _ => exact h.elim
  | none =>
  simp only at h
  obtain ⟨p, v, k, g⟩ := sliceA_pick _ _ _ _ _ h
  have k' : K (((opA s x).ok ∧ okO s lo ∧ okO s hi) ∧ p) v := by simp only [and_assoc]; exact k
  refine close' k' fun hk S a hH hop => ?_
  have ho : ∀ (l : Option Operand), (∀ y, l = some y → VRel S (opA s y) (a.eval y)) → okO s l → ORel S (opO s l) (l.map a.eval) := by
   intro l hl hk
   cases l with
   | none => trivial
   | some y => exact (hl y rfl).strip hk
  obtain ⟨p', v', e, c'⟩ := sliceA_sound (w := S.w) g ((hop x (by simp [Op.operands])).strip hk.1) (ho lo (fun y e => hop y (by simp [Op.operands, e])) hk.2.1) (ho hi (fun y e => hop y (by simp [Op.operands, e])) hk.2.2)
  refine ⟨p', v', e, fun q => still hH _ ?_⟩
  obtain ⟨cv, r1, r2⟩ := c' q
  exact ⟨cv, by simp [execOp, r1], r2⟩
 case typeAssert x xt T ok =>
  obtain ⟨p, v, k, g⟩ := taA_pick _ _ _ _ h
  refine close' k fun hk S a hH hop => ?_
  obtain ⟨p', v', e, c'⟩ := taA_sound (xt := xt) (w := S.w) g ((hop x (by simp [Op.operands])).strip hk)
  refine ⟨p', v', e, fun q => still hH _ ?_⟩
  obtain ⟨cv, r1, r2⟩ := c' q
  exact ⟨cv, by simp [execOp, r1], r2⟩
 case fieldAddr T x f =>
  obtain ⟨p, v, k, g⟩ := fieldAddrA_pick _ _ _ _ h
  refine close' k fun hk S a hH hop => ?_
  obtain ⟨p', v', e, c'⟩ := fieldAddrA_sound g ((hop x (by simp [Op.operands])).strip hk)
  refine ⟨p', v', e, fun q => still hH _ ?_⟩
  obtain ⟨cv, r1, r2⟩ := c' q
  exact ⟨cv, by simp [execOp, r1], r2⟩
 case field T x f =>
  obtain ⟨p, v, k, g⟩ := fieldA_pick _ _ _ _ h
  refine close' k fun hk S a hH hop => ?_
  obtain ⟨p', v', e, c'⟩ := fieldA_sound g ((hop x (by simp [Op.operands])).strip hk)
  refine ⟨p', v', e, fun q => still hH _ ?_⟩
  obtain ⟨cv, r1, r2⟩ := c' q
  exact ⟨cv, by simp [execOp, r1], r2⟩
 case indexAddr T x i =>
  obtain ⟨p, v, k, g⟩ := indexAddrA_pick _ _ _ _ h
  have k' : K (((opA s x).ok ∧ (opA s i).ok) ∧ p) v := by rw [and_assoc]; exact k
  refine close' k' fun hk S a hH hop => ?_
  obtain ⟨p', v', e, c'⟩ := indexAddrA_sound g ((hop x (by simp [Op.operands])).strip hk.1) ((hop i (by simp [Op.operands])).strip hk.2)
  refine ⟨p', v', e, fun q => still hH _ ?_⟩
  obtain ⟨cv, r1, r2⟩ := c' q
  exact ⟨cv, by simp [execOp, r1], r2⟩
 case index T x i =>
  obtain ⟨p, v, k, g⟩ := indexA_pick _ _ _ _ h
  have k' : K (((opA s x).ok ∧ (opA s i).ok) ∧ p) v := by rw [and_assoc]; exact k
  refine close' k' fun hk S a hH hop => ?_
  obtain ⟨p', v', e, c'⟩ := indexA_sound g ((hop x (by simp [Op.operands])).strip hk.1) ((hop i (by simp [Op.operands])).strip hk.2)
  refine ⟨p', v', e, fun q => still hH _ ?_⟩
  obtain ⟨cv, r1, r2⟩ := c' q
  exact ⟨cv, by simp [execOp, r1], r2⟩
 case extract x i =>
  obtain ⟨p, v, k, g⟩ := extractA_pick _ _ h
  refine close' k fun hk S a hH hop => ?_
  obtain ⟨p', v', e, c'⟩ := extractA_sound (P := P) g ((hop x (by simp [Op.operands])).strip hk)
  refine ⟨p', v', e, fun q => still hH _ ?_⟩
  obtain ⟨cv, r1, r2⟩ := c' q
  exact ⟨cv, by simp [execOp, r1], r2⟩
 case call c =>
  obtain ⟨callee, args, tys⟩ := c
  cases callee with
  | value f => exact h.elim
  | invoke f m => exact h.elim
  | builtin b =>
    cases b <;> simp only at h <;> try exact h.elim
    case len =>
     split at h
     case h_2 => exact h.elim
     case h_1 x T ex eT =>
      obtain ⟨p, v, k, g⟩ := lenA_pick _ _ _ h
      refine close' k fun hk S a hH hop => ?_
      obtain ⟨p', v', e, c'⟩ := lenA_sound (ty := ty) g ((hop x (by simp [Op.operands, Call.operands, ex])).strip hk)
      refine ⟨p', v', e, fun q => still hH _ ?_⟩
      obtain ⟨cv, r1, r2⟩ := c' q
      have e1 : args = #[x] := by apply Array.ext'; simpa using ex
      have e2 : tys = #[T] := by apply Array.ext'; simpa using eT
      subst e1 e2
      exact ⟨cv, by simp [execOp, resolve, invoke, builtin, r1], r2⟩
    case max =>
     obtain ⟨p, v, k, g⟩ := mmA_pick _ _ h
     refine close' k fun hk S a hH hop => ?_
     obtain ⟨p', v', e, c'⟩ := mmA_sound (P := P) (tys := tys) (ty := ty) g (stAll_rel (opsA_rel (fun x hx => hop x (by simpa [Op.operands, Call.operands] using hx))) hk)
     refine ⟨p', v', e, fun q => still hH _ ?_⟩
     obtain ⟨cv, r1, r2⟩ := c' q
     have e1 : (args.toList.map a.eval).toArray = args.map a.eval := by apply Array.ext'; simp
     rw [e1] at r1
     exact ⟨cv, by simp [execOp, resolve, invoke, builtin, r1], r2⟩
    case min =>
     obtain ⟨p, v, k, g⟩ := mmA_pick _ _ h
     refine close' k fun hk S a hH hop => ?_
     obtain ⟨p', v', e, c'⟩ := mmA_sound (P := P) (tys := tys) (ty := ty) g (stAll_rel (opsA_rel (fun x hx => hop x (by simpa [Op.operands, Call.operands] using hx))) hk)
     refine ⟨p', v', e, fun q => still hH _ ?_⟩
     obtain ⟨cv, r1, r2⟩ := c' q
     have e1 : (args.toList.map a.eval).toArray = args.map a.eval := by apply Array.ext'; simp
     rw [e1] at r1
     exact ⟨cv, by simp [execOp, resolve, invoke, builtin, r1], r2⟩

theorem pureA_sound {P : Program} {H : Hp} {o : Oper} {s : Fr} {K : Prop → AV → Prop} {S : St} {a : Act} (h : pureA P H o.op s K) (hH : HRel S H)
  (hop : ∀ x ∈ o.op.operands.toList, VRel S (opA s x) (a.eval x)) :
  ∃ p v, K p v ∧ (p → ∃ cv S', (execOp a.eval o).run P S.w = .ok (.value cv) S'.w ∧ Le S S' ∧ HRel S' H ∧ VRel S' v cv) := by
 obtain ⟨p, v, k, c⟩ := pureA_all h
 exact ⟨p, v, k, fun hp => c hp S a hH hop⟩

end Go.V
end
section
set_option linter.unusedVariables false
namespace Go.V
set_option linter.unusedSectionVars false
variable [Inhabited GivT]
theorem OkObj.not_imm {S : St} {i b : Nat} {o : Obj} (h : OkObj S i o) (hb : S.loc i o.gen = .blk b) : ¬ S.imm b := by
 cases o with
 | box st n f => obtain ⟨b', c, e, h1, h2, h3, h4⟩ := h; rw [show S.loc i 0 = .blk b from hb] at h1; cases h1; exact h3
 | row st n f =>
   obtain ⟨g1, old⟩ := h
   have hb' : S.loc i n = .blk b := hb
   rcases old with ⟨rfl, e⟩ | ⟨b', c, e, h1, h2, h3, h4⟩
   ·rw [e] at hb'; cases hb'
   ·rw [hb'] at h1; cases h1; exact h3
 | memo F => obtain ⟨b', es, k, h1, h2, h3, h4⟩ := h; rw [show S.loc i 0 = .blk b from hb] at h1; cases h1; exact h3
 | raw o => obtain ⟨b', h1, h2, h3, h4⟩ := h; rw [show S.loc i 0 = .blk b from hb] at h1; cases h1; exact h4
 | loop l n s ps assign body st pend did => obtain ⟨h1, h2, fn, tmps, D, h3, h4⟩ := h; rw [show S.loc i 0 = .blk b from hb] at h1; cases h1; exact h2
 | iter mid since seen c0 => obtain ⟨r, b', h1, h2, h3, h4⟩ := h; rw [show S.loc i 0 = .blk b from hb] at h1; cases h1; exact h4

/-- The state behind a change of one object. -/
def St.chg (S : St) (w : World) (id g : Nat) (l : Loc) : St := { S with w := w, loc := fun i k => if i = id ∧ k = g then l else S.loc i k }

structure Chg (S : St) (id : Nat) (o : Obj) (w : World) : Prop where
 os : w.os = S.w.os
 tape : w.tape = S.w.tape
 output : w.output = S.w.output
 size : S.w.heap.size ≤ w.heap.size
 other : ∀ b, b < S.w.heap.size → S.loc id o.gen ≠ .blk b → w.heap[b]? = S.w.heap[b]?
 own : ∀ b c e fz, S.loc id o.gen = .blk b → S.w.heap[b]? = some (.cells c e fz) → ∃ c', w.heap[b]? = some (.cells c' e fz) ∧ c'.size = c.size

theorem Chg.le {S : St} {H : Hp} {id g : Nat} {o : Obj} {w : World} {l : Loc} (hH : HRel S H) (ho : H id = some o) (h : Chg S id o w)
  (hl : S.loc id g = .unk ∨ S.loc id g = l) : Le S (S.chg w id g l) where
 os := h.os
 tape := h.tape
 output := h.output
 size := h.size
 imm := fun _ x => x
 keep := fun b hb => h.other b (hH.immlt b hb) fun e => (hH.obj id o ho).not_imm e hb
 loc := fun i k hk => by
  simp only [St.chg]
  split
  ·rename_i e
   obtain ⟨rfl, rfl⟩ := e
   rcases hl with hl | hl
   ·exact absurd hl hk
   ·exact hl.symm
  ·rfl
 next := Nat.le_refl _
 csize := fun b c e fz hb => by
  by_cases hx : S.loc id o.gen = .blk b
  ·exact h.own b c e fz hx hb
  ·exact ⟨c, (h.other b (lt_of_heap hb) hx).trans hb, rfl⟩

theorem Chg.hrel {S : St} {H : Hp} {id g : Nat} {o o' : Obj} {w : World} {l : Loc} (hH : HRel S H) (ho : H id = some o) (h : Chg S id o w)
  (hl : S.loc id g = .unk ∨ S.loc id g = l) (hok : OkObj (S.chg w id g l) id o') (hnew : ∀ b, (S.chg w id g l).loc id o'.gen = .blk b → S.loc id o.gen = .blk b ∨ S.w.heap.size ≤ b) :
  HRel (S.chg w id g l) (H.set id o') := by
 have hle := h.le hH ho hl
 have hid : ¬ S.next ≤ id := fun e => by rw [(hH.fresh id e).1] at ho; cases ho
 have hne : ∀ i o2, i ≠ id → H i = some o2 → ∀ b, S.loc i o2.gen = .blk b → S.loc id o.gen ≠ .blk b := fun i o2 hi hx b hb e => hi (hH.inj i id o2 o b hx ho hb e)
 refine ⟨fun i hi => ?_, fun b hb => Nat.lt_of_lt_of_le (hH.immlt b hb) h.size, fun i x hx => ?_, ?_, fun p hp => (hH.giv p hp).mono hle⟩
 ·have : i ≠ id := fun e => hid (e ▸ hi)
  refine ⟨by rw [Hp.set_ne _ _ this]; exact (hH.fresh i hi).1, fun k => ?_⟩
  simp only [St.chg]
  rw [if_neg (fun e => this e.1)]
  exact (hH.fresh i hi).2 k
 ·by_cases e : i = id
  ·subst e; rw [Hp.set_same] at hx; cases hx; exact hok
  ·rw [Hp.set_ne _ _ e] at hx
   refine (hH.obj i x hx).keep hle (fun k => by simp only [St.chg]; rw [if_neg (fun q => e q.1)]) (fun b hb => ?_) (fun b _ _ him => him)
   obtain ⟨y, hy⟩ := (hH.obj i x hx).blk_lt hb
   exact h.other b (lt_of_heap hy) (hne i x e hx b hb)
 ·have key : ∀ j p b, j ≠ id → H j = some p → S.loc j p.gen = .blk b → (S.chg w id g l).loc id o'.gen = .blk b → False := by
   intro j p b hj hp hb hb'
   rcases hnew b hb' with hx | hx
   ·exact hne j p hj hp b hb hx
   ·obtain ⟨y, hy⟩ := (hH.obj j p hp).blk_lt hb
    have := lt_of_heap hy
    omega
  intro i j p p' b hp hp' hb hb'
  by_cases e : i = id
  ·subst e
   by_cases e' : j = i
   ·exact e'.symm
   ·exfalso
    rw [Hp.set_same] at hp; cases hp
    rw [Hp.set_ne _ _ e'] at hp'
    simp only [St.chg] at hb'
    rw [if_neg (fun q => e' q.1)] at hb'
    exact key j p' b e' hp' hb' hb
  ·rw [Hp.set_ne _ _ e] at hp
   simp only [St.chg] at hb
   rw [if_neg (fun q => e q.1)] at hb
   by_cases e' : j = id
   ·exfalso
    subst e'
    rw [Hp.set_same] at hp'; cases hp'
    exact key i p b e hp hb hb'
   ·rw [Hp.set_ne _ _ e'] at hp'
    simp only [St.chg] at hb'
    rw [if_neg (fun q => e' q.1)] at hb'
    exact hH.inj i j p p' b hp hp' hb hb'

/-- The state behind the laying of a new object. -/
def St.lay (S : St) (o : Go.Obj) : St := { S with w := S.w.alloc o, loc := fun i k => if i = S.next ∧ k = 0 then .blk S.w.heap.size else S.loc i k, next := S.next + 1 }
/-- The state behind the naming of a nil slice. -/
def St.layNil (S : St) : St := { S with loc := fun i k => if i = S.next ∧ k = 0 then .nil else S.loc i k, next := S.next + 1 }

theorem St.lay_le {S : St} {H : Hp} (hH : HRel S H) (o : Go.Obj) : Le S (S.lay o) where
 os := rfl
 tape := rfl
 output := rfl
 size := by simp [St.lay]
 imm := fun b h => h
 keep := fun b h => heap_alloc_lt _ _ (hH.immlt b h)
 loc := fun i k h => by
  simp only [St.lay]; rw [if_neg]
  rintro ⟨rfl, rfl⟩; exact h ((hH.fresh _ (Nat.le_refl _)).2 0)
 next := Nat.le_succ _
 csize := fun b c e fz h => ⟨c, by rw [St.lay, heap_alloc_lt _ _ (lt_of_heap h)]; exact h, rfl⟩

theorem St.layNil_le {S : St} {H : Hp} (hH : HRel S H) : Le S S.layNil where
 os := rfl
 tape := rfl
 output := rfl
 size := Nat.le_refl _
 imm := fun b h => h
 keep := fun b h => rfl
 loc := fun i k h => by
  simp only [St.layNil]; rw [if_neg]
  rintro ⟨rfl, rfl⟩; exact h ((hH.fresh _ (Nat.le_refl _)).2 0)
 next := Nat.le_succ _
 csize := fun b c e fz h => ⟨c, h, rfl⟩

theorem HRel.layWith {S S' : St} {H : Hp} (hH : HRel S H) (o' : Obj) (hle : Le S S') (hn : S'.next = S.next + 1) (himm : S'.imm = S.imm) (hsz : S.w.heap.size ≤ S'.w.heap.size)
  (hb : ∀ b, b < S.w.heap.size → S'.w.heap[b]? = S.w.heap[b]?) (hl : ∀ i k, i ≠ S.next → S'.loc i k = S.loc i k) (hok : OkObj S' S.next o')
  (hnew : ∀ b, S'.loc S.next o'.gen = .blk b → S.w.heap.size ≤ b) : HRel S' (H.set S.next o') := by
 have hfr := hH.fresh S.next (Nat.le_refl _)
 refine ⟨fun i hi => ?_, fun b h => ?_, fun i x hx => ?_, ?_, fun p hp => (hH.giv p hp).mono hle⟩
 ·rw [hn] at hi
  have : i ≠ S.next := by omega
  exact ⟨by rw [Hp.set_ne _ _ this]; exact (hH.fresh i (by omega)).1, fun k => by rw [hl i k this]; exact (hH.fresh i (by omega)).2 k⟩
 ·rw [himm] at h; exact Nat.lt_of_lt_of_le (hH.immlt b h) hsz
 ·by_cases e : i = S.next
  ·subst e; rw [Hp.set_same] at hx; cases hx; exact hok
  ·rw [Hp.set_ne _ _ e] at hx
   refine (hH.obj i x hx).keep hle (fun k => hl i k e) (fun b hbl => ?_) (fun b _ _ h => by rw [himm] at h; exact h)
   obtain ⟨y, hy⟩ := (hH.obj i x hx).blk_lt hbl
   exact hb b (lt_of_heap hy)
 ·have key : ∀ j p b, j ≠ S.next → H j = some p → S.loc j p.gen = .blk b → S'.loc S.next o'.gen = .blk b → False := by
   intro j p b hj hp hbl hb'
   obtain ⟨y, hy⟩ := (hH.obj j p hp).blk_lt hbl
   have := lt_of_heap hy
   have := hnew b hb'
   omega
  intro i j p p' b hp hp' hbl hb'
  by_cases e : i = S.next
  ·subst e
   by_cases e' : j = S.next
   ·exact e'.symm
   ·exfalso
    rw [Hp.set_same] at hp; cases hp
    rw [Hp.set_ne _ _ e'] at hp'
    rw [hl j _ e'] at hb'
    exact key j p' b e' hp' hb' hbl
  ·rw [Hp.set_ne _ _ e] at hp
   rw [hl i _ e] at hbl
   by_cases e' : j = S.next
   ·exfalso
    subst e'
    rw [Hp.set_same] at hp'; cases hp'
    exact key i p b e hp hbl hb'
   ·rw [Hp.set_ne _ _ e'] at hp'
    rw [hl j _ e'] at hb'
    exact hH.inj i j p p' b hp hp' hbl hb'

theorem HRel.lay {S : St} {H : Hp} (hH : HRel S H) (o : Go.Obj) (o' : Obj) (hg : o'.gen = 0) (hok : OkObj (S.lay o) S.next o') : HRel (S.lay o) (H.set S.next o') :=
 hH.layWith o' (S.lay_le hH o) rfl rfl (by simp [St.lay]) (fun b hb => heap_alloc_lt _ _ hb) (fun i k hi => by simp only [St.lay]; rw [if_neg (fun e => hi e.1)]) hok
  (fun b hb => by rw [hg] at hb; simp [St.lay] at hb; omega)

theorem HRel.layNil {S : St} {H : Hp} (hH : HRel S H) (st : Nat) (f : Nat → List AV) : HRel S.layNil (H.set S.next (.row st 0 f)) :=
 hH.layWith _ (S.layNil_le hH) rfl rfl (Nat.le_refl _) (fun b hb => rfl) (fun i k hi => by simp only [St.layNil]; rw [if_neg (fun e => hi e.1)])
  ⟨fun g hg => by
   simp only [St.layNil]; rw [if_neg (fun e => by omega)]; exact (hH.fresh _ (Nat.le_refl _)).2 g, .inl ⟨rfl, by simp [St.layNil]⟩⟩
  (fun b hb => by simp [Obj.gen, St.layNil] at hb)

theorem St.next_none {S : St} {H : Hp} (hH : HRel S H) : H S.next = none := (hH.fresh _ (Nat.le_refl _)).1

end Go.V
end
section
set_option linter.unusedVariables false
namespace Go.V
set_option linter.unusedSectionVars false
variable [Inhabited GivT]
inductive Res where
 | ret (v : AV)
 | pan (v : AV)

def ResRel (S : St) : Ending → Res → Prop
 | .returned v, .ret av => VRel S av v
 | .panicked ch, .pan av => ∃ v, ch = [{ v, recovered := false }] ∧ VRel S av v
 | _, _ => False

def Out (S : St) (R : Res → Hp → Prop) (e : Ending) (w : World) : Prop := ∃ S' r H', S'.w = w ∧ Le S S' ∧ HRel S' H' ∧ ResRel S' e r ∧ R r H'

def NextOk (P : Program) (S : St) (R : Res → Hp → Prop) : Next → Prop
 | .enter f args => Calls P f args S.w (Out S R)
 | .round l f t as b => RoundIn Fence.wide 0 P l f t as b S.w (Out S R)
 | _ => False

/-- A call of a function value, from an abstract heap on: what comes of it. -/
def Tri (P : Program) (fv : AV) (args : List AV) (H : Hp) (R : Res → Hp → Prop) : Prop :=
 ∀ S vf vs, HRel S H → VRel S fv vf → VRels S args vs →
   ∃ nx, (do let d ← Deferred.ofValue vf vs.toArray; invoke d.target d.args : Sem Next).run P S.w = .ok nx S.w ∧ NextOk P S R nx

theorem Tri.mono {P : Program} {fv : AV} {args : List AV} {H : Hp} {R R' : Res → Hp → Prop} (h : Tri P fv args H R) (k : ∀ r H', R r H' → R' r H') : Tri P fv args H R' := by
 intro S vf vs hH hf ha
 obtain ⟨nx, h1, h2⟩ := h S vf vs hH hf ha
 have ho : ∀ e w, Out S R e w → Out S R' e w := fun e w ⟨S', r, H', a, b, c, d, e'⟩ => ⟨S', r, H', a, b, c, d, k _ _ e'⟩
 refine ⟨nx, h1, ?_⟩
 cases nx <;> simp only [NextOk] at h2 ⊢
 ·exact Calls.mono h2 ho
 ·exact h2.mono ho

abbrev fnA (f : FuncId) : AV := .func (.func f) [] []

/-- A call that leaves the abstract heap as it is and hands back v. -/
abbrev PTri (P : Program) (fv : AV) (args : List AV) (H : Hp) (v : AV) : Prop := Tri P fv args H fun r H' => r = .ret v ∧ H' = H

def CallK (P : Program) (fv : AV) (args : List AV) (H : Hp) (K : AV → Hp → Prop) (Kp : AV → Hp → Prop) : Prop :=
 ∃ R, Tri P fv args H R ∧ ∀ r H', R r H' → match r with
   | .ret v => K v H'
   | .pan v => Kp v H'

theorem callK_pure {P : Program} {fv : AV} {args : List AV} {H : Hp} {K : AV → Hp → Prop} {Kp : AV → Hp → Prop} {v : AV} (h : PTri P fv args H v) (k : K v H) : CallK P fv args H K Kp :=
 ⟨_, h, by rintro r H' ⟨rfl, rfl⟩; exact k⟩

def StepOk (r : Option Nat) (P : Program) (o : Oper) (S : St) (a : Act) (K : AV → List AD → Hp → Prop) (Kp : AV → Hp → Prop) : Prop :=
 ∀ (next : Act → World → Prop) (Q : Exit → Act → World → Prop),
   (∀ S' cv v ds' df H', Le S S' → HRel S' H' → VRel S' v cv → DRel S' ds' df → K v ds' H' → next ({ a with defers := df }.put o.dst cv) S'.w) →
   (∀ S' cv v H', Le S S' → HRel S' H' → VRel S' v cv → Kp v H' → Q (.panic [{ v := cv, recovered := false }]) a S'.w) →
   o.wpIn (FW r) 0 P a S.w next Q

section
variable {r : Option Nat} {P : Program} {o : Oper} {S S' : St} {a : Act} {K : AV → List AD → Hp → Prop} {Kp : AV → Hp → Prop} {ds : List AD} {H H' : Hp}
theorem stepOk_value {v : AV} {cv : Value} (hd : ∀ c, o.op ≠ .defer c) (hr : (execOp a.eval o).run P S.w = .ok (.value cv) S'.w) (hle : Le S S') (hH : HRel S' H') (hv : VRel S' v cv)
  (hD : DRel S ds a.defers) (hk : K v ds H') : StepOk r P o S a K Kp := by
 intro next Q hn hq
 refine ⟨fun _ _ => trivial, ?_⟩
 rw [Oper.semAt_eq _ _ _ hd, hr]
 exact hn S' cv v ds a.defers H' hle hH hv (hD.mono hle) hk

theorem stepOk_skip {v : AV} (hd : ∀ c, o.op ≠ .defer c) (hr : (execOp a.eval o).run P S.w = .ok .skip S'.w) (hle : Le S S') (hH : HRel S' H')
  (hD : DRel S ds a.defers) (hv : VRel S' v undef) (hk : K v ds H') : StepOk r P o S a K Kp := by
 intro next Q hn hq
 refine ⟨fun _ _ => trivial, ?_⟩
 rw [Oper.semAt_eq _ _ _ hd, hr]
 exact hn S' undef v ds a.defers H' hle hH hv (hD.mono hle) hk

theorem stepOk_pure (hd : ∀ c, o.op ≠ .defer c) {s : Fr} (h : pureA P H o.op s fun p v => p ∧ K v ds H) (hH : HRel S H) (hop : ∀ x ∈ o.op.operands.toList, VRel S (opA s x) (a.eval x))
  (hD : DRel S ds a.defers) : StepOk r P o S a K Kp := by
 obtain ⟨p, v, ⟨hp, hk⟩, c⟩ := pureA_sound h hH hop
 obtain ⟨cv, S', h1, h2, h3, h4⟩ := c hp
 exact stepOk_value hd h1 h2 h3 h4 hD hk
end
def callOps (s : Fr) (c : Call) : AV × List AV := match c.callee with
 | .value f => (opA s f, opsA s c.args.toList)
 | .invoke x name => (.func (.method name) [] [], opA s x :: opsA s c.args.toList)
 | .builtin _ => (.any, [])

def callA (P : Program) (s : Fr) (c : Call) (H : Hp) (K : AV → Hp → Prop) (Kp : AV → Hp → Prop) : Prop := match c.callee with
 | .value f => (opA s f).ok ∧ okAll (opsA s c.args.toList) ∧ CallK P (opA s f).st (stAll (opsA s c.args.toList)) H K Kp
 | .invoke x name => (opA s x).ok ∧ okAll (opsA s c.args.toList) ∧ CallK P (.func (.method name) [] []) ((opA s x).st :: stAll (opsA s c.args.toList)) H K Kp
 | .builtin _ => False

theorem NextOk.step {r : Option Nat} {P : Program} {o : Oper} {S : St} {a : Act} {K : AV → Hp → Prop} {Kp : AV → Hp → Prop} {R : Res → Hp → Prop} {nx : Next} (h : NextOk P S R nx)
  (hR : ∀ r H', R r H' → match r with | .ret v => K v H' | .pan v => Kp v H') (next : Act → World → Prop) (Q : Exit → Act → World → Prop)
  (hn : ∀ S' cv v H', Le S S' → HRel S' H' → VRel S' v cv → K v H' → next (a.put o.dst cv) S'.w)
  (hq : ∀ S' cv v H', Le S S' → HRel S' H' → VRel S' v cv → Kp v H' → Q (.panic [{ v := cv, recovered := false }]) a S'.w) :
  o.uponIn (FW r) 0 P a next Q (.ok nx S.w) := by
 have key : ∀ e w, Out S R e w → (match e with
   | .returned v => next (a.put o.dst v) w
   | .panicked chain => Q (.panic chain) a w
   | .outgrown => LetsOut Q) := by
  rintro e w ⟨S', r', H', rfl, hle, hH', hrr, hr⟩
  have hk := hR r' H' hr
  cases e with
  | returned v =>
    cases r' with
    | ret av => exact hn S' v av H' hle hH' hrr hk
    | pan av => exact hrr.elim
  | panicked ch =>
    cases r' with
    | ret av => exact hrr.elim
    | pan av => obtain ⟨v, rfl, hv⟩ := hrr; exact hq S' v av H' hle hH' hv hk
  | outgrown => cases r' <;> exact hrr.elim
 cases nx <;> simp only [NextOk] at h
 ·refine ⟨fun x => by simp [Fence.wide] at x, ?_⟩
  exact (callsIn_wide (n := 0)).2 (Calls.mono h fun e w he => by have := key e w he; cases e <;> exact this)
 ·refine ⟨fun x => by simp [Fence.wide] at x, ?_⟩
  exact RoundIn.mono (F := Fence.wide) (n := 0) h fun e w he => by have := key e w he; cases e <;> exact this

theorem callA_raw {r : Option Nat} {P : Program} {o : Oper} {c : Call} {s : Fr} {S : St} {a : Act} {K : AV → Hp → Prop} {Kp : AV → Hp → Prop} {H : Hp} (ho : o.op = .call c)
  (h : callA P s c H K Kp) (hH : HRel S H) (hop : ∀ x ∈ o.op.operands.toList, VRel S (opA s x) (a.eval x)) (next : Act → World → Prop) (Q : Exit → Act → World → Prop)
  (hn : ∀ S' cv v H', Le S S' → HRel S' H' → VRel S' v cv → K v H' → next (a.put o.dst cv) S'.w)
  (hq : ∀ S' cv v H', Le S S' → HRel S' H' → VRel S' v cv → Kp v H' → Q (.panic [{ v := cv, recovered := false }]) a S'.w) : o.wpIn (FW r) 0 P a S.w next Q := by
 refine ⟨fun _ _ => trivial, ?_⟩
 rw [Oper.semAt_eq _ _ _ (fun c' e => by rw [ho] at e; cases e)]
 rw [ho] at hop
 obtain ⟨callee, args, tys⟩ := c
 cases callee with
 | builtin b => exact h.elim
 | value f =>
   obtain ⟨k1, k2, R, hT, hR⟩ := h
   have hf : VRel S (opA s f).st (a.eval f) := (hop f (by simp [Op.operands, Call.operands])).strip k1
   have ha := stAll_rel (opsA_rel (S := S) (s := s) (a := a) (l := args.toList) (fun x hx => hop x (by simp [Op.operands, Call.operands] at hx ⊢; exact .inr hx))) k2
   obtain ⟨nx, h1, h2⟩ := hT S _ _ hH hf ha
   have e : (execOp a.eval o).run P S.w = .ok nx S.w := by
    have ea : (args.toList.map a.eval).toArray = args.map a.eval := by apply Array.ext'; simp
    rw [ea] at h1
    simp only [execOp, ho, resolve]
    exact h1
   rw [e]
   exact h2.step hR next Q hn hq
 | invoke x name =>
   obtain ⟨k1, k2, R, hT, hR⟩ := h
   have hf : VRel S (opA s x).st (a.eval x) := (hop x (by simp [Op.operands, Call.operands])).strip k1
   have ha := stAll_rel (opsA_rel (S := S) (s := s) (a := a) (l := args.toList) (fun x hx => hop x (by simp [Op.operands, Call.operands] at hx ⊢; exact .inr hx))) k2
   have ha' : VRels S ((opA s x).st :: stAll (opsA s args.toList)) (a.eval x :: args.toList.map a.eval) := by
    refine ⟨by simpa using ha.1, fun k hk => ?_⟩
    cases k with
    | zero => exact hf
    | succ k => simpa using ha.2 k (by simpa using hk)
   obtain ⟨nx, h1, h2⟩ := hT S (.func (.method name) #[] #[]) _ hH (.func rfl rfl (fun k hk => absurd hk (by simp)) (fun k hk => absurd hk (by simp))) ha'
   have e : (execOp a.eval o).run P S.w = .ok nx S.w := by
    have ea : (a.eval x :: args.toList.map a.eval).toArray = #[a.eval x] ++ args.map a.eval := by apply Array.ext'; simp
    rw [ea] at h1
    simp only [execOp, ho, resolve, Sem.run_bind, Sem.run_pure, Result.andThen_ok, Deferred.ofValue] at h1 ⊢
    simpa using h1
   rw [e]
   exact h2.step hR next Q hn hq

theorem callA_sound {r : Option Nat} {P : Program} {o : Oper} {c : Call} {s : Fr} {S : St} {a : Act} {K : AV → Hp → Prop} {Kp : AV → Hp → Prop} {ds : List AD} {H : Hp} (ho : o.op = .call c)
  (h : callA P s c H K Kp) (hH : HRel S H) (hop : ∀ x ∈ o.op.operands.toList, VRel S (opA s x) (a.eval x)) (hD : DRel S ds a.defers) :
  StepOk r P o S a (fun v ds' H' => K v H' ∧ ds' = ds) Kp :=
 fun next Q hn hq => callA_raw ho h hH hop next Q (fun S' cv v H' hle hH' hv hk => hn S' cv v ds a.defers H' hle hH' hv (hD.mono hle) ⟨hk, rfl⟩) hq

end Go.V
end
section
set_option linter.unusedVariables false
namespace Go.V
set_option linter.unusedSectionVars false
variable [Inhabited GivT]
def sameZ : Value → Value → Bool
 | .bool a, .bool b => a == b
 | .int k a, .int k' b => decide (k = k') && decide (a = b)
 | .slice none 0 0, .slice none 0 0 => true
 | .map none, .map none => true
 | .pointer none, .pointer none => true
 | .nilIface, .nilIface => true
 | .nilFunc, .nilFunc => true
 | _, _ => false
theorem sameZ_eq {a b : Value} (h : sameZ a b = true) : a = b := by
 unfold sameZ at h
 split at h <;> simp_all

def uniZ (z : List Value) (n st : Nat) : Bool :=
 decide (z.length = n * st) && (List.range n).all fun i => (List.range st).all fun j => sameZ (z.getD (i * st + j) undef) ((z.take st).getD j undef)

/-- The zero variable: the size of an element, how many, an element's cells. -/
def azT (P : Program) (T : TypeId) : Option (Nat × Nat × List Value) := match zeroT P T with
 | some z => match arT P T with
   | some (n, st, _) => if uniZ z n st then some (st, n, z.take st) else none
   | none => some (z.length, 1, z)
 | none => none

theorem azT_spec {P : Program} {T st n : Nat} {z : List Value} (h : azT P T = some (st, n, z)) (w : World) :
  ∃ v, (zeroValue T).run P w = .ok v w ∧ v.cells.size = n * st ∧ z.length ≤ st ∧ ∀ i j, i < n → j < st → v.cells.getD (i * st + j) undef = z.getD j undef := by
 unfold azT at h
 split at h
 case h_2 => cases h
 case h_1 zz hz =>
  obtain ⟨v, h1, h2⟩ := zeroT_spec hz w
  split at h
  case h_1 m es b ha =>
   split at h
   case isFalse => cases h
   case isTrue hu =>
    simp only [Option.some.injEq, Prod.mk.injEq] at h
    obtain ⟨rfl, rfl, rfl⟩ := h
    simp only [uniZ, Bool.and_eq_true, decide_eq_true_eq, List.all_eq_true, List.mem_range] at hu
    refine ⟨v, h1, by rw [← hu.1, ← h2]; simp, by simp; omega, fun i j hi hj => ?_⟩
    have := sameZ_eq (hu.2 i hi j hj)
    rw [← this, ← h2]
    simp [List.getD, Array.getD_eq_getD_getElem?]
  case h_2 =>
   simp only [Option.some.injEq, Prod.mk.injEq] at h
   obtain ⟨rfl, rfl, rfl⟩ := h
   refine ⟨v, h1, by rw [← h2]; simp, by omega, fun i j hi hj => ?_⟩
   have : i = 0 := by omega
   subst this
   rw [← h2]
   simp [List.getD, Array.getD_eq_getD_getElem?]

def allocA (P : Program) (T : TypeId) (H : Hp) (K : AV → Hp → Prop) : Prop := match azT P T with
 | some (st, n, z) => z.length = st ∧ ∀ id, H id = none → K (.ref id 0 st 0 0) (H.set id (.box st n fun _ => z.map .lit))
 | none => False

def boxMutA (x : AV) (H : Hp) (K : AV → Hp → Prop) : Prop := match x with
 | .agg cs => ∀ id, H id = none → K (.ref id 0 cs.length 0 0) (H.set id (.box cs.length 1 fun _ => cs))
 | .arr n st f => ∀ id, H id = none → K (.ref id 0 st 0 0) (H.set id (.box st n f))
 | x => cellA x = true ∧ ∀ id, H id = none → K (.ref id 0 1 0 0) (H.set id (.box 1 1 fun _ => [x]))

def newCells (old vs : List AV) (j : Nat) : List AV := old.take j ++ vs ++ old.drop (j + vs.length)

def okCells : List AV → Prop
 | [] => True
 | x :: r => cellA x = true ∧ okCells r

def updF (n i : Nat) (f : Nat → List AV) (c : List AV) : Nat → List AV := match n with
 | 1 => fun _ => c
 | _ => fun k => if k = i then c else f k

def storeObj (P : Program) (T n st : Nat) (f : Nat → List AV) (i j : Nat) (y : AV) (K : (Nat → List AV) → Prop) : Prop := match szT P T with
 | some (sz, _) => match y with
   | .arr n' st' f' => n' = n ∧ st' = st ∧ i = 0 ∧ j = 0 ∧ sz = n * st ∧ (∀ k, k < n → okCells (f' k)) ∧ K f'
   | .agg cs => match decide (st < sz) with
     | true => i = 0 ∧ j = 0 ∧ cs.length = n * st ∧ sz = n * st ∧ okCells cs ∧ K (fun k => (cs.drop (k * st)).take st)
     | false => i < n ∧ j + cs.length ≤ st ∧ cs.length = sz ∧ okCells cs ∧ K (updF n i f (newCells (f i) cs j))
   | .lit (.agg cs) => i < n ∧ j + (cs.toList.map AV.lit).length ≤ st ∧ (cs.toList.map AV.lit).length = sz ∧ okCells (cs.toList.map AV.lit) ∧ K (updF n i f (newCells (f i) (cs.toList.map AV.lit) j))
   | y => i < n ∧ j + (cellsA y).length ≤ st ∧ (cellsA y).length = sz ∧ okCells (cellsA y) ∧ K (updF n i f (newCells (f i) (cellsA y) j))
 | none => False

def storeA (P : Program) (T : TypeId) (x y : AV) (H : Hp) (K : Hp → Prop) : Prop := match x with
 | .ref id g st i j => match H id with
   | some (.box st' n f) => g = 0 ∧ st' = st ∧ storeObj P T n st f i j y fun f' => K (H.set id (.box st n f'))
   | some (.row st' n f) => g = n ∧ st' = st ∧ storeObj P T n st f i j y fun f' => K (H.set id (.row st n f'))
   | _ => False
 | _ => False

def elB (P : Program) (T : TypeId) : Option (Nat × Nat) := match P.underlying T with
 | some (.slice e) => match P.info? e with
   | some i => match i.zero with
     | some z => if z.cells.size = i.size then some (i.size, i.bytes) else none
     | none => none
   | none => none
 | _ => none

def appF (n m : Nat) (f g : Nat → List AV) : Nat → List AV := match m with
 | 1 => fun k => if k = n then g 0 else f k
 | _ => fun k => if k < n then f k else g (k - n)

def appendA (P : Program) (T T' : TypeId) (x y : AV) (H : Hp) (K : AV → Hp → Prop) : Prop := match elB P T, x with
 | some (st, by_), .sl id st' n => match H id with
   | some (.row st3 n' f) => match y with
     | .rsl m st2 g => T = T' ∧ st' = st ∧ st3 = st ∧ n' = n ∧ st2 = st ∧ 0 < st ∧ (∀ i, i < m → okCells (g i)) ∧ (n + m) * by_ ≤ 140737488355328 ∧ n + m ≤ 140737488355328 ∧
       K (.sl id st (n + m)) (H.set id (.row st (n + m) (appF n m f g)))
     | .sl id2 st2 m => match H id2 with
       | some (.row st4 m' g) => T = T' ∧ st' = st ∧ st3 = st ∧ n' = n ∧ st2 = st ∧ 0 < st ∧ st4 = st ∧ m' = m ∧ (∀ i, i < m → okCells (g i)) ∧ (n + m) * by_ ≤ 140737488355328 ∧ n + m ≤ 140737488355328 ∧
         K (.sl id st (n + m)) (H.set id (.row st (n + m) (appF n m f g)))
       | _ => False
     | _ => False
   | _ => False
 | _, _ => False

section
variable {P : Program} {S : St} {H : Hp}
theorem allocA_sound {T : TypeId} {K : AV → Hp → Prop} {o : Oper} {a : Act} {r : Option Nat} {Kp : AV → Hp → Prop} {ds : List AD} (ho : o.op = .alloc T) (h : allocA P T H K) (hH : HRel S H) (hD : DRel S ds a.defers) :
  StepOk r P o S a (fun v ds' H' => K v H' ∧ ds' = ds) Kp := by
 unfold allocA at h
 split at h
 case h_2 => exact h.elim
 case h_1 st n z hz =>
  obtain ⟨hzl, h⟩ := h
  obtain ⟨v, h1, h2, h3, h4⟩ := azT_spec hz S.w
  have hle := S.lay_le hH (.cells v.cells T)
  have hloc : (S.lay (.cells v.cells T)).loc S.next 0 = .blk S.w.heap.size := by simp [St.lay]
  have hH' := hH.lay (.cells v.cells T) (.box st n fun _ => z.map .lit) rfl
   ⟨S.w.heap.size, v.cells, T, hloc, heap_alloc _ _, fun x => by have := hH.immlt _ x; omega, by rw [h2]; exact Nat.le_refl _, fun i hi => by simpa using hzl, fun i j hi hj => by
    rw [h4 i j hi hj]
    have : (z.map AV.lit).getD j .any = .lit (z.getD j undef) := by simp [List.getD, show j < z.length by omega]
    rw [this]; exact .lit _⟩
  have hv : VRel (S.lay (.cells v.cells T)) (.ref S.next 0 st 0 0) (.pointer (some ⟨S.w.heap.size, 0, none⟩)) := by
   have := VRel.ref (S := S.lay (.cells v.cells T)) (id := S.next) (g := 0) (st := st) (i := 0) (j := 0) hloc
   simpa using this
  refine stepOk_value (fun c e => by rw [ho] at e; cases e) ?_ hle hH' hv hD ⟨h S.next (St.next_none hH), rfl⟩
  simp [execOp, ho, Instr.alloc, h1, run_newVar]; rfl

theorem boxMutA_sound {T : TypeId} {x : Operand} {K : AV → Hp → Prop} {o : Oper} {a : Act} {r : Option Nat} {Kp : AV → Hp → Prop} {ds : List AD} {av : AV} (ho : o.op = .box T x) (h : boxMutA av H K) (hH : HRel S H) (hx : VRel S av (a.eval x))
  (hD : DRel S ds a.defers) : StepOk r P o S a (fun v ds' H' => K v H' ∧ ds' = ds) Kp := by
 generalize hcv : a.eval x = cv at hx
 have hle := S.lay_le hH (.cells cv.cells T)
 have hloc : (S.lay (.cells cv.cells T)).loc S.next 0 = .blk S.w.heap.size := by simp [St.lay]
 have hrun : (execOp a.eval o).run P S.w = .ok (.value (.pointer (some ⟨S.w.heap.size, 0, none⟩))) (S.lay (.cells cv.cells T)).w := by simp [execOp, ho, Instr.box, run_newVar, hcv]; rfl
 have hni : ¬ (S.lay (.cells cv.cells T)).imm S.w.heap.size := fun x => by have := hH.immlt _ x; omega
 have main : ∀ st n f, CellsAre (S.lay (.cells cv.cells T)) cv.cells st n f → K (.ref S.next 0 st 0 0) (H.set S.next (.box st n f)) → StepOk r P o S a (fun v ds' H' => K v H' ∧ ds' = ds) Kp := by
  intro st n f hc hk
  have hH' := hH.lay (.cells cv.cells T) (.box st n f) rfl ⟨S.w.heap.size, cv.cells, T, hloc, heap_alloc _ _, hni, hc⟩
  have hv : VRel (S.lay (.cells cv.cells T)) (.ref S.next 0 st 0 0) (.pointer (some ⟨S.w.heap.size, 0, none⟩)) := by
   have := VRel.ref (S := S.lay (.cells cv.cells T)) (id := S.next) (g := 0) (st := st) (i := 0) (j := 0) hloc
   simpa using this
  exact stepOk_value (fun c e => by rw [ho] at e; cases e) hrun hle hH' hv hD ⟨hk, rfl⟩
 unfold boxMutA at h
 split at h
 case h_1 cs =>
  cases hx with
  | @agg _ vs hn hh =>
    refine main cs.length 1 _ ⟨by simp [Value.cells]; omega, fun _ _ => rfl, fun i j hi hj => ?_⟩ (h _ (St.next_none hH))
    have : i = 0 := by omega
    subst this
    simp only [Nat.zero_mul, Nat.zero_add]
    exact (hh j hj).mono hle
 case h_2 n st f =>
  cases hx with
  | @arr _ _ _ vs hn hf hh =>
    exact main st n f ⟨by simp [Value.cells]; omega, hf, fun i j hi hj => (hh i j hi hj).mono hle⟩ (h _ (St.next_none hH))
 case h_3 =>
  obtain ⟨hc, h⟩ := h
  have h1 := (cell_one hx hc).2
  refine main 1 1 _ ⟨by simp [h1], fun _ _ => rfl, fun i j hi hj => ?_⟩ (h _ (St.next_none hH))
  have e1 : i = 0 := by omega
  have e2 : j = 0 := by omega
  subst e1 e2
  simpa [h1] using hx.mono hle

theorem okCells_getD : ∀ {l : List AV}, okCells l → ∀ k, k < l.length → cellA (l.getD k .any) = true
 | [], _, k, hk => absurd hk (by simp)
 | x :: r, h, 0, _ => h.1
 | x :: r, h, k + 1, hk => by simpa using okCells_getD h.2 k (by simpa using hk)

theorem updF_at {n i k : Nat} {f : Nat → List AV} {c : List AV} (hi : i < n) (hk : k < n) : updF n i f c k = if k = i then c else f k := by
 unfold updF
 split
 ·have e1 : k = 0 := by omega
  have e2 : i = 0 := by omega
  subst e1 e2; simp
 ·rfl

/-- The world behind a store into a block. -/
theorem setRow_chg {id b : Nat} {o : Obj} {c c' : Array Value} {e : TypeId} (hH : HRel S H) (hl : S.loc id o.gen = .blk b) (hb : S.w.heap[b]? = some (.cells c e (0, 0))) (hs : c'.size = c.size) : Chg S id o (S.w.setRow b c') where
 os := rfl
 tape := rfl
 output := rfl
 size := by simp
 other := fun k hk hne => setRow_other S.w b k c' (fun e => hne (by rw [e]; exact hl))
 own := fun k c0 e0 fz0 hk h0 => by
  rw [hl] at hk; cases hk
  rw [hb] at h0; cases h0
  exact ⟨c', setRow_heap S.w b c c' e (0, 0) hb, hs⟩

theorem St.chg_same {w : World} {id g : Nat} {l : Loc} (h : S.loc id g = l) : S.chg w id g l = { S with w := w } := by
 unfold St.chg
 congr 1
 funext i k
 split
 ·rename_i e; obtain ⟨rfl, rfl⟩ := e; exact h.symm
 ·rfl

theorem splice_getD (c : Array Value) (vs : List Value) (o k : Nat) (h : o + vs.length ≤ c.size) :
  ((c.toList.take o ++ vs ++ c.toList.drop (o + vs.length)).toArray).getD k undef = if o ≤ k ∧ k < o + vs.length then vs.getD (k - o) undef else c.getD k undef := by
 simp only [Array.getD_eq_getD_getElem?, List.getElem?_toArray, List.append_assoc, List.getD]
 by_cases c1 : k < o
 ·rw [List.getElem?_append_left (by simp; omega), List.getElem?_take_of_lt c1, if_neg (by omega)]; simp
 ·rw [List.getElem?_append_right (by simp; omega)]
  have e : (c.toList.take o).length = o := by simp; omega
  rw [e]
  by_cases c2 : k < o + vs.length
  ·rw [List.getElem?_append_left (by omega), if_pos (by omega)]
  ·rw [List.getElem?_append_right (by omega), if_neg (by omega), List.getElem?_drop]
   rw [show o + vs.length + (k - o - vs.length) = k by omega]; simp

theorem newCells_getD {old vs : List AV} {j q : Nat} (h : j + vs.length ≤ old.length) : (newCells old vs j).getD q .any = if j ≤ q ∧ q < j + vs.length then vs.getD (q - j) .any else old.getD q .any :=
 getD_splice old vs j q h
theorem newCells_length {old vs : List AV} {j : Nat} (h : j + vs.length ≤ old.length) : (newCells old vs j).length = old.length := by
 unfold newCells; simp; omega

theorem lt_of_cells {n st i j : Nat} (hi : i < n) (hj : j < st) : i * st + j < n * st := by
 have : (i + 1) * st ≤ n * st := Nat.mul_le_mul_right _ hi
 rw [Nat.add_mul, Nat.one_mul] at this; omega

theorem idx_inj {st i j i' j' : Nat} (hj : j < st) (hj' : j' < st) (h : i * st + j = i' * st + j') : i = i' ∧ j = j' := by
 have h1 : (i * st + j) / st = i := by rw [Nat.mul_comm, Nat.mul_add_div (by omega), Nat.div_eq_of_lt hj, Nat.add_zero]
 have h2 : (i' * st + j') / st = i' := by rw [Nat.mul_comm, Nat.mul_add_div (by omega), Nat.div_eq_of_lt hj', Nat.add_zero]
 have : i = i' := by rw [← h1, ← h2, h]
 subst this
 exact ⟨rfl, by omega⟩

theorem okCells_sub {l l' : List AV} (h : okCells l) (hs : l'.Sublist l) : okCells l' := by
 induction hs with
 | slnil => trivial
 | cons a _ ih => exact ih h.2
 | cons_cons a _ ih => exact ⟨h.1, ih h.2⟩
theorem storeArr_sound {T n' st' b sz : Nat} {ag : Bool} {f' : Nat → List AV} {c : Array Value} {e : TypeId} {cy : Value} (hs : szT P T = some (sz, ag)) (hsz : sz = n' * st') (hok : ∀ k, k < n' → okCells (f' k))
  (hb : S.w.heap[b]? = some (.cells c e (0, 0))) (hc1 : n' * st' ≤ c.size) (hy : VRel S (.arr n' st' f') cy) :
  ∃ c', (storeVar T ⟨b, 0 * st' + 0, none⟩ cy).run P S.w = .ok () (S.w.setRow b c') ∧ c'.size = c.size ∧ n' * st' ≤ c'.size ∧ (∀ i, i < n' → (f' i).length = st') ∧
    ∀ i j, i < n' → j < st' → VRel S ((f' i).getD j .any) (c'.getD (i * st' + j) undef) := by
 have h1 := (szT_spec hs S.w).1
 subst hsz
 cases hy with
 | @arr _ _ _ vs hn hf hh =>
   have hone : ∀ v ∈ vs.toList, v.oneCell' = true := by
    intro v hv
    obtain ⟨q, hq, rfl⟩ := List.getElem_of_mem hv
    simp only [Array.length_toList] at hq
    rcases Nat.eq_zero_or_pos st' with h0 | h0
    ·rw [h0, Nat.mul_zero] at hn; omega
    ·have hi : q / st' < n' := Nat.div_lt_of_lt_mul (by rw [Nat.mul_comm, ← hn]; exact hq)
     have hj : q % st' < st' := Nat.mod_lt _ h0
     have hx := hh (q / st') (q % st') hi hj
     have ex : q / st' * st' + q % st' = q := Nat.div_add_mod' q st'
     rw [ex] at hx
     have := (cell_one hx (okCells_getD (hok _ hi) _ (by rw [hf _ hi]; exact hj))).1
     simpa [Array.getD_eq_getD_getElem?, hq] using this
   have hst := run_storeCells_at P b 0 e vs.toList 0 c S.w hb (by simp; omega) hone
   refine ⟨(c.toList.take 0 ++ vs.toList ++ c.toList.drop (0 + vs.toList.length)).toArray, ?_, by simp; omega, by simp; omega, hf, fun i j hi hj => ?_⟩
   ·simp only [Nat.zero_mul, Nat.add_zero] at hst ⊢
    have e0 : (Value.agg vs).cells = vs := rfl
    simp only [storeVar, Sem.run_bind, h1, Result.andThen_ok, e0, Sem.run_ite, if_neg (show ¬ vs.size ≠ n' * st' by omega)]
    exact hst
   ·have hlt := lt_of_cells hi hj
    rw [splice_getD c vs.toList 0 (i * st' + j) (by simp; omega), if_pos ⟨Nat.zero_le _, by simp; omega⟩]
    have e2 : vs.toList.getD (i * st' + j - 0) undef = vs.getD (i * st' + j) undef := by simp [List.getD, Array.getD_eq_getD_getElem?]
    rw [e2]; exact hh i j hi hj
theorem storeOne_sound {T n st i j b sz : Nat} {ag : Bool} {f : Nat → List AV} {y : AV} {K : (Nat → List AV) → Prop} {c : Array Value} {e : TypeId} {cy : Value} (hs : szT P T = some (sz, ag))
  (h : i < n ∧ j + (cellsA y).length ≤ st ∧ (cellsA y).length = sz ∧ okCells (cellsA y) ∧ K (updF n i f (newCells (f i) (cellsA y) j)))
  (hb : S.w.heap[b]? = some (.cells c e (0, 0))) (hc : CellsAre S c st n f) (hy : VRel S y cy) (hpart : (∃ cs, y = .agg cs) ∨ (∃ n st f, y = .arr n st f) ∨ cellA y = true) :
  ∃ f' c', K f' ∧ (storeVar T ⟨b, i * st + j, none⟩ cy).run P S.w = .ok () (S.w.setRow b c') ∧ c'.size = c.size ∧ n * st ≤ c'.size ∧ (∀ i, i < n → (f' i).length = st) ∧
    ∀ i j, i < n → j < st → VRel S ((f' i).getD j .any) (c'.getD (i * st + j) undef) := by
 obtain ⟨hc1, hc2, hc3⟩ := hc
 have h1 := (szT_spec hs S.w).1
 obtain ⟨hi, hj, hsz, hok, hk⟩ := h
 obtain ⟨hv1, hv2⟩ := cellsA_rel hy hpart
 have hlen := hc2 i hi
 have hlt : i * st + st ≤ n * st := by
  have : (i + 1) * st ≤ n * st := Nat.mul_le_mul_right _ hi
  rw [Nat.add_mul, Nat.one_mul] at this; exact this
 have hone : ∀ v ∈ cy.cells.toList, v.oneCell' = true := by
  intro v hv
  obtain ⟨q, hq, rfl⟩ := List.getElem_of_mem hv
  simp only [Array.length_toList] at hq
  have := (cell_one (hv2 q (by omega)) (okCells_getD hok q (by omega))).1
  simpa [Array.getD_eq_getD_getElem?, hq] using this
 have hst := run_storeCells_at P b (i * st + j) e cy.cells.toList 0 c S.w hb (by simp; omega) hone
 refine ⟨_, (c.toList.take (i * st + j) ++ cy.cells.toList ++ c.toList.drop (i * st + j + cy.cells.toList.length)).toArray, hk, ?_, by simp; omega, by simp; omega, fun i' hi' => ?_, fun i' j' hi' hj' => ?_⟩
 ·simp only [Nat.add_zero] at hst
  simp only [storeVar, Sem.run_bind, h1, Result.andThen_ok, Sem.run_ite, if_neg (show ¬ cy.cells.size ≠ sz by omega)]
  exact hst
 ·rw [updF_at hi hi']
  split
  ·rw [newCells_length (by omega)]; exact hlen
  ·exact hc2 i' hi'
 ·rw [splice_getD c cy.cells.toList (i * st + j) (i' * st + j') (by simp; omega), updF_at hi hi']
  by_cases hii : i' = i
  ·subst hii
   rw [if_pos rfl, newCells_getD (by omega)]
   by_cases hin : j ≤ j' ∧ j' < j + (cellsA y).length
   ·rw [if_pos hin, if_pos (by simp; omega)]
    have := hv2 (j' - j) (by omega)
    have e2 : cy.cells.toList.getD (i' * st + j' - (i' * st + j)) undef = cy.cells.getD (j' - j) undef := by
     rw [show i' * st + j' - (i' * st + j) = j' - j by omega]; simp [List.getD, Array.getD_eq_getD_getElem?]
    rw [e2]; exact this
   ·rw [if_neg hin, if_neg (by simp; omega)]
    exact hc3 i' j' hi hj'
  ·rw [if_neg hii, if_neg ?_]
   ·exact hc3 i' j' hi' hj'
   ·rintro ⟨g1, g2⟩
    simp only [Array.length_toList] at g2
    have : i' * st + j' = i * st + (j + (i' * st + j' - (i * st + j))) := by omega
    exact hii (idx_inj hj' (by omega) this).1
theorem storeObj_sound {T n st i j b : Nat} {f : Nat → List AV} {y : AV} {K : (Nat → List AV) → Prop} {c : Array Value} {e : TypeId} {cy : Value} (h : storeObj P T n st f i j y K)
  (hb : S.w.heap[b]? = some (.cells c e (0, 0))) (hc : CellsAre S c st n f) (hy : VRel S y cy) :
  ∃ f' c', K f' ∧ (storeVar T ⟨b, i * st + j, none⟩ cy).run P S.w = .ok () (S.w.setRow b c') ∧ c'.size = c.size ∧ n * st ≤ c'.size ∧ (∀ i, i < n → (f' i).length = st) ∧
    ∀ i j, i < n → j < st → VRel S ((f' i).getD j .any) (c'.getD (i * st + j) undef) := by
 obtain ⟨hc1, hc2, hc3⟩ := hc
 unfold storeObj at h
 split at h
 case h_2 => exact h.elim
 case h_1 sz ag hs =>
  have h1 := (szT_spec hs S.w).1
  split at h
  case h_1 n' st' f' =>
   obtain ⟨rfl, rfl, rfl, rfl, rfl, hok, hk⟩ := h
   obtain ⟨c', g1, g2, g3, g4, g5⟩ := storeArr_sound hs rfl hok hb hc1 hy
   exact ⟨f', c', hk, g1, g2, g3, g4, g5⟩
  case h_2 cs =>
   split at h
   ·obtain ⟨rfl, rfl, hcl, rfl, hok, hk⟩ := h
    have hy' : VRel S (.arr n st fun k => (cs.drop (k * st)).take st) cy := by
     cases hy with
     | @agg _ vs hn hh =>
       have hlt : ∀ i, i < n → i * st + st ≤ n * st := fun i hi => by
        have : (i + 1) * st ≤ n * st := Nat.mul_le_mul_right _ hi
        rw [Nat.add_mul, Nat.one_mul] at this; exact this
       refine .arr (by omega) (fun i hi => by have := hlt i hi; rw [List.length_take, List.length_drop]; omega) fun i j hi hj => ?_
       have h2 := hlt i hi
       have h3 := hh (i * st + j) (by omega)
       have e3 : ((cs.drop (i * st)).take st).getD j .any = cs.getD (i * st + j) .any := by
        rw [List.getD_eq_getElem?_getD, List.getD_eq_getElem?_getD, List.getElem?_take_of_lt hj, List.getElem?_drop]
       rw [e3]; exact h3
    have hokk : ∀ k, k < n → okCells ((cs.drop (k * st)).take st) := fun k hk => okCells_sub hok (List.Sublist.trans (List.take_sublist _ _) (List.drop_sublist _ _))
    obtain ⟨c', g1, g2, g3, g4, g5⟩ := storeArr_sound hs rfl hokk hb hc1 hy'
    exact ⟨_, c', hk, g1, g2, g3, g4, g5⟩
   ·exact storeOne_sound hs (y := .agg cs) h hb ⟨hc1, hc2, hc3⟩ hy (.inl ⟨cs, rfl⟩)
  case h_3 cs =>
   have hy' : VRel S (.agg (cs.toList.map AV.lit)) cy := by
    rw [VRel.lit_inv hy]
    refine .agg (by simp) fun k hk => ?_
    have hk' : k < cs.size := by simpa using hk
    have e1 : (cs.toList.map AV.lit).getD k .any = .lit cs[k] := by simp [List.getD_eq_getElem?_getD, hk']
    have e2 : cs.getD k undef = cs[k] := by simp [Array.getD_eq_getD_getElem?, hk']
    rw [e1, e2]; exact .lit _
   exact storeOne_sound hs (y := .agg (cs.toList.map AV.lit)) h hb ⟨hc1, hc2, hc3⟩ hy' (.inl ⟨_, rfl⟩)
  case h_4 _ y' _ _ _ =>
   exact storeOne_sound hs h hb ⟨hc1, hc2, hc3⟩ hy (by
    obtain ⟨hi, hj, hsz, hok, hk⟩ := h
    cases y with
    | agg cs => exact .inl ⟨cs, rfl⟩
    | arr n st f => exact .inr (.inl ⟨n, st, f, rfl⟩)
    | _ => exact .inr (.inr hok.1))

end
end Go.V
end
section
set_option linter.unusedVariables false
namespace Go.V
set_option linter.unusedSectionVars false
variable [Inhabited GivT]
section
variable {P : Program} {S : St} {H : Hp}
theorem storeA_sound {T : TypeId} {x y : AV} {ox oy : Operand} {K : Hp → Prop} {o : Oper} {a : Act} {r : Option Nat} {Kp : AV → Hp → Prop} {ds : List AD} (ho : o.op = .store T ox oy) (h : storeA P T x y H K) (hH : HRel S H)
  (hx : VRel S x (a.eval ox)) (hy : VRel S y (a.eval oy)) (hD : DRel S ds a.defers) : StepOk r P o S a (fun v ds' H' => K H' ∧ v = .lit undef ∧ ds' = ds) Kp := by
 unfold storeA at h
 split at h
 case h_2 => exact h.elim
 case h_1 id g st i j =>
  generalize hcx : a.eval ox = cx at hx
  cases hx with
  | @ref _ _ _ _ _ b hl =>
    have fin : ∀ (ob : Obj) (o' : (Nat → List AV) → Obj) (n : Nat) (f : Nat → List AV) (c : Array Value) (e : TypeId), H id = some ob → ob.gen = g → (∀ f', (o' f').gen = g) →
      S.w.heap[b]? = some (.cells c e (0, 0)) → ¬ S.imm b → CellsAre S c st n f →
      (∀ f' w c', w.heap[b]? = some (.cells c' e (0, 0)) → CellsAre { S with w := w } c' st n f' → OkObj { S with w := w } id (o' f')) →
      storeObj P T n st f i j y (fun f' => K (H.set id (o' f'))) → StepOk r P o S a (fun v ds' H' => K H' ∧ v = .lit undef ∧ ds' = ds) Kp := by
     intro ob o' n f c e hob hg hg' hb hni hc hmk hst
     obtain ⟨f', c', hk, hr, hs, hsz, hf, hh⟩ := storeObj_sound hst hb hc hy
     have hl' : S.loc id ob.gen = .blk b := by rw [hg]; exact hl
     have hchg := setRow_chg (id := id) (o := ob) hH hl' hb hs
     have hloc : S.loc id g = .unk ∨ S.loc id g = .blk b := .inr hl
     have hle := hchg.le (g := g) (l := .blk b) hH hob hloc
     rw [St.chg_same hl] at hle
     have hH' := hchg.hrel (g := g) (l := .blk b) (o' := o' f') hH hob hloc
      (by rw [St.chg_same hl]; exact hmk f' _ c' (setRow_heap S.w b c c' e (0, 0) hb) ⟨hsz, hf, fun i j hi hj => (hh i j hi hj).mono hle⟩)
      (fun q hq => by rw [St.chg_same hl] at hq; rw [hg'] at hq; rw [hg]; exact .inl hq)
     rw [St.chg_same hl] at hH'
     refine stepOk_skip (S' := { S with w := S.w.setRow b c' }) (fun c e => by rw [ho] at e; cases e) ?_ hle hH' hD (.lit _) ⟨hk, rfl, rfl⟩
     simp only [execOp, ho, hcx, Instr.storeAt, Instr.sureAddr, Sem.run_bind, Sem.run_pure, Result.andThen_ok, hr]
    split at h
    case h_3 => exact h.elim
    case h_1 st' n f hob =>
     obtain ⟨rfl, rfl, h⟩ := h
     obtain ⟨b', c, e, hl', hb, hni, hc⟩ := hH.obj id _ hob
     rw [hl] at hl'; cases hl'
     exact fin _ (fun f' => .box st' n f') n f c e hob rfl (fun _ => rfl) hb hni hc (fun f' w c' hw hc' => ⟨b, c', e, hl, hw, hni, hc'⟩) h
    case h_2 st' n f hob =>
     obtain ⟨rfl, rfl, h⟩ := h
     obtain ⟨hg, hcase⟩ := hH.obj id _ hob
     rcases hcase with ⟨rfl, hnil⟩ | ⟨b', c, e, hl', hb, hni, hc⟩
     ·rw [hnil] at hl; cases hl
     ·rw [hl] at hl'; cases hl'
      exact fin _ (fun f' => .row st' g f') g f c e hob rfl (fun _ => rfl) hb hni hc (fun f' w c' hw hc' => ⟨hg, .inr ⟨b, c', e, hl, hw, hni, hc'⟩⟩) h

theorem elB_spec {T st by_ : Nat} (h : elB P T = some (st, by_)) : ∃ e i z, P.underlying T = some (.slice e) ∧ P.info? e = some i ∧ i.zero = some z ∧ z.cells.size = st ∧ i.size = st ∧ i.bytes = by_ := by
 unfold elB at h
 split at h
 case h_2 => cases h
 case h_1 e hu =>
  split at h
  case h_2 => cases h
  case h_1 i hi =>
   split at h
   case h_2 => cases h
   case h_1 z hz =>
    split at h
    case isFalse => cases h
    case isTrue hs =>
     simp only [Option.some.injEq, Prod.mk.injEq] at h
     obtain ⟨rfl, rfl⟩ := h
     exact ⟨e, i, z, hu, hi, hz, hs, rfl, rfl⟩

theorem run_append_in (w : World) (t ty e : TypeId) (i : TypeInfo) (ht : P.underlying t = some (.slice e)) (hi : P.info? e = some i)
  (g sLen sCap : Nat) (cur : Array Value) (e0 : TypeId) (hg : w.heap[g]? = some (.cells cur e0 (0, 0)))
  (a : Addr) (m c : Nat) (news : List Value) (hl : news.length = m * i.size) (hnews : ∀ j u, news[j]? = some u → w.cell? (a.add j) = some u) (h1 : ∀ u ∈ news, u.oneCell' = true)
  (hroom : sLen + m ≤ sCap) (hfit : sLen * i.size + news.length ≤ cur.size) :
  (Builtin.append_ #[t, t] ty #[.slice (some ⟨g, 0, none⟩) sLen sCap, .slice (some a) m c]).run P w =
   .ok (.slice (some ⟨g, 0, none⟩) (sLen + m) sCap) (w.setRow g (cur.toList.take (sLen * i.size) ++ news ++ cur.toList.drop (sLen * i.size + news.length)).toArray) := by
 have hf := run_firstCells_some (P := P) w i.size m a m c news hl hnews
 have hst := run_storeCells_at P g (sLen * i.size) e0 news 0 cur w hg (by simpa using hfit) h1
 simp only [Nat.add_zero] at hst
 have ha : (⟨g, 0, none⟩ : Addr).add (sLen * i.size) = ⟨g, sLen * i.size, none⟩ := by rw [addr_add, Nat.zero_add]
 simp [Builtin.append_, Go.run_underlying ht, sizeOf, typeInfo, hi, Builtin.lenOf, hroom, hf, ha, hst]

theorem appF_at {n m k : Nat} {f g : Nat → List AV} (hk : k < n + m) : appF n m f g k = if k < n then f k else g (k - n) := by
 unfold appF
 split
 ·by_cases e : k = n
  ·subst e; simp
  ·show (if k = n then _ else _) = _
   rw [if_neg e, if_pos (by omega)]
 ·rfl

/-- The elements that a slice has. -/
inductive SrcV (S : St) : Nat → Nat → (Nat → List AV) → Value → Prop
 | zero {st : Nat} {g : Nat → List AV} {a : Option Addr} {cap : Nat} : SrcV S 0 st g (.slice a 0 cap)
 | cells {m st : Nat} {g : Nat → List AV} {b off cap : Nat} {c : Array Value} {e : TypeId} {fz : Nat × Nat} (hb : S.w.heap[b]? = some (.cells c e fz)) (hsz : off + m * st ≤ c.size) (hf : ∀ i, i < m → (g i).length = st)
   (h : ∀ i j, i < m → j < st → VRel S ((g i).getD j .any) (c.getD (off + i * st + j) undef)) : SrcV S m st g (.slice (some ⟨b, off, none⟩) m cap)
theorem VRel.src {S : St} {m st : Nat} {g : Nat → List AV} {v : Value} (h : VRel S (.rsl m st g) v) : SrcV S m st g v := by
 cases h with
 | rsl0 => exact .zero
 | rsl hi hb hsz hf h _ => exact .cells hb hsz hf h
theorem VRel.src_sl {S : St} {H : Hp} {id m st : Nat} {g : Nat → List AV} {v : Value} (hH : HRel S H) (ho : H id = some (.row st m g)) (h : VRel S (.sl id st m) v) : SrcV S m st g v := by
 obtain ⟨_, hcase⟩ := hH.obj id _ ho
 cases h with
 | slnil hl => exact .zero
 | sl hl hb hc hlen =>
   rcases hcase with ⟨rfl, hnil⟩ | ⟨b', c', e', hl', hb', hni, hc'⟩
   ·rw [hl] at hnil; cases hnil
   ·rw [hl] at hl'; cases hl'
    rw [hb] at hb'; cases hb'
    exact .cells (off := 0) hb (by rw [Nat.zero_add]; exact hc'.1) hc'.2.1 (fun i j hi hj => by rw [Nat.zero_add]; exact hc'.2.2 i j hi hj)

theorem append_core {T : TypeId} {ox oy : Operand} {K : AV → Hp → Prop} {o : Oper} {a : Act} {r : Option Nat} {Kp : AV → Hp → Prop} {ds : List AD} {st2 by_ id n' m : Nat} {f g : Nat → List AV}
  (ho : o.op = .call { callee := .builtin .append, args := #[ox, oy], argTypes := #[T, T] }) (hel : elB P T = some (st2, by_)) (hob : H id = some (.row st2 n' f)) (hst0 : 0 < st2) (hok : ∀ i, i < m → okCells (g i))
  (hby : (n' + m) * by_ ≤ 140737488355328) (hlen : n' + m ≤ 140737488355328) (hk : K (.sl id st2 (n' + m)) (H.set id (.row st2 (n' + m) (appF n' m f g)))) (hH : HRel S H)
  (hx : VRel S (.sl id st2 n') (a.eval ox)) (hy : SrcV S m st2 g (a.eval oy)) (hD : DRel S ds a.defers) : StepOk r P o S a (fun v ds' H' => K v H' ∧ ds' = ds) Kp := by
 have hnd : ∀ c, o.op ≠ .defer c := fun c e => by rw [ho] at e; cases e
 have hexec : ∀ (v : Value) (w : World), (Builtin.append_ #[T, T] o.type #[a.eval ox, a.eval oy]).run P S.w = .ok v w → (execOp a.eval o).run P S.w = .ok (.value v) w := by
  intro v w e
  simp [execOp, ho, resolve, invoke, builtin, e]
 obtain ⟨e, i, z, hu, hi, hz, hzs, his, hib⟩ := elB_spec hel
 obtain ⟨hgen, hcase⟩ := hH.obj id _ hob
 generalize hcx : a.eval ox = cx at hx
 generalize hcy : a.eval oy = cy at hy
 rw [hcx, hcy] at hexec
 -- the state behind, for any place at which the new row lies
 have fin : ∀ (w : World) (b cap : Nat) (c : Array Value) (e' : TypeId), Chg S id (.row st2 n' f) w → w.heap[b]? = some (.cells c e' (0, 0)) → ¬ S.imm b →
   (S.loc id n' = .blk b ∨ S.w.heap.size ≤ b) → (m = 0 → S.loc id n' = .blk b) → cap * st2 ≤ c.size → n' + m ≤ cap → (∀ S', Le S S' → CellsAre S' c st2 (n' + m) (appF n' m f g)) →
   (Builtin.append_ #[T, T] o.type #[cx, cy]).run P S.w = .ok (.slice (some ⟨b, 0, none⟩) (n' + m) cap) w → StepOk r P o S a (fun v ds' H' => K v H' ∧ ds' = ds) Kp := by
  intro w b cap c e' hchg hb hni hwhere h0 hcap hle' hc hr
  have hloc : S.loc id (n' + m) = .unk ∨ S.loc id (n' + m) = .blk b := by
   rcases Nat.eq_zero_or_pos m with hm | hm
   ·subst hm; exact .inr (h0 rfl)
   ·exact .inl (hgen _ (by omega))
  have hle := hchg.le (g := n' + m) (l := .blk b) hH hob hloc
  have hat : (S.chg w id (n' + m) (.blk b)).loc id (n' + m) = .blk b := by simp [St.chg]
  have hH' := hchg.hrel (g := n' + m) (l := .blk b) (o' := .row st2 (n' + m) (appF n' m f g)) hH hob hloc
   ⟨fun q hq => by
    have : (S.chg w id (n' + m) (.blk b)).loc id q = S.loc id q := by simp only [St.chg]; rw [if_neg (fun e => by omega)]
    rw [this]; exact hgen q (by omega), .inr ⟨b, c, e', hat, hb, hni, hc _ hle⟩⟩
   (fun q hq => by
    have hq' : (S.chg w id (n' + m) (.blk b)).loc id (n' + m) = .blk q := hq
    rw [hat] at hq'; cases hq'
    exact hwhere)
  exact stepOk_value hnd (hexec _ w hr) hle hH' (.sl hat hb hcap hle') hD ⟨hk, rfl⟩
 cases hy with
 | @zero _ _ ay cap0 =>
   -- nothing is appended
   have hr : (Builtin.append_ #[T, T] o.type #[cx, .slice ay 0 cap0]).run P S.w = .ok cx S.w := by
    cases hx with
    | slnil hl => cases ay <;> simp [Builtin.append_, Go.run_underlying hu, sizeOf, typeInfo, hi, Builtin.lenOf, Builtin.firstCells, loadCells, loadCellsFrom]
    | sl hl hb hc hle => cases ay <;> simp [Builtin.append_, Go.run_underlying hu, sizeOf, typeInfo, hi, Builtin.lenOf, Builtin.firstCells, loadCells, loadCellsFrom, hle, storeCells]
   have hsub : HSub H (H.set id (.row st2 n' (appF n' 0 f g))) := by
    have := (HSub.refl H).set (i := id) (o := .row st2 n' f) (o' := .row st2 n' (appF n' 0 f g)) (Obj.Le.row fun i hi => by rw [appF_at (by omega), if_pos hi])
    intro j x hx'
    obtain ⟨y, h1, h2⟩ := this j x hx'
    refine ⟨y, ?_, h2⟩
    by_cases ej : j = id
    ·subst ej; rw [Hp.set_same] at h1; cases h1; exact hob
    ·rw [Hp.set_ne _ _ ej] at h1; exact h1
   exact stepOk_value hnd (hexec _ _ hr) (Le.refl S) (hH.sub hsub) hx hD ⟨hk, rfl⟩
 | @cells _ _ _ b2 off cap2 c2 e2 fz2 hb2 hsz2 hf2 hh2 =>
   obtain ⟨news, hnews⟩ : ∃ news : List Value, news = (c2.extract off (off + m * st2)).toList := ⟨_, rfl⟩
   have hnl : news.length = m * i.size := by rw [hnews, his]; simp; omega
   have hng : ∀ q, q < m * st2 → news.getD q undef = c2.getD (off + q) undef := fun q hq => by
    rw [hnews]
    have := getD_extract c2 off (m * st2) q hq
    rw [← this]; simp only [List.getD, Array.getD_eq_getD_getElem?, Array.getElem?_toList]
   have hnc : ∀ j u, news[j]? = some u → S.w.cell? ((⟨b2, off, none⟩ : Addr).add j) = some u := by
    intro j u hj
    have hjl : j < news.length := (List.getElem?_eq_some_iff.1 hj).1
    rw [hnl, his] at hjl
    rw [addr_add, cell_at hb2 (by omega), ← hng j hjl]
    simp [List.getD, hj]
   have hone : ∀ u ∈ news, u.oneCell' = true := by
    intro u hu'
    obtain ⟨q, hq, rfl⟩ := List.getElem_of_mem hu'
    have hq' : q < m * st2 := by rw [hnl, his] at hq; exact hq
    have hi' : q / st2 < m := Nat.div_lt_of_lt_mul (by rw [Nat.mul_comm]; exact hq')
    have hj' : q % st2 < st2 := Nat.mod_lt _ hst0
    have hx' := hh2 (q / st2) (q % st2) hi' hj'
    have ex : q / st2 * st2 + q % st2 = q := Nat.div_add_mod' q st2
    rw [Nat.add_assoc, ex] at hx'
    have := (cell_one hx' (okCells_getD (hok _ hi') _ (by rw [hf2 _ hi']; exact hj'))).1
    rw [← hng q hq'] at this
    simpa [List.getD, hq] using this
   have hm63 : ((n' + m : Nat) : Int) ≤ 9223372036854775807 := by omega
   -- the cells that a new array has
   have grown : ∀ (olds : List Value) (c : Array Value) (R : Array Value), olds.length = n' * st2 → (∀ q, q < n' * st2 → olds.getD q undef = c.getD q undef) → CellsAre S c st2 n' f →
     ∀ S', Le S S' → CellsAre S' (olds.toArray ++ news.toArray ++ R) st2 (n' + m) (appF n' m f g) := by
    intro olds c R ho hoc hcells S' hle'
    refine ⟨by simp [ho, hnl, his, Nat.add_mul], fun i hi => ?_, fun i j hi hj => ?_⟩
    ·rw [appF_at hi]; split
     ·exact hcells.2.1 i (by assumption)
     ·exact hf2 _ (by omega)
    ·rw [appF_at hi]
     have hlt := lt_of_cells hi hj
     have e3 : (olds.toArray ++ news.toArray ++ R).getD (i * st2 + j) undef = if i * st2 + j < n' * st2 then olds.getD (i * st2 + j) undef else news.getD (i * st2 + j - n' * st2) undef := by
      rw [Nat.add_mul] at hlt
      simp only [Array.getD_eq_getD_getElem?, List.getD]
      rw [Array.getElem?_append_left (by simp [ho, hnl, his]; omega)]
      split
      ·rw [Array.getElem?_append_left (by simp [ho]; omega)]; simp
      ·rw [Array.getElem?_append_right (by simp [ho]; omega)]; simp [ho]
     rw [e3]
     by_cases hin : i < n'
     ·have := lt_of_cells hin hj
      rw [if_pos hin, if_pos this, hoc _ this]
      exact (hcells.2.2 i j hin hj).mono hle'
     ·have hge : n' * st2 ≤ i * st2 := Nat.mul_le_mul_right _ (by omega)
      rw [if_neg hin, if_neg (by omega)]
      have e4 : i * st2 + j - n' * st2 = (i - n') * st2 + j := by rw [Nat.sub_mul]; omega
      have hlt2 := lt_of_cells (show i - n' < m by omega) hj
      rw [e4, hng _ hlt2]
      have := (hh2 (i - n') j (by omega) hj).mono hle'
      rwa [← Nat.add_assoc]
   have allocChg : ∀ ob, Chg S id (.row st2 n' f) (S.w.drew.alloc ob) := fun ob =>
    ⟨rfl, rfl, rfl, by simp, fun b hb _ => heap_alloc_lt S.w.drew ob hb, fun b c e fz hl hb => ⟨c, (heap_alloc_lt S.w.drew ob (lt_of_heap hb)).trans hb, rfl⟩⟩
   have newBlk : ∀ ob, (S.w.drew.alloc ob).heap[S.w.heap.size]? = some ob := fun ob => heap_alloc S.w.drew ob
   have notImm : ¬ S.imm S.w.heap.size := fun x => by have := hH.immlt _ x; omega
   rcases Nat.eq_zero_or_pos m with hm0 | hm0
   ·-- nothing, again
    subst hm0
    have hr : (Builtin.append_ #[T, T] o.type #[cx, .slice (some ⟨b2, off, none⟩) 0 cap2]).run P S.w = .ok cx S.w := by
     cases hx with
     | slnil hl => simp [Builtin.append_, Go.run_underlying hu, sizeOf, typeInfo, hi, Builtin.lenOf, Builtin.firstCells, loadCells, loadCellsFrom]
     | sl hl hb hc hle => simp [Builtin.append_, Go.run_underlying hu, sizeOf, typeInfo, hi, Builtin.lenOf, Builtin.firstCells, loadCells, loadCellsFrom, hle, storeCells]
    have hsub : HSub H (H.set id (.row st2 n' (appF n' 0 f g))) := by
     have := (HSub.refl H).set (i := id) (o := .row st2 n' f) (o' := .row st2 n' (appF n' 0 f g)) (Obj.Le.row fun i hi => by rw [appF_at (by omega), if_pos hi])
     intro j x hx'
     obtain ⟨y, h1, h2⟩ := this j x hx'
     refine ⟨y, ?_, h2⟩
     by_cases ej : j = id
     ·subst ej; rw [Hp.set_same] at h1; cases h1; exact hob
     ·rw [Hp.set_ne _ _ ej] at h1; exact h1
    exact stepOk_value hnd (hexec _ _ hr) (Le.refl S) (hH.sub hsub) hx hD ⟨hk, rfl⟩
   ·cases hx with
    | slnil hl =>
      rcases hcase with ⟨_, hnil⟩ | ⟨b', c, e', hl', hb, hni, hc⟩
      ·have hr := run_append_nil (P := P) S.w T o.type e i z hu hi hz ⟨b2, off, none⟩ m cap2 news hnl hnc hm0 (by omega) (by rw [hib]; simp only [Nat.zero_add] at hby; omega)
       have hge := grownCap_ge S.w m 0 e
       refine fin _ S.w.heap.size (grownCap S.w m 0 e) _ e (allocChg _) (newBlk _) notImm (.inr (Nat.le_refl _)) (fun e => by omega) ?_ (by omega) ?_ (by simpa using hr)
       ·simp only [Array.size_append, List.size_toArray, size_zeroCells, hzs, hnl, his, ← Nat.add_mul]
        rw [show m + (grownCap S.w m 0 e - m) = grownCap S.w m 0 e by omega]; exact Nat.le_refl _
       ·have := grown [] #[] (Builtin.zeroCells z.cells (grownCap S.w m 0 e - m)) (by simp) (by intro q hq; simp at hq) ⟨by simp, fun i hi => by omega, fun i j hi => by omega⟩
        simpa using this
      ·rw [hl] at hl'; cases hl'
    | @sl _ _ _ b cap c0 e0 fz0 hl hb0 hcap hle =>
      rcases hcase with ⟨rfl, hnil⟩ | ⟨b', c, e', hl', hb, hni, hc⟩
      ·rw [hl] at hnil; cases hnil
      ·rw [hl] at hl'; cases hl'
       rw [hb] at hb0; cases hb0
       by_cases hroom : n' + m ≤ cap
       ·have hfit : n' * i.size + news.length ≤ c0.size := by
         rw [hnl, his, ← Nat.add_mul]; exact Nat.le_trans (Nat.mul_le_mul_right _ hroom) hcap
        have hr := run_append_in (P := P) S.w T o.type e i hu hi b n' cap c0 e0 hb ⟨b2, off, none⟩ m cap2 news hnl hnc hone hroom hfit
        have hsz : ((c0.toList.take (n' * i.size) ++ news ++ c0.toList.drop (n' * i.size + news.length)).toArray).size = c0.size := by simp; omega
        refine fin _ b cap _ e0 (setRow_chg (o := .row st2 n' f) hH hl hb hsz) (setRow_heap S.w b c0 _ e0 (0, 0) hb) hni (.inl hl) (fun _ => hl) (by rw [hsz]; exact hcap) hroom ?_ hr
        have := grown (c0.toList.take (n' * st2)) c0 ((c0.toList.drop (n' * i.size + news.length)).toArray) (by simp; exact Nat.min_eq_left hc.1) (fun q hq => by simp [List.getD, List.getElem?_take_of_lt hq, Array.getD_eq_getD_getElem?]) hc
        simpa [his] using this
       ·have hgrow := run_append_grow (P := P) S.w T o.type e i z hu hi hz ⟨b, 0, none⟩ n' cap (c0.toList.take (n' * st2)) (by rw [his]; simp; exact Nat.min_eq_left hc.1)
         (fun j u hj => by
          rw [addr_add, Nat.zero_add]
          have hjl : j < n' * st2 := by
           have := (List.getElem?_eq_some_iff.1 hj).1
           simp at this; omega
          rw [cell_at hb (by have := hc.1; omega)]
          rw [List.getElem?_take_of_lt hjl] at hj
          simp [Array.getD_eq_getD_getElem?] at hj ⊢
          rw [hj]; rfl) ⟨b2, off, none⟩ m cap2 news hnl hnc (by omega) hm63 (growslice_fits (by omega) (by rw [hib]; exact hby))
        have hge := grownCap_ge S.w (n' + m) cap e
        refine fin _ S.w.heap.size (grownCap S.w (n' + m) cap e) _ e (allocChg _) (newBlk _) notImm (.inr (Nat.le_refl _)) (fun e => by omega) ?_ hge ?_ hgrow
        ·simp only [Array.size_append, List.size_toArray, size_zeroCells, hzs, hnl, his]
         have e5 : (c0.toList.take (n' * st2)).length = n' * st2 := by simp; exact Nat.min_eq_left hc.1
         rw [e5, ← Nat.add_mul, ← Nat.add_mul, show n' + m + (grownCap S.w (n' + m) cap e - (n' + m)) = grownCap S.w (n' + m) cap e by omega]
         exact Nat.le_refl _
        ·exact grown (c0.toList.take (n' * st2)) c0 _ (by simp; exact Nat.min_eq_left hc.1) (fun q hq => by simp [List.getD, List.getElem?_take_of_lt hq, Array.getD_eq_getD_getElem?]) hc


theorem appendA_sound {T T' : TypeId} {x y : AV} {ox oy : Operand} {K : AV → Hp → Prop} {o : Oper} {a : Act} {r : Option Nat} {Kp : AV → Hp → Prop} {ds : List AD}
  (ho : o.op = .call { callee := .builtin .append, args := #[ox, oy], argTypes := #[T, T'] }) (h : appendA P T T' x y H K) (hH : HRel S H)
  (hx : VRel S x (a.eval ox)) (hy : VRel S y (a.eval oy)) (hD : DRel S ds a.defers) : StepOk r P o S a (fun v ds' H' => K v H' ∧ ds' = ds) Kp := by
 unfold appendA at h
 split at h
 case h_2 => exact h.elim
 case h_1 st by_ id st' n hel =>
  split at h
  case h_2 => exact h.elim
  case h_1 st3 n' f hob =>
   split at h
   case h_3 => exact h.elim
   case h_1 m st2 g =>
    obtain ⟨rfl, rfl, rfl, rfl, rfl, hst0, hok, hby, hlen, hk⟩ := h
    exact append_core ho hel hob hst0 hok hby hlen hk hH hx hy.src hD
   case h_2 id2 st2 m =>
    split at h
    case h_2 => exact h.elim
    case h_1 st4 m' g hob2 =>
     obtain ⟨rfl, rfl, rfl, rfl, rfl, hst0, rfl, rfl, hok, hby, hlen, hk⟩ := h
     exact append_core ho hel hob hst0 hok hby hlen hk hH hx (hy.src_sl hH hob2) hD

end
end Go.V
end
section
set_option linter.unusedVariables false
set_option linter.unusedSimpArgs false
namespace Go.V
set_option linter.unusedSectionVars false
variable [Inhabited GivT]
section
variable {P : Program} {S : St} {H : Hp}
theorem makeMapA_sound {T : TypeId} {K : AV → Hp → Prop} {o : Oper} {a : Act} {r : Option Nat} {Kp : AV → Hp → Prop} {ds : List AD} (ho : o.op = .makeMap T none)
  (h : ∀ id, H id = none → K (.map id) (H.set id (.raw (.map #[] 0)))) (hH : HRel S H) (hD : DRel S ds a.defers) : StepOk r P o S a (fun v ds' H' => K v H' ∧ ds' = ds) Kp := by
 have hle := S.lay_le hH (.map #[] 0)
 have hloc : (S.lay (.map #[] 0)).loc S.next 0 = .blk S.w.heap.size := by simp [St.lay]
 have hH' := hH.lay (.map #[] 0) (.raw (.map #[] 0)) rfl ⟨S.w.heap.size, hloc, heap_alloc _ _, (fun c e fz x => by cases x), (fun x => by have := hH.immlt _ x; omega)⟩
 refine stepOk_value (cv := .map (some S.w.heap.size)) (fun c e => by rw [ho] at e; cases e) ?_ hle hH' (.map hloc) hD ⟨h S.next (St.next_none hH), rfl⟩
 simp [execOp, ho, Instr.makeMap, newObj]; rfl

theorem HRel.unpack {S : St} {H : Hp} {id : Nat} {F : Value → Value → Prop} (hH : HRel S H) (ho : H id = some (.memo F)) :
  ∃ es ck, (∀ x ∈ es.toList, F x.key x.val) ∧ (es.toList.Pairwise fun x y => x.key ≠ y.key) ∧ HRel S (H.set id (.raw (.map es ck))) := by
 obtain ⟨b, es, ck, hl, hb, hni, h4, h5⟩ := hH.obj id _ ho
 refine ⟨es, ck, h4, h5, ?_⟩
 refine ⟨fun i hi => ⟨?_, (hH.fresh i hi).2⟩, hH.immlt, fun i o hi => ?_, fun i j o o' x hi hj hx hy => ?_, hH.giv⟩
 ·by_cases e : i = id
  ·subst e; rw [(hH.fresh i hi).1] at ho; cases ho
  ·rw [Hp.set_ne _ _ e]; exact (hH.fresh i hi).1
 ·by_cases e : i = id
  ·subst e; rw [Hp.set_same] at hi; cases hi
   exact ⟨b, hl, hb, (fun c e fz x => by cases x), hni⟩
  ·rw [Hp.set_ne _ _ e] at hi; exact hH.obj i o hi
 ·have back : ∀ (k : Nat) (q : Obj), (H.set id (.raw (.map es ck))) k = some q → ∃ q', H k = some q' ∧ q'.gen = q.gen := fun k q hk => by
   by_cases e : k = id
   ·subst e; rw [Hp.set_same] at hk; cases hk; exact ⟨_, ho, rfl⟩
   ·rw [Hp.set_ne _ _ e] at hk; exact ⟨q, hk, rfl⟩
  obtain ⟨q, h1, h2⟩ := back i o hi
  obtain ⟨q', h1', h2'⟩ := back j o' hj
  exact hH.inj i j q q' x h1 h1' (by rw [h2]; exact hx) (by rw [h2']; exact hy)

theorem memo_le {es : Array MapEntry} {ck : Nat} {F : Value → Value → Prop} (h : ∀ x ∈ es.toList, F x.key x.val) (hp : es.toList.Pairwise fun x y => x.key ≠ y.key) : Obj.Le (.raw (.map es ck)) (.memo F) := by
 refine ⟨rfl, fun S i k => ?_⟩
 obtain ⟨b, h1, h2, h3, h4⟩ := k
 exact ⟨b, es, ck, h1, h2, h4, h, hp⟩
theorem HSub_set' {H : Hp} {id : Nat} {o o' : Obj} (ho : H id = some o') (h : Obj.Le o o') : Go.V.HSub (H.set id o) H := fun i x hi => by
 by_cases e : i = id
 ·subst e; rw [ho] at hi; cases hi; exact ⟨o, Hp.set_same _ _ _, h⟩
 ·exact ⟨x, by rw [Hp.set_ne _ _ e]; exact hi, .refl _⟩


theorem mapUp_one {T : TypeId} {x y z : AV} {ox oy oz : Operand} {K : Hp → Prop} {o : Oper} {a : Act} {r : Option Nat} {Kp : AV → Hp → Prop} {ds : List AD} {H0 Ht : Hp} {id ck : Nat} {key val : Value} {es : Array MapEntry} {f : Option (Nat × Value)}
  (ho : o.op = .mapUpdate T ox oy oz) (e0 : x = .map id) (e1 : keyV y = some key) (e2 : keyV z = some val) (hob : H0 id = some (.raw (.map es ck))) (hkey0 : KeyOkay P T es key f) (hk : K Ht)
  (hsub : HSub (H0.set id (.raw (.map (updM es key val ck f) (updC ck f)))) Ht) (hH : HRel S H0)
  (hx : VRel S x (a.eval ox)) (hy : VRel S y (a.eval oy)) (hz : VRel S z (a.eval oz)) (hD : DRel S ds a.defers) : StepOk r P o S a (fun v ds' H' => K H' ∧ v = .lit undef ∧ ds' = ds) Kp := by
   obtain ⟨⟨kt, et, hu, hf⟩, hst, hkey⟩ := hkey0
   subst e0
   have ey := keyV_rel e1 hy
   have ez := keyV_rel e2 hz
   obtain ⟨b, hl, hb, -, hni⟩ := hH.obj id _ hob
   generalize hcx : a.eval ox = cx at hx
   cases hx with
   | @map _ b' hl' =>
     rw [hl] at hl'; cases hl'
     generalize hnew : Go.Obj.map (updM es key val ck f) (updC ck f) = ob
     have hchg : Chg S id (.raw (.map es ck)) { S.w with heap := S.w.heap.setIfInBounds b ob } := by
      refine ⟨rfl, rfl, rfl, by simp, fun k hk hne => ?_, fun k c0 e0 fz0 hk h0 => ?_⟩
      ·have : b ≠ k := fun e => hne (by rw [← e]; exact hl)
       simp [Array.getElem?_setIfInBounds_ne this]
      ·have hk : S.loc id 0 = .blk k := hk
       rw [hl] at hk; cases hk
       rw [hb] at h0; cases h0
     have hloc : S.loc id 0 = .unk ∨ S.loc id 0 = .blk b := .inr hl
     have hle := hchg.le (g := 0) (l := .blk b) hH hob hloc
     rw [St.chg_same hl] at hle
     have hbl := lt_of_heap hb
     have hH' := hchg.hrel (g := 0) (l := .blk b) (o' := .raw ob) hH hob hloc
      (by rw [St.chg_same hl]
          exact ⟨b, hl, by simp [hbl], fun c e fz x => (by rw [← hnew] at x; cases x), hni⟩)
      (fun q hq => by rw [St.chg_same hl] at hq; exact .inl hq)
     rw [St.chg_same hl] at hH'
     rw [hnew] at hsub
     refine stepOk_skip (S' := { S with w := { S.w with heap := S.w.heap.setIfInBounds b ob } }) (fun c e => by rw [ho] at e; cases e) ?_ hle (hH'.sub hsub) hD (.lit _) ⟨hk, rfl, rfl⟩
     obtain ⟨h1, h2⟩ := hf S.w
     have hrun : (Instr.mapUpdate T (.map (some b)) key val).run P S.w = .ok () { S.w with heap := S.w.heap.setIfInBounds b ob } := by
      subst hnew
      cases f with
      | none => simp [Instr.mapUpdate, run_underlying hu, MapKept.run_getObj_map hb, h1, h2, MapKept.run_setObj_map _ hb, updM, updC]
      | some q =>
        obtain ⟨i, v⟩ := q
        have hk2 := hkey i v rfl
        simp only [Instr.mapUpdate, Sem.run_bind, run_underlying hu, Result.andThen_ok, MapKept.run_getObj_map hb, h1, h2, hk2, Option.getD_some, hst, MapKept.run_setObj_map _ hb, updM, updC]
     simp only [execOp, ho, hcx, ey, ez, Sem.run_bind, hrun, Result.andThen_ok, Sem.run_pure]

theorem mapUpA_sound {T : TypeId} {x y z : AV} {ox oy oz : Operand} {K : Hp → Prop} {o : Oper} {a : Act} {r : Option Nat} {Kp : AV → Hp → Prop} {ds : List AD} (ho : o.op = .mapUpdate T ox oy oz) (h : mapUpA P T x y z H K) (hH : HRel S H)
  (hx : VRel S x (a.eval ox)) (hy : VRel S y (a.eval oy)) (hz : VRel S z (a.eval oz)) (hD : DRel S ds a.defers) : StepOk r P o S a (fun v ds' H' => K H' ∧ v = .lit undef ∧ ds' = ds) Kp := by
 unfold mapUpA at h
 split at h
 case h_2 => exact h.elim
 case h_1 id key val e1 e2 =>
  split at h
  case h_3 => exact h.elim
  case h_1 es ck hob =>
   obtain ⟨f, hkey, hk⟩ := h
   exact mapUp_one ho rfl e1 e2 hob hkey hk (HSub.refl _) hH hx hy hz hD
  case h_2 F hob =>
   obtain ⟨kt, et, hu, hK, hkl, hFk, hF, hk⟩ := h
   obtain ⟨es, ck, h4, h5, hH0⟩ := hH.unpack hob
   obtain ⟨f, hfo, hst, hcase⟩ := found_of hu hK hkl (fun e he => hFk _ _ (h4 e he)) h5
   have hkey : KeyOkay P T es key f := ⟨hfo false, hst, fun i v e => by
    subst e
    rcases hcase with ⟨h, _⟩ | ⟨j, e', h, hj, hk2⟩
    ·cases h
    ·cases h; rw [hj]; simp [hk2]⟩
   refine mapUp_one ho rfl e1 e2 (Hp.set_same _ _ _) hkey hk ?_ hH0 hx hy hz hD
   rw [Hp.set_set]
   refine HSub_set' hob (memo_le (fun q hq => ?_) ?_)
   ·rcases hcase with ⟨rfl, _⟩ | ⟨j, e', rfl, hj, hk2⟩
    ·simp only [updM, Array.toList_push, List.mem_append, List.mem_singleton] at hq
     rcases hq with hq | rfl
     ·exact h4 q hq
     ·exact hF
    ·simp only [updM] at hq
     obtain ⟨i, hi⟩ := List.getElem?_of_mem hq
     rw [Array.getElem?_toList, Array.getElem?_modify] at hi
     by_cases hij : j = i
     ·rw [if_pos hij] at hi
      subst hij
      rw [hj] at hi
      simp only [Option.map_some, Option.some.injEq] at hi
      subst hi
      exact hF
     ·rw [if_neg hij] at hi
      exact h4 q (List.mem_of_getElem? (by simpa using hi))
   ·rcases hcase with ⟨rfl, hno⟩ | ⟨j, e', rfl, hj, hk2⟩
    ·simp only [updM, Array.toList_push]
     refine List.pairwise_append.2 ⟨h5, List.pairwise_singleton _ _, fun x hx y hy => ?_⟩
     rw [List.mem_singleton] at hy
     subst hy
     exact hno x hx
    ·simp only [updM]
     have hkeys : ∀ i : Nat, ((es.modify j fun e => { e with key := key, val := val }).toList[i]?).map (·.key) = (es.toList[i]?).map (·.key) := fun i => by
      rw [Array.getElem?_toList, Array.getElem?_modify, Array.getElem?_toList]
      by_cases hij : j = i
      ·rw [if_pos hij]; subst hij; rw [hj]; simp [hk2]
      ·rw [if_neg hij]
     have hm : (es.modify j fun e => { e with key := key, val := val }).toList.map (·.key) = es.toList.map (·.key) := by
      apply List.ext_getElem?
      intro i
      rw [List.getElem?_map, List.getElem?_map]
      exact hkeys i
     have h6 : (es.toList.map (·.key)).Pairwise (· ≠ ·) := List.pairwise_map.2 h5
     rw [← hm] at h6
     exact List.pairwise_map.1 h6

/-- What lies there behind a copy. -/
def cpF (o c : Nat) (f : Nat → List AV) (o' : Nat) (g : Nat → List AV) : Nat → List AV := fun i => if o ≤ i ∧ i < o + c then g (o' + (i - o)) else f i

def copyA (P : Program) (T : TypeId) (x y : AV) (H : Hp) (K : AV → Hp → Prop) : Prop := match elT P T, x, y with
 | some (1, false), .vw id st o n, .vw id' st' o' n' => match H id, H id' with
   | some (.box 1 m f), some (.box 1 m' g) => st = 1 ∧ st' = 1 ∧ id ≠ id' ∧ o + n ≤ m ∧ o' + n' ≤ m' ∧ (∀ i, i < m' → okCells (g i)) ∧ K (.lit (.int .i64 (min n' n : Nat))) (H.set id (.box 1 m (cpF o (min n' n) f o' g)))
   | _, _ => False
 | some (1, false), .sl id st len, .rsl n' st' g => match H id with
   | some (.row st1 m f) => st = 1 ∧ st1 = 1 ∧ st' = 1 ∧ m = len ∧ (∀ i, i < n' → okCells (g i)) ∧ K (.lit (.int .i64 (min n' len : Nat))) (H.set id (.row 1 m (cpF 0 (min n' len) f 0 g)))
   | _ => False
 | some (1, false), .sl id st len, .sl id2 st2 len2 => match H id, H id2 with
   | some (.row st1 m f), some (.row st3 m' g) => st = 1 ∧ st1 = 1 ∧ st2 = 1 ∧ st3 = 1 ∧ m = len ∧ m' = len2 ∧ (∀ i, i < len2 → okCells (g i)) ∧ K (.lit (.int .i64 (min len2 len : Nat))) (H.set id (.row 1 m (cpF 0 (min len2 len) f 0 g)))
   | _, _ => False
 | some (sz, _), .sl id st len, .vw id' st' o' n' => match H id, H id' with
   | some (.row st1 m f), some (.box st2 m' g) => (st = sz ∧ st1 = sz ∧ st' = sz ∧ st2 = sz ∧ 0 < sz) ∧ m = len ∧ o' + n' ≤ m' ∧ (∀ i, i < m' → okCells (g i)) ∧ K (.lit (.int .i64 (min n' len : Nat))) (H.set id (.row sz m (cpF 0 (min n' len) f 0 fun i => g (o' + i))))
   | _, _ => False
 | some (sz, _), .sl id st len, .rsl n' st' g => match H id with
   | some (.row st1 m f) => (st = sz ∧ st1 = sz ∧ st' = sz ∧ 0 < sz) ∧ m = len ∧ (∀ i, i < n' → okCells (g i)) ∧ K (.lit (.int .i64 (min n' len : Nat))) (H.set id (.row sz m (cpF 0 (min n' len) f 0 g)))
   | _ => False
 | some (1, false), .vw id st o n, .rsl n' st' g => match H id with
   | some (.box 1 m f) => st = 1 ∧ st' = 1 ∧ o + n ≤ m ∧ (∀ i, i < n' → okCells (g i)) ∧ K (.lit (.int .i64 (min n' n : Nat))) (H.set id (.box 1 m (cpF o (min n' n) f 0 g)))
   | _ => False
 | _, _, _ => False

theorem copyRow_sound {T T' : TypeId} {ox oy : Operand} {K : AV → Hp → Prop} {o : Oper} {a : Act} {r : Option Nat} {Kp : AV → Hp → Prop} {ds : List AD} {id m n' : Nat} {f g : Nat → List AV}
  (ho : o.op = .call ⟨.builtin .copy, #[ox, oy], #[T, T']⟩) (he : elT P T = some (1, false)) (hob : H id = some (.row 1 m f)) (hok : ∀ i, i < n' → okCells (g i))
  (hk : K (.lit (.int .i64 (min n' m : Nat))) (H.set id (.row 1 m (cpF 0 (min n' m) f 0 g)))) (hH : HRel S H)
  (hx : VRel S (.sl id 1 m) (a.eval ox)) (hy : SrcV S n' 1 g (a.eval oy)) (hD : DRel S ds a.defers) : StepOk r P o S a (fun v ds' H' => K v H' ∧ ds' = ds) Kp := by
 obtain ⟨e, hu, hs⟩ := elT_spec he
 have hsz : (P.info? e).map (·.size) = some 1 := by
  unfold szT at hs
  cases hi : P.info? e with
  | none => simp [hi] at hs
  | some i => cases hu2 : P.underlying e with
    | none => simp [hi, hu2] at hs
    | some d => cases d <;> simp [hi, hu2] at hs <;> simp [hs]
 obtain ⟨hg, hcase⟩ := hH.obj id _ hob
 have hrun0 : ∀ (q : Value) (u v : Value) w', (Builtin.copy_ #[T, T'] o.type #[u, v]).run P S.w = .ok q w' → a.eval ox = u → a.eval oy = v → (execOp a.eval o).run P S.w = .ok (.value q) w' := by
  intro q u v w' h1 h2 h3
  subst h2 h3
  have e : (Builtin.copy_ #[T, T'] o.type #[a.eval ox, a.eval oy]).run P S.w = .ok q w' := h1
  simp [execOp, ho, resolve, invoke, builtin, e]
 by_cases h0 : min n' m = 0
 ·have hcp : cpF 0 (min n' m) f 0 g = f := by
   funext i; simp only [cpF, h0]; rw [if_neg (by omega)]
  rw [hcp] at hk
  have hset : H.set id (.row 1 m f) = H := by
   funext j; simp only [Hp.set]; split
   ·rename_i e; subst e; exact hob.symm
   ·rfl
  rw [hset] at hk
  generalize hcx : a.eval ox = cx at hx
  generalize hcy : a.eval oy = cy at hy
  have fin : ∀ (d s : Option Addr) (dc sc : Nat), cx = .slice d m dc → cy = .slice s n' sc → StepOk r P o S a (fun v ds' H' => K v H' ∧ ds' = ds) Kp := by
   intro d s dc sc h1 h2
   subst h1 h2
   have := hrun0 _ _ _ _ (run_copy_none S.w T T' o.type e d s m dc n' sc hu hsz h0) hcx hcy
   rw [h0] at hk
   exact stepOk_value (fun c e => by rw [ho] at e; cases e) this (Le.refl S) hH (.lit _) hD ⟨hk, rfl⟩
  cases hx <;> cases hy <;> exact fin _ _ _ _ rfl rfl
 ·generalize hcx : a.eval ox = cx at hx
  generalize hcy : a.eval oy = cy at hy
  cases hx with
  | slnil _ => simp at h0
  | @sl _ _ _ b cap c e1' fz' hl hb0 hc0 hlen =>
    cases hy with
    | zero => simp at h0
    | @cells _ _ _ b' off' cap' c' e1'' fz'' hb' hsz' hf' hh' =>
      rcases hcase with ⟨hm0, _⟩ | ⟨b2, c2', e1, hl2, hb, hni, hc⟩
      ·omega
      rw [hl] at hl2; cases hl2
      generalize hq : min n' m = q at *
      have hq1 : q ≤ m := by omega
      have hq2 : q ≤ n' := by omega
      have hcs := hc.1
      let cs : List Value := (c'.toList.drop off').take q
      have hcl : cs.length = q := by simp [cs]; omega
      have hget : ∀ j, j < q → cs[j]? = some (c'.getD (off' + j) undef) := fun j hj => by
       simp only [cs]
       rw [List.getElem?_take_of_lt hj, List.getElem?_drop]
       simp [Array.getD_eq_getD_getElem?, show off' + j < c'.size by omega]
      have hval0 : ∀ j, j < q → VRel S ((g j).getD 0 .any) (c'.getD (off' + j) undef) := fun j hj => by
       have := hh' j 0 (by omega) (by omega)
       rwa [Nat.mul_one, Nat.add_zero] at this
      have hone : ∀ j, j < q → (c'.getD (off' + j) undef).oneCell' = true := fun j hj => by
       exact (cell_one (hval0 j hj) (okCells_getD (hok _ (by omega)) 0 (by rw [hf' _ (by omega)]; omega))).1
      have hr : (Builtin.copy_ #[T, T'] o.type #[.slice (some ⟨b, 0, none⟩) m cap, .slice (some ⟨b', off', none⟩) n' cap']).run P S.w =
        .ok (goInt cs.length) (S.w.setRow b (c2'.toList.take 0 ++ cs ++ c2'.toList.drop (0 + cs.length)).toArray) :=
       run_copy_row (P := P) S.w T T' o.type e b 0 m cap ⟨b', off', none⟩ n' cap' c2' e1 cs hu hsz hb (by rw [hcl, ← hq])
        (fun j v hj => by
         have hjq : j < q := by
          have := (List.getElem?_eq_some_iff.1 hj).1
          omega
         rw [hget j hjq] at hj
         cases hj
         rw [addr_add]
         exact cell_at hb' (by omega)) (by rw [hcl]; omega)
        (fun v hv => by
         obtain ⟨j, hj, rfl⟩ := List.getElem_of_mem hv
         have hjq : j < q := by omega
         have := hget j hjq
         rw [List.getElem?_eq_getElem hj] at this
         rw [Option.some.inj this]
         exact hone j hjq)
      generalize hc2 : (c2'.toList.take 0 ++ cs ++ c2'.toList.drop (0 + cs.length)).toArray = c2 at hr
      have hs2 : c2.size = c2'.size := by subst hc2; simp; omega
      have hchg := setRow_chg (id := id) (o := .row 1 m f) hH hl hb hs2
      have hloc : S.loc id m = .unk ∨ S.loc id m = .blk b := .inr hl
      have hle := hchg.le (g := m) (l := .blk b) hH hob hloc
      rw [St.chg_same hl] at hle
      have hval : ∀ k, c2.getD k undef = if 0 ≤ k ∧ k < 0 + cs.length then cs.getD (k - 0) undef else c2'.getD k undef := fun k => by
       subst hc2
       exact splice_getD c2' cs 0 k (by omega)
      have hcells : CellsAre { S with w := S.w.setRow b c2 } c2 1 m (cpF 0 q f 0 g) := by
       refine ⟨by omega, fun i hi => ?_, fun i j hi hj => ?_⟩
       ·simp only [cpF]; split
        ·exact hf' _ (by omega)
        ·exact hc.2.1 _ hi
       ·have : j = 0 := by omega
        subst this
        rw [Nat.mul_one, Nat.add_zero, hval]
        simp only [cpF, hcl]
        split
        ·rename_i hin
         have e3 : cs.getD (i - 0) undef = c'.getD (off' + (i - 0)) undef := by
          rw [List.getD_eq_getElem?_getD, hget _ (by omega)]; rfl
         rw [e3, Nat.zero_add]
         exact (hval0 (i - 0) (by omega)).mono hle
        ·have := (hc.2.2 i 0 hi (by omega)).mono hle
         rw [Nat.mul_one, Nat.add_zero] at this
         exact this
      have hH' := hchg.hrel (g := m) (l := .blk b) (o' := .row 1 m (cpF 0 q f 0 g)) hH hob hloc
       (by rw [St.chg_same hl]; exact ⟨hg, .inr ⟨b, c2, e1, hl, setRow_heap S.w b c2' c2 e1 (0, 0) hb, hni, hcells⟩⟩)
       (fun q hq => by rw [St.chg_same hl] at hq; exact .inl hq)
      rw [St.chg_same hl] at hH'
      rw [hcl] at hr
      exact stepOk_value (S' := { S with w := S.w.setRow b c2 }) (fun c e => by rw [ho] at e; cases e) (hrun0 _ _ _ _ hr hcx hcy) hle hH' (.lit _) hD ⟨hk, rfl⟩

theorem run_copy_rowN (w : World) (dT sT ty elem : TypeId) (g o dLen dCap : Nat) (a : Addr) (sLen sCap sz : Nat) (cur : Array Value) (t : TypeId) (cs : List Value)
  (hu : P.underlying dT = some (.slice elem)) (hs : (P.info? elem).map (·.size) = some sz)
  (hg : w.heap[g]? = some (.cells cur t (0, 0))) (hn : cs.length = Nat.min sLen dLen * sz)
  (hsrc : ∀ j v, cs[j]? = some v → w.cell? (a.add j) = some v) (hfit : o + cs.length ≤ cur.size) (h1 : ∀ v ∈ cs, v.oneCell' = true) :
  (Builtin.copy_ #[dT, sT] ty #[.slice (some ⟨g, o, none⟩) dLen dCap, .slice (some a) sLen sCap]).run P w =
   .ok (goInt (Nat.min sLen dLen)) (w.setRow g (cur.toList.take o ++ cs ++ cur.toList.drop (o + cs.length)).toArray) := by
 have hl := run_loadCells_list (P := P) w a cs hsrc
 have hst := run_storeCells_at P g o t cs 0 cur w hg (by simpa using hfit) h1
 cases hq : P.info? elem with
 | none => simp [hq] at hs
 | some i =>
   have hi : i.size = sz := by simpa [hq] using hs
   simp [Builtin.copy_, run_underlying hu, Builtin.lenOf, Builtin.firstCells, sizeOf, typeInfo, hq, hi, ← hn, hl, hst]
theorem run_copy_noneN (w : World) (dT sT ty elem : TypeId) (d a : Option Addr) (dLen dCap sLen sCap sz : Nat) (hu : P.underlying dT = some (.slice elem)) (hs : (P.info? elem).map (·.size) = some sz) (hn : Nat.min sLen dLen = 0) :
  (Builtin.copy_ #[dT, sT] ty #[.slice d dLen dCap, .slice a sLen sCap]).run P w = .ok (goInt 0) w := by
 cases hq : P.info? elem with
 | none => simp [hq] at hs
 | some i =>
   have hl : ∀ (x : Addr), (loadCells x 0).run P w = .ok #[] w := fun x => by simpa using run_loadCells_list (P := P) w x [] (by simp)
   cases d <;> cases a <;> simp [Builtin.copy_, run_underlying hu, Builtin.lenOf, Builtin.firstCells, sizeOf, typeInfo, hq, hn, storeCells, hl]
theorem copyRowN_sound {T T' : TypeId} {ox oy : Operand} {K : AV → Hp → Prop} {o : Oper} {a : Act} {r : Option Nat} {Kp : AV → Hp → Prop} {ds : List AD} {id m n' sz : Nat} {ag : Bool} {f g : Nat → List AV}
  (ho : o.op = .call ⟨.builtin .copy, #[ox, oy], #[T, T']⟩) (he : elT P T = some (sz, ag)) (h0z : 0 < sz) (hob : H id = some (.row sz m f)) (hok : ∀ i, i < n' → okCells (g i))
  (hk : K (.lit (.int .i64 (min n' m : Nat))) (H.set id (.row sz m (cpF 0 (min n' m) f 0 g)))) (hH : HRel S H)
  (hx : VRel S (.sl id sz m) (a.eval ox)) (hy : SrcV S n' sz g (a.eval oy)) (hD : DRel S ds a.defers) : StepOk r P o S a (fun v ds' H' => K v H' ∧ ds' = ds) Kp := by
 obtain ⟨e, hu, hs⟩ := elT_spec he
 have hsz : (P.info? e).map (·.size) = some sz := by
  unfold szT at hs
  cases hi : P.info? e with
  | none => simp [hi] at hs
  | some i => cases hu2 : P.underlying e with
    | none => simp [hi, hu2] at hs
    | some d => cases d <;> simp [hi, hu2] at hs <;> simp [hs]
 obtain ⟨hg, hcase⟩ := hH.obj id _ hob
 have hrun0 : ∀ (q : Value) (u v : Value) w', (Builtin.copy_ #[T, T'] o.type #[u, v]).run P S.w = .ok q w' → a.eval ox = u → a.eval oy = v → (execOp a.eval o).run P S.w = .ok (.value q) w' := by
  intro q u v w' h1 h2 h3
  subst h2 h3
  have e : (Builtin.copy_ #[T, T'] o.type #[a.eval ox, a.eval oy]).run P S.w = .ok q w' := h1
  simp [execOp, ho, resolve, invoke, builtin, e]
 by_cases h0 : min n' m = 0
 ·have hcp : cpF 0 (min n' m) f 0 g = f := by
   funext i; simp only [cpF, h0]; rw [if_neg (by omega)]
  rw [hcp] at hk
  have hset : H.set id (.row sz m f) = H := by
   funext j; simp only [Hp.set]; split
   ·rename_i e; subst e; exact hob.symm
   ·rfl
  rw [hset] at hk
  generalize hcx : a.eval ox = cx at hx
  generalize hcy : a.eval oy = cy at hy
  have fin : ∀ (d s : Option Addr) (dc sc : Nat), cx = .slice d m dc → cy = .slice s n' sc → StepOk r P o S a (fun v ds' H' => K v H' ∧ ds' = ds) Kp := by
   intro d s dc sc h1 h2
   subst h1 h2
   have := hrun0 _ _ _ _ (run_copy_noneN S.w T T' o.type e d s m dc n' sc sz hu hsz h0) hcx hcy
   rw [h0] at hk
   exact stepOk_value (fun c e => by rw [ho] at e; cases e) this (Le.refl S) hH (.lit _) hD ⟨hk, rfl⟩
  cases hx <;> cases hy <;> exact fin _ _ _ _ rfl rfl
 ·generalize hcx : a.eval ox = cx at hx
  generalize hcy : a.eval oy = cy at hy
  cases hx with
  | slnil _ => simp at h0
  | @sl _ _ _ b cap c e1' fz' hl hb0 hc0 hlen =>
    cases hy with
    | zero => simp at h0
    | @cells _ _ _ b' off' cap' c' e1'' fz'' hb' hsz' hf' hh' =>
      rcases hcase with ⟨hm0, _⟩ | ⟨b2, c2', e1, hl2, hb, hni, hc⟩
      ·omega
      rw [hl] at hl2; cases hl2
      generalize hq : min n' m = q at *
      have hq1 : q ≤ m := by omega
      have hq2 : q ≤ n' := by omega
      have hqz1 : q * sz ≤ m * sz := Nat.mul_le_mul_right _ hq1
      have hqz2 : q * sz ≤ n' * sz := Nat.mul_le_mul_right _ hq2
      have hcs := hc.1
      let cs : List Value := (c'.toList.drop off').take (q * sz)
      have hcl : cs.length = q * sz := by simp [cs]; omega
      have hget : ∀ j, j < q * sz → cs[j]? = some (c'.getD (off' + j) undef) := fun j hj => by
       simp only [cs]
       rw [List.getElem?_take_of_lt hj, List.getElem?_drop]
       simp [Array.getD_eq_getD_getElem?, show off' + j < c'.size by omega]
      have hdm : ∀ j, j < q * sz → j / sz < q ∧ j % sz < sz ∧ j / sz * sz + j % sz = j := fun j hj =>
       ⟨Nat.div_lt_of_lt_mul (by rw [Nat.mul_comm]; exact hj), Nat.mod_lt _ h0z, by rw [Nat.mul_comm]; exact Nat.div_add_mod j sz⟩
      have hval0 : ∀ i j, i < q → j < sz → VRel S ((g i).getD j .any) (c'.getD (off' + (i * sz + j)) undef) := fun i j hi hj => by
       have := hh' i j (by omega) hj
       rwa [Nat.add_assoc] at this
      have hone : ∀ j, j < q * sz → (c'.getD (off' + j) undef).oneCell' = true := fun j hj => by
       obtain ⟨d1, d2, d3⟩ := hdm j hj
       have := hval0 (j / sz) (j % sz) d1 d2
       rw [d3] at this
       exact (cell_one this (okCells_getD (hok _ (by omega)) _ (by rw [hf' _ (by omega)]; exact d2))).1
      have hr : (Builtin.copy_ #[T, T'] o.type #[.slice (some ⟨b, 0, none⟩) m cap, .slice (some ⟨b', off', none⟩) n' cap']).run P S.w =
        .ok (goInt (Nat.min n' m)) (S.w.setRow b (c2'.toList.take 0 ++ cs ++ c2'.toList.drop (0 + cs.length)).toArray) :=
       run_copy_rowN (P := P) S.w T T' o.type e b 0 m cap ⟨b', off', none⟩ n' cap' sz c2' e1 cs hu hsz hb (by rw [hcl]; show q * sz = min n' m * sz; rw [hq])
        (fun j v hj => by
         have hjq : j < q * sz := by
          have := (List.getElem?_eq_some_iff.1 hj).1
          omega
         rw [hget j hjq] at hj
         cases hj
         rw [addr_add]
         exact cell_at hb' (by omega)) (by rw [hcl]; omega)
        (fun v hv => by
         obtain ⟨j, hj, rfl⟩ := List.getElem_of_mem hv
         have hjq : j < q * sz := by omega
         have := hget j hjq
         rw [List.getElem?_eq_getElem hj] at this
         rw [Option.some.inj this]
         exact hone j hjq)
      generalize hc2 : (c2'.toList.take 0 ++ cs ++ c2'.toList.drop (0 + cs.length)).toArray = c2 at hr
      have hs2 : c2.size = c2'.size := by subst hc2; simp; omega
      have hchg := setRow_chg (id := id) (o := .row sz m f) hH hl hb hs2
      have hloc : S.loc id m = .unk ∨ S.loc id m = .blk b := .inr hl
      have hle := hchg.le (g := m) (l := .blk b) hH hob hloc
      rw [St.chg_same hl] at hle
      have hval : ∀ k, c2.getD k undef = if 0 ≤ k ∧ k < 0 + cs.length then cs.getD (k - 0) undef else c2'.getD k undef := fun k => by
       subst hc2
       exact splice_getD c2' cs 0 k (by omega)
      have hcells : CellsAre { S with w := S.w.setRow b c2 } c2 sz m (cpF 0 q f 0 g) := by
       refine ⟨by omega, fun i hi => ?_, fun i j hi hj => ?_⟩
       ·simp only [cpF]; split
        ·exact hf' _ (by omega)
        ·exact hc.2.1 _ hi
       ·rw [hval]
        simp only [cpF, hcl]
        by_cases hin : i < q
        ·have hlt : (i + 1) * sz ≤ q * sz := Nat.mul_le_mul_right _ (by omega)
         rw [Nat.succ_mul] at hlt
         rw [if_pos ⟨by omega, by omega⟩, if_pos ⟨by omega, by omega⟩]
         have e3 : cs.getD (i * sz + j - 0) undef = c'.getD (off' + (i * sz + j)) undef := by
          rw [List.getD_eq_getElem?_getD, Nat.sub_zero, hget _ (by omega)]; rfl
         rw [e3, Nat.zero_add, Nat.sub_zero]
         exact (hval0 i j hin hj).mono hle
        ·have hlt : q * sz ≤ i * sz := Nat.mul_le_mul_right _ (by omega)
         rw [if_neg (by omega), if_neg (by omega)]
         exact (hc.2.2 i j hi hj).mono hle
      have hH' := hchg.hrel (g := m) (l := .blk b) (o' := .row sz m (cpF 0 q f 0 g)) hH hob hloc
       (by rw [St.chg_same hl]; exact ⟨hg, .inr ⟨b, c2, e1, hl, setRow_heap S.w b c2' c2 e1 (0, 0) hb, hni, hcells⟩⟩)
       (fun q hq => by rw [St.chg_same hl] at hq; exact .inl hq)
      rw [St.chg_same hl] at hH'
      have hr2 : goInt (Nat.min n' m) = goInt q := by rw [show Nat.min n' m = q from hq]
      rw [hr2] at hr
      exact stepOk_value (S' := { S with w := S.w.setRow b c2 }) (fun c e => by rw [ho] at e; cases e) (hrun0 _ _ _ _ hr hcx hcy) hle hH' (.lit _) hD ⟨hk, rfl⟩
theorem VRel.src_vw {S : St} {H : Hp} {id m st off n : Nat} {g : Nat → List AV} {v : Value} (hH : HRel S H) (ho : H id = some (.box st m g)) (hle : off + n ≤ m) (h : VRel S (.vw id st off n) v) : SrcV S n st (fun i => g (off + i)) v := by
 obtain ⟨b, c, e, hl, hb, _, hc⟩ := hH.obj id _ ho
 cases h with
 | vw0 => exact .zero
 | vw hl' =>
   rw [hl] at hl'; cases hl'
   have h1 : (off + n) * st ≤ m * st := Nat.mul_le_mul_right _ hle
   rw [Nat.add_mul] at h1
   refine .cells hb (by have := hc.1; omega) (fun i hi => hc.2.1 _ (by omega)) fun i j hi hj => ?_
   have := hc.2.2 (off + i) j (by omega) hj
   rwa [Nat.add_mul] at this

theorem copyA_sound {T T' : TypeId} {x y : AV} {ox oy : Operand} {K : AV → Hp → Prop} {o : Oper} {a : Act} {r : Option Nat} {Kp : AV → Hp → Prop} {ds : List AD}
  (ho : o.op = .call ⟨.builtin .copy, #[ox, oy], #[T, T']⟩) (h : copyA P T x y H K) (hH : HRel S H)
  (hx : VRel S x (a.eval ox)) (hy : VRel S y (a.eval oy)) (hD : DRel S ds a.defers) : StepOk r P o S a (fun v ds' H' => K v H' ∧ ds' = ds) Kp := by
 unfold copyA at h
 split at h
 case h_7 => exact h.elim
 case h_6 id st off n n' st' g he =>
  split at h
  case h_2 => exact h.elim
  case h_1 m f hob =>
   obtain ⟨rfl, rfl, hle1, hok, hk⟩ := h
   obtain ⟨e, hu, hs⟩ := elT_spec he
   have hsz : (P.info? e).map (·.size) = some 1 := by
    unfold szT at hs
    cases hi : P.info? e with
    | none => simp [hi] at hs
    | some i => cases hu2 : P.underlying e with
      | none => simp [hi, hu2] at hs
      | some d => cases d <;> simp [hi, hu2] at hs <;> simp [hs]
   obtain ⟨b, c, e1, hl, hb, hni, hc⟩ := hH.obj id _ hob
   have hrun0 : ∀ (q : Value) (u v : Value) w', (Builtin.copy_ #[T, T'] o.type #[u, v]).run P S.w = .ok q w' → a.eval ox = u → a.eval oy = v → (execOp a.eval o).run P S.w = .ok (.value q) w' := by
    intro q u v w' h1 h2 h3
    subst h2 h3
    have e : (Builtin.copy_ #[T, T'] o.type #[a.eval ox, a.eval oy]).run P S.w = .ok q w' := h1
    simp [execOp, ho, resolve, invoke, builtin, e]
   by_cases h0 : min n' n = 0
   ·have hcp : cpF off (min n' n) f 0 g = f := by
     funext i; simp only [cpF, h0]; rw [if_neg (by omega)]
    rw [hcp] at hk
    have hset : H.set id (.box 1 m f) = H := by
     funext j; simp only [Hp.set]; split
     ·rename_i e; subst e; exact hob.symm
     ·rfl
    rw [hset] at hk
    generalize hcx : a.eval ox = cx at hx
    generalize hcy : a.eval oy = cy at hy
    have fin : ∀ (d s : Option Addr) (dc sc : Nat), cx = .slice d n dc → cy = .slice s n' sc → StepOk r P o S a (fun v ds' H' => K v H' ∧ ds' = ds) Kp := by
     intro d s dc sc h1 h2
     subst h1 h2
     have := hrun0 _ _ _ _ (run_copy_none S.w T T' o.type e d s n dc n' sc hu hsz h0) hcx hcy
     rw [h0] at hk
     exact stepOk_value (fun c e => by rw [ho] at e; cases e) this (Le.refl S) hH (.lit _) hD ⟨hk, rfl⟩
    have hy := hy.src
    cases hx <;> cases hy <;> exact fin _ _ _ _ rfl rfl
   ·generalize hcx : a.eval ox = cx at hx
    generalize hcy : a.eval oy = cy at hy
    cases hx with
    | vw0 => simp at h0
    | @vw _ _ _ _ blk cap hl2 =>
      have hy := hy.src
      cases hy with
      | zero => simp at h0
      | @cells _ _ _ b' off' cap' c' e1'' fz'' hb' hsz' hf' hh' =>
        rw [hl] at hl2; cases hl2
        generalize hq : min n' n = q at *
        have hq1 : q ≤ n := by omega
        have hq2 : q ≤ n' := by omega
        simp only [Nat.mul_one] at hcx
        have hcs := hc.1
        let cs : List Value := (c'.toList.drop off').take q
        have hcl : cs.length = q := by simp [cs]; omega
        have hget : ∀ j, j < q → cs[j]? = some (c'.getD (off' + j) undef) := fun j hj => by
         simp only [cs]
         rw [List.getElem?_take_of_lt hj, List.getElem?_drop]
         simp [Array.getD_eq_getD_getElem?, show off' + j < c'.size by omega]
        have hone : ∀ j, j < q → (c'.getD (off' + j) undef).oneCell' = true := fun j hj => by
         have := hh' j 0 (by omega) (by omega)
         rw [Nat.mul_one, Nat.add_zero] at this
         exact (cell_one this (okCells_getD (hok _ (by omega)) 0 (by rw [hf' _ (by omega)]; omega))).1
        have hr : (Builtin.copy_ #[T, T'] o.type #[.slice (some ⟨b, off, none⟩) n cap, .slice (some ⟨b', off', none⟩) n' cap']).run P S.w =
          .ok (goInt cs.length) (S.w.setRow b (c.toList.take off ++ cs ++ c.toList.drop (off + cs.length)).toArray) :=
         run_copy_row (P := P) S.w T T' o.type e b off n cap ⟨b', off', none⟩ n' cap' c e1 cs hu hsz hb (by rw [hcl, ← hq])
          (fun j v hj => by
           have hjq : j < q := by
            have := (List.getElem?_eq_some_iff.1 hj).1
            omega
           rw [hget j hjq] at hj
           cases hj
           rw [addr_add]
           exact cell_at hb' (by omega)) (by rw [hcl]; omega)
          (fun v hv => by
           obtain ⟨j, hj, rfl⟩ := List.getElem_of_mem hv
           have hjq : j < q := by omega
           have := hget j hjq
           rw [List.getElem?_eq_getElem hj] at this
           rw [Option.some.inj this]
           exact hone j hjq)
        generalize hc2 : (c.toList.take off ++ cs ++ c.toList.drop (off + cs.length)).toArray = c2 at hr
        have hs2 : c2.size = c.size := by subst hc2; simp; omega
        have hchg := setRow_chg (id := id) (o := .box 1 m f) hH hl hb hs2
        have hloc : S.loc id 0 = .unk ∨ S.loc id 0 = .blk b := .inr hl
        have hle := hchg.le (g := 0) (l := .blk b) hH hob hloc
        rw [St.chg_same hl] at hle
        have hval : ∀ k, c2.getD k undef = if off ≤ k ∧ k < off + cs.length then cs.getD (k - off) undef else c.getD k undef := fun k => by
         subst hc2
         exact splice_getD c cs off k (by omega)
        have hcells : CellsAre { S with w := S.w.setRow b c2 } c2 1 m (cpF off q f 0 g) := by
         refine ⟨by omega, fun i hi => ?_, fun i j hi hj => ?_⟩
         ·simp only [cpF]; split
          ·exact hf' _ (by omega)
          ·exact hc.2.1 _ hi
         ·have : j = 0 := by omega
          subst this
          rw [Nat.mul_one, Nat.add_zero, hval]
          simp only [cpF, hcl]
          split
          ·rename_i hin
           have e3 : cs.getD (i - off) undef = c'.getD (off' + (i - off)) undef := by
            rw [List.getD_eq_getElem?_getD, hget _ (by omega)]; rfl
           rw [e3]
           have := (hh' (i - off) 0 (by omega) (by omega)).mono hle
           rw [Nat.mul_one, Nat.add_zero] at this
           rw [Nat.zero_add]
           exact this
          ·have := (hc.2.2 i 0 hi (by omega)).mono hle
           rw [Nat.mul_one, Nat.add_zero] at this
           exact this
        have hH' := hchg.hrel (g := 0) (l := .blk b) (o' := .box 1 m (cpF off q f 0 g)) hH hob hloc
         (by rw [St.chg_same hl]; exact ⟨b, c2, e1, hl, setRow_heap S.w b c c2 e1 (0, 0) hb, hni, hcells⟩)
         (fun q hq => by rw [St.chg_same hl] at hq; exact .inl hq)
        rw [St.chg_same hl] at hH'
        rw [hcl] at hr
        exact stepOk_value (S' := { S with w := S.w.setRow b c2 }) (fun c e => by rw [ho] at e; cases e) (hrun0 _ _ _ _ hr hcx hcy) hle hH' (.lit _) hD ⟨hk, rfl⟩
 case h_5 sz ag id st len n' st' g he =>
  split at h
  case h_2 => exact h.elim
  case h_1 st1 m f hob =>
   obtain ⟨⟨rfl, rfl, rfl, hz⟩, rfl, hok, hk⟩ := h
   exact copyRowN_sound ho he hz hob hok hk hH hx hy.src hD
 case h_4 sz ag id st len id' st' o' n' he =>
  split at h
  case h_2 => exact h.elim
  case h_1 st1 m f st2 m' g hob hob2 =>
   obtain ⟨⟨rfl, rfl, rfl, rfl, hz⟩, rfl, hle, hok, hk⟩ := h
   exact copyRowN_sound ho he hz hob (fun i hi => hok _ (by omega)) hk hH hx (hy.src_vw hH hob2 hle) hD
 case h_3 id st len id2 st2 len2 he =>
  split at h
  case h_2 => exact h.elim
  case h_1 st1 m f st3 m' g hob hob2 =>
   obtain ⟨rfl, rfl, rfl, rfl, rfl, rfl, hok, hk⟩ := h
   exact copyRow_sound ho he hob hok hk hH hx (hy.src_sl hH hob2) hD
 case h_2 id st len n' st' g he =>
  split at h
  case h_2 => exact h.elim
  case h_1 st1 m f hob =>
   obtain ⟨rfl, rfl, rfl, rfl, hok, hk⟩ := h
   exact copyRow_sound ho he hob hok hk hH hx hy.src hD
 case h_1 id st off n id' st' off' n' he =>
  split at h
  case h_2 => exact h.elim
  case h_1 m f m' g hob hob' =>
   obtain ⟨rfl, rfl, hne, hle1, hle2, hok, hk⟩ := h
   obtain ⟨e, hu, hs⟩ := elT_spec he
   have hsz : (P.info? e).map (·.size) = some 1 := by
    unfold szT at hs
    cases hi : P.info? e with
    | none => simp [hi] at hs
    | some i => cases hu2 : P.underlying e with
      | none => simp [hi, hu2] at hs
      | some d => cases d <;> simp [hi, hu2] at hs <;> simp [hs]
   obtain ⟨b, c, e1, hl, hb, hni, hc⟩ := hH.obj id _ hob
   obtain ⟨b', c', e1', hl', hb', hni', hc'⟩ := hH.obj id' _ hob'
   have hrun0 : ∀ (q : Value) (u v : Value) w', (Builtin.copy_ #[T, T'] o.type #[u, v]).run P S.w = .ok q w' → a.eval ox = u → a.eval oy = v → (execOp a.eval o).run P S.w = .ok (.value q) w' := by
    intro q u v w' h1 h2 h3
    subst h2 h3
    have e : (Builtin.copy_ #[T, T'] o.type #[a.eval ox, a.eval oy]).run P S.w = .ok q w' := h1
    simp [execOp, ho, resolve, invoke, builtin, e]
   by_cases h0 : min n' n = 0
   ·have hcp : cpF off (min n' n) f off' g = f := by
     funext i; simp only [cpF, h0]; rw [if_neg (by omega)]
    rw [hcp] at hk
    have hset : H.set id (.box 1 m f) = H := by
     funext j; simp only [Hp.set]; split
     ·rename_i e; subst e; exact hob.symm
     ·rfl
    rw [hset] at hk
    generalize hcx : a.eval ox = cx at hx
    generalize hcy : a.eval oy = cy at hy
    have fin : ∀ (d s : Option Addr) (dc sc : Nat), cx = .slice d n dc → cy = .slice s n' sc → StepOk r P o S a (fun v ds' H' => K v H' ∧ ds' = ds) Kp := by
     intro d s dc sc h1 h2
     subst h1 h2
     have := hrun0 _ _ _ _ (run_copy_none S.w T T' o.type e d s n dc n' sc hu hsz h0) hcx hcy
     rw [h0] at hk
     exact stepOk_value (fun c e => by rw [ho] at e; cases e) this (Le.refl S) hH (.lit _) hD ⟨hk, rfl⟩
    cases hx <;> cases hy <;> exact fin _ _ _ _ rfl rfl
   ·generalize hcx : a.eval ox = cx at hx
    generalize hcy : a.eval oy = cy at hy
    cases hx with
    | vw0 => simp at h0
    | @vw _ _ _ _ blk cap hl2 =>
      cases hy with
      | vw0 => simp at h0
      | @vw _ _ _ _ blk' cap' hl2' =>
        rw [hl] at hl2; cases hl2
        rw [hl'] at hl2'; cases hl2'
        have hbb : b ≠ b' := fun e => hne (hH.inj id id' _ _ b hob hob' hl (by rw [e]; exact hl'))
        generalize hq : min n' n = q at *
        have hq1 : q ≤ n := by omega
        have hq2 : q ≤ n' := by omega
        simp only [Nat.mul_one] at hcx hcy
        have hcs := hc.1
        have hcs' := hc'.1
        let cs : List Value := (c'.toList.drop off').take q
        have hcl : cs.length = q := by simp [cs]; omega
        have hget : ∀ j, j < q → cs[j]? = some (c'.getD (off' + j) undef) := fun j hj => by
         simp only [cs]
         rw [List.getElem?_take_of_lt hj, List.getElem?_drop]
         simp [Array.getD_eq_getD_getElem?, show off' + j < c'.size by omega]
        have hone : ∀ j, j < q → (c'.getD (off' + j) undef).oneCell' = true := fun j hj => by
         have hi : off' + j < m' := by omega
         have := hc'.2.2 (off' + j) 0 hi (by omega)
         rw [Nat.mul_one, Nat.add_zero] at this
         exact (cell_one this (okCells_getD (hok _ hi) 0 (by rw [hc'.2.1 _ hi]; omega))).1
        have hr : (Builtin.copy_ #[T, T'] o.type #[.slice (some ⟨b, off, none⟩) n cap, .slice (some ⟨b', off', none⟩) n' cap']).run P S.w =
          .ok (goInt cs.length) (S.w.setRow b (c.toList.take off ++ cs ++ c.toList.drop (off + cs.length)).toArray) :=
         run_copy_row (P := P) S.w T T' o.type e b off n cap ⟨b', off', none⟩ n' cap' c e1 cs hu hsz hb (by rw [hcl, ← hq])
          (fun j v hj => by
           have hjq : j < q := by
            have := (List.getElem?_eq_some_iff.1 hj).1
            omega
           rw [hget j hjq] at hj
           cases hj
           rw [addr_add]
           exact cell_at hb' (by omega)) (by rw [hcl]; omega)
          (fun v hv => by
           obtain ⟨j, hj, rfl⟩ := List.getElem_of_mem hv
           have hjq : j < q := by omega
           have := hget j hjq
           rw [List.getElem?_eq_getElem hj] at this
           rw [Option.some.inj this]
           exact hone j hjq)
        generalize hc2 : (c.toList.take off ++ cs ++ c.toList.drop (off + cs.length)).toArray = c2 at hr
        have hs2 : c2.size = c.size := by subst hc2; simp; omega
        have hchg := setRow_chg (id := id) (o := .box 1 m f) hH hl hb hs2
        have hloc : S.loc id 0 = .unk ∨ S.loc id 0 = .blk b := .inr hl
        have hle := hchg.le (g := 0) (l := .blk b) hH hob hloc
        rw [St.chg_same hl] at hle
        have hval : ∀ k, c2.getD k undef = if off ≤ k ∧ k < off + cs.length then cs.getD (k - off) undef else c.getD k undef := fun k => by
         subst hc2
         exact splice_getD c cs off k (by omega)
        have hcells : CellsAre { S with w := S.w.setRow b c2 } c2 1 m (cpF off q f off' g) := by
         refine ⟨by omega, fun i hi => ?_, fun i j hi hj => ?_⟩
         ·simp only [cpF]; split
          ·exact hc'.2.1 _ (by omega)
          ·exact hc.2.1 _ hi
         ·have : j = 0 := by omega
          subst this
          rw [Nat.mul_one, Nat.add_zero, hval]
          simp only [cpF, hcl]
          split
          ·rename_i hin
           have e3 : cs.getD (i - off) undef = c'.getD (off' + (i - off)) undef := by
            rw [List.getD_eq_getElem?_getD, hget _ (by omega)]; rfl
           rw [e3]
           have := (hc'.2.2 (off' + (i - off)) 0 (by omega) (by omega)).mono hle
           rw [Nat.mul_one, Nat.add_zero] at this
           exact this
          ·have := (hc.2.2 i 0 hi (by omega)).mono hle
           rw [Nat.mul_one, Nat.add_zero] at this
           exact this
        have hH' := hchg.hrel (g := 0) (l := .blk b) (o' := .box 1 m (cpF off q f off' g)) hH hob hloc
         (by rw [St.chg_same hl]; exact ⟨b, c2, e1, hl, setRow_heap S.w b c c2 e1 (0, 0) hb, hni, hcells⟩)
         (fun q hq => by rw [St.chg_same hl] at hq; exact .inl hq)
        rw [St.chg_same hl] at hH'
        rw [hcl] at hr
        exact stepOk_value (S' := { S with w := S.w.setRow b c2 }) (fun c e => by rw [ho] at e; cases e) (hrun0 _ _ _ _ hr hcx hcy) hle hH' (.lit _) hD ⟨hk, rfl⟩

end
end Go.V
end
