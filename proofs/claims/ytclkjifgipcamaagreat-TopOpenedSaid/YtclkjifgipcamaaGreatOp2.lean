/- Helper lemmas of this claim, part 2. -/
import Derived.Maps.RangeRun
import Derived.Orders
import Derived.RecoverIn
import Derived.DeepKeys4
import Derived.RangeFuncRecord
import Derived.Test.YtclkjifgipcamaaGreatOp1
section
set_option linter.unusedVariables false
set_option linter.unusedSimpArgs false
namespace Go.V
open Go.ChangeMaps (setBlock)
set_option linter.unusedSectionVars false
variable [Inhabited GivT]
def rangeA (P : Program) (T : TypeId) (x : AV) (H : Hp) (K : AV → Hp → Prop) : Prop := match x with
 | .map mid => match H mid with
   | some (.raw (.map es ck)) => (∃ kt et, P.underlying T = some (.map kt et)) ∧ ∀ iid, H iid = none → K (.ref iid 0 1 0 0) (H.set iid (.iter mid ck #[] ck))
   | _ => False
 | _ => False
def nextA (x : AV) (str : Bool) (H : Hp) (K : AV → Hp → Prop) : Prop := match x, str with
 | .ref iid g st i j, false => match H iid with
   | some (.iter mid since seen c0) => match H mid with
     | some (.raw (.map es ck)) => (g = 0 ∧ i = 0 ∧ j = 0 ∧ (∀ x ∈ es.toList, x.born < since) ∧ since ≤ c0) ∧ ((leftOf es seen).size = 0 → K (.tuple [.lit (.bool false)]) H) ∧
       ∀ e ∈ (leftOf es seen).toList, K (.tuple [.lit (.bool true), valA e.key, valA e.val]) (H.set iid (.iter mid since (seen.push e.born) ck))
     | _ => False
   | _ => False
 | _, _ => False
def entryA (x : AV) (H : Hp) (K : AV → Hp → Prop) : Prop := match x with
 | .ref iid g st i j => match H iid with
   | some (.iter mid since seen c0) => match H mid with
     | some (.raw (.map es ck)) => ∃ (e : MapEntry) (sn : Array Nat), (g = 0 ∧ i = 0 ∧ j = 0 ∧ seen = sn.push e.born ∧ e ∈ es.toList ∧ (es.toList.map (·.born)).Nodup ∧ c0 = ck) ∧ K (.tuple [valA e.key, valA e.val]) H
     | _ => False
   | _ => False
 | _ => False

section
variable {P : Program} {S : St} {H : Hp}
theorem ref_ptr {id st : Nat} {c : Value} {b : Nat} (h : VRel S (.ref id 0 st 0 0) c) (hl : S.loc id 0 = .blk b) : c = .pointer (some ⟨b, 0, none⟩) := by
 generalize hx : AV.ref id 0 st 0 0 = x at h
 cases h with
 | ref hl' =>
   cases hx
   rw [hl] at hl'; cases hl'
   simp
 | _ => cases hx
theorem rangeA_sound {T : TypeId} {x : AV} {ox : Operand} {K : AV → Hp → Prop} {o : Oper} {a : Act} {r : Option Nat} {Kp : AV → Hp → Prop} {ds : List AD} (ho : o.op = .range T ox) (h : rangeA P T x H K) (hH : HRel S H)
  (hx : VRel S x (a.eval ox)) (hD : DRel S ds a.defers) : StepOk r P o S a (fun v ds' H' => K v H' ∧ ds' = ds) Kp := by
 unfold rangeA at h
 split at h
 case h_2 => exact h.elim
 case h_1 mid =>
  split at h
  case h_2 => exact h.elim
  case h_1 es ck hob =>
   obtain ⟨⟨kt, et, hu⟩, h⟩ := h
   obtain ⟨b, hl, hb, -, hni⟩ := hH.obj mid _ hob
   generalize hcx : a.eval ox = cx at hx
   cases hx with
   | @map _ b' hl' =>
     rw [hl] at hl'; cases hl'
     have hle := S.lay_le hH (.mapIter (some b) ck #[] ck)
     have hloc : (S.lay (.mapIter (some b) ck #[] ck)).loc S.next 0 = .blk S.w.heap.size := by simp [St.lay]
     have hH' := hH.lay (.mapIter (some b) ck #[] ck) (.iter mid ck #[] ck) rfl ⟨S.w.heap.size, b, hloc, hle.locBlk hl, heap_alloc _ _, fun x => by have := hH.immlt _ x; omega⟩
     refine stepOk_value (cv := .pointer (some ⟨S.w.heap.size, 0, none⟩)) (fun c e => by rw [ho] at e; cases e) ?_ hle hH' ?_ hD ⟨h S.next (St.next_none hH), rfl⟩
     ·simp [execOp, ho, hcx, run_range_map S.w T kt et b es ck hu hb]; rfl
     ·have := VRel.ref (S := S.lay (.mapIter (some b) ck #[] ck)) (id := S.next) (g := 0) (st := 1) (i := 0) (j := 0) hloc
      simpa using this
theorem nextA_sound {x : AV} {str : Bool} {ox : Operand} {K : AV → Hp → Prop} {o : Oper} {a : Act} {r : Option Nat} {Kp : AV → Hp → Prop} {ds : List AD} (ho : o.op = .next ox str) (h : nextA x str H K) (hH : HRel S H)
  (hx : VRel S x (a.eval ox)) (hD : DRel S ds a.defers) : StepOk r P o S a (fun v ds' H' => K v H' ∧ ds' = ds) Kp := by
 unfold nextA at h
 split at h
 case h_2 => exact h.elim
 case h_1 iid g st i j =>
  split at h
  case h_2 => exact h.elim
  case h_1 mid since seen c0 hob =>
   split at h
   case h_2 => exact h.elim
   case h_1 es ck hmb =>
    obtain ⟨⟨rfl, rfl, rfl, hold, hsc⟩, hdone, hmore⟩ := h
    obtain ⟨q, b, h1, h2, h3, h4⟩ := hH.obj iid _ hob
    obtain ⟨b', hl, hb, -, hni⟩ := hH.obj mid _ hmb
    rw [h2] at hl; cases hl
    have hp := ref_ptr hx h1
    have hrel : ∀ {l : List AV} {vs : Array Value} {S' : St}, vs.size = l.length → (∀ k, k < l.length → VRel S' (l.getD k .any) (vs.getD k undef)) → VRel S' (.tuple l) (.tuple vs) := fun e h => .tuple e h
    rcases run_next_at (P := P) S.w o.type q b since c0 seen es ck h3 hb hold hsc with ⟨h0, hrun⟩ | ⟨e, he, w1, hal, hrun⟩
    ·refine stepOk_value (S' := S) (cv := .tuple #[.bool false]) (fun c e => by rw [ho] at e; cases e) ?_ (Le.refl S) hH ?_ hD ⟨hdone h0, rfl⟩
     ·(simp [execOp, ho, hp, hrun]) <;> rfl
     ·exact hrel rfl fun k hk => by
       match k, hk with
       | 0, _ => exact .lit _
    ·have hw : ∀ k : Nat, w1.heap[k]? = S.w.heap[k]? := by rcases hal with rfl | rfl <;> exact fun _ => rfl
     have hws : w1.heap.size = S.w.heap.size := by rcases hal with rfl | rfl <;> rfl
     have hbl := lt_of_heap h3
     generalize hnew : Go.Obj.mapIter (some b) since (seen.push e.born) ck = ob
     rw [hnew] at hrun
     have hne : b ≠ q := fun e1 => by subst e1; rw [hb] at h3; cases h3
     have hchg : Chg S iid (.iter mid since seen c0) (setBlock w1 q ob) := by
      refine ⟨?_, ?_, ?_, ?_, fun k hk hne => ?_, fun k c0 e0 fz0 hk h0 => ?_⟩
      ·rcases hal with rfl | rfl <;> rfl
      ·rcases hal with rfl | rfl <;> rfl
      ·rcases hal with rfl | rfl <;> rfl
      ·simp [ChangeMaps.setBlock, hws]
      ·have hk2 : q ≠ k := fun e => hne (by rw [← e]; exact h1)
       simp [ChangeMaps.setBlock, Array.getElem?_setIfInBounds_ne hk2, hw]
      ·have hk : S.loc iid 0 = .blk k := hk
       rw [h1] at hk; cases hk
       rw [h3] at h0; cases h0
     have hloc : S.loc iid 0 = .unk ∨ S.loc iid 0 = .blk q := .inr h1
     have hle := hchg.le (g := 0) (l := .blk q) hH hob hloc
     have hH' := hchg.hrel (g := 0) (l := .blk q) (o' := .iter mid since (seen.push e.born) ck) hH hob hloc
      (by rw [St.chg_same h1]
          exact ⟨q, b, h1, h2, by rw [hnew]; simp [ChangeMaps.setBlock, hws, hbl], h4⟩)
      (fun z hz => by rw [St.chg_same h1] at hz; exact .inl hz)
     rw [St.chg_same h1] at hle hH'
     refine stepOk_value (S' := { S with w := setBlock w1 q ob }) (cv := .tuple #[.bool true, e.key, e.val]) (fun c e => by rw [ho] at e; cases e) ?_ hle hH' ?_ hD ⟨hmore e he, rfl⟩
     ·(simp [execOp, ho, hp, hrun]) <;> rfl
     ·exact hrel rfl fun k hk => by
       match k, hk with
       | 0, _ => exact .lit _
       | 1, _ => exact valA_rel _
       | 2, _ => exact valA_rel _
theorem entryA_sound {x : AV} {ox : Operand} {K : AV → Hp → Prop} {o : Oper} {a : Act} {r : Option Nat} {Kp : AV → Hp → Prop} {ds : List AD} (ho : o.op = .entry ox) (h : entryA x H K) (hH : HRel S H)
  (hx : VRel S x (a.eval ox)) (hD : DRel S ds a.defers) : StepOk r P o S a (fun v ds' H' => K v H' ∧ ds' = ds) Kp := by
 unfold entryA at h
 split at h
 case h_2 => exact h.elim
 case h_1 iid g st i j =>
  split at h
  case h_2 => exact h.elim
  case h_1 mid since seen c0 hob =>
   split at h
   case h_2 => exact h.elim
   case h_1 es ck hmb =>
    obtain ⟨e, sn, ⟨rfl, rfl, rfl, rfl, hem, hnd, rfl⟩, hk⟩ := h
    obtain ⟨q, b, h1, h2, h3, h4⟩ := hH.obj iid _ hob
    obtain ⟨b', hl, hb, -, hni⟩ := hH.obj mid _ hmb
    rw [h2] at hl; cases hl
    have hp := ref_ptr hx h1
    refine stepOk_value (S' := S) (cv := .tuple #[e.key, e.val]) (fun c e => by rw [ho] at e; cases e) ?_ (Le.refl S) hH ?_ hD ⟨hk, rfl⟩
    ·simp [execOp, ho, hp, run_entry_at S.w q b since sn es c0 e h3 hb hem hnd]
    ·exact .tuple rfl fun k hk => by
      match k, hk with
      | 0, _ => exact valA_rel _
      | 1, _ => exact valA_rel _
end
end Go.V
end
section
set_option linter.unusedVariables false
set_option linter.unusedSimpArgs false
namespace Go.V
set_option linter.unusedSectionVars false
variable [Inhabited GivT]
/-- The state behind the laying of a row of a generation. -/
def St.layRow (S : St) (o : Go.Obj) (g : Nat) : St := { S with w := S.w.alloc o, loc := fun i k => if i = S.next ∧ k = g then .blk S.w.heap.size else S.loc i k, next := S.next + 1 }
theorem St.layRow_le {S : St} {H : Hp} (hH : HRel S H) (o : Go.Obj) (g : Nat) : Le S (S.layRow o g) where
 os := rfl
 tape := rfl
 output := rfl
 size := by simp [St.layRow]
 imm := fun b h => h
 keep := fun b h => heap_alloc_lt _ _ (hH.immlt b h)
 loc := fun i k h => by
  simp only [St.layRow]; rw [if_neg]
  rintro ⟨rfl, rfl⟩; exact h ((hH.fresh _ (Nat.le_refl _)).2 _)
 next := Nat.le_succ _
 csize := fun b c e fz h => ⟨c, by rw [St.layRow, heap_alloc_lt _ _ (lt_of_heap h)]; exact h, rfl⟩

theorem HRel.layRow {S : St} {H : Hp} (hH : HRel S H) (o : Go.Obj) (g : Nat) (o' : Obj) (hg : o'.gen = g) (hok : OkObj (S.layRow o g) S.next o') : HRel (S.layRow o g) (H.set S.next o') :=
 hH.layWith o' (S.layRow_le hH o g) rfl rfl (by simp [St.layRow]) (fun b hb => heap_alloc_lt _ _ hb) (fun i k hi => by simp only [St.layRow]; rw [if_neg (fun e => hi e.1)]) hok
  (fun b hb => by rw [hg] at hb; simp [St.layRow] at hb; omega)

def buildMutA (P : Program) (T n : Nat) (parts : List (Nat × AV)) (H : Hp) (K : AV → Hp → Prop) : Prop := match bsT P T with
 | some st => (partIdx 0 parts ∧ parts.length = n ∧ n * st ≤ 16777216 ∧ lensA st (elemsA parts) ∧ okParts parts) ∧
   ∀ id, H id = none → K (.sl id st n) (H.set id (.row st n fun i => (elemsA parts).getD i []))
 | none => False

section
variable {P : Program} {S : St} {H : Hp}
theorem row_new {S : St} {H : Hp} (hH : HRel S H) {cells : Array Value} {e : TypeId} {st n : Nat} {f : Nat → List AV} (hc : ∀ S', Le S S' → CellsAre S' cells st n f) :
  OkObj (S.layRow (.cells cells e) n) S.next (.row st n f) :=
 ⟨fun g hg => by
  have : (S.layRow (.cells cells e) n).loc S.next g = S.loc S.next g := by simp only [St.layRow]; rw [if_neg (fun e => by omega)]
  rw [this]; exact (hH.fresh _ (Nat.le_refl _)).2 g,
  .inr ⟨S.w.heap.size, cells, e, by simp [St.layRow], heap_alloc _ _, fun x => by have := hH.immlt _ x; omega, hc _ (S.layRow_le hH _ n)⟩⟩

theorem buildMutA_sound {T n : Nat} {parts : List (Nat × AV)} {vs : Array (Nat × Value)} {ps : Array (Nat × Operand)} {K : AV → Hp → Prop} {o : Oper} {a : Act} {r : Option Nat} {Kp : AV → Hp → Prop} {ds : List AD}
  (ho : o.op = .buildSlice T n ps) (hvs : vs = ps.map fun (i, x) => (i, a.eval x)) (h : buildMutA P T n parts H K) (hH : HRel S H) (hx : PartsRel S parts vs.toList) (hD : DRel S ds a.defers) :
  StepOk r P o S a (fun v ds' H' => K v H' ∧ ds' = ds) Kp := by
 unfold buildMutA at h
 split at h
 case h_2 => exact h.elim
 case h_1 st hb =>
  obtain ⟨⟨h1, h2, h3, h4, h5⟩, hk⟩ := h
  obtain ⟨e, z, hu, hs, hz, hzs⟩ := bsT_spec hb S.w
  obtain ⟨cells, hc⟩ : ∃ cells : Array Value, cells = (Array.range (n * st)).map ((if n * st = 0 then #[] else z.cells)[· % (if n * st = 0 then #[] else z.cells).size]!) := ⟨_, rfl⟩
  have hcs : cells.size = n * st := by rw [hc]; simp
  obtain ⟨cells', k1, k2, k3, k4⟩ := fillS_sound (S := S) (st := st) parts vs.toList 0 cells h1 h4 h5 hx (by rw [Nat.zero_add, h2]; omega)
  have hrun : (Instr.buildSlice T n vs).run P S.w = .ok (.slice (some ⟨S.w.heap.size, 0, none⟩) n n) (S.layRow (.cells cells' e) n).w := by
   have hne : ¬ n * st > 2 ^ 24 := by omega
   have hrow : (newRow e cells').run P S.w = .ok ⟨S.w.heap.size, 0, none⟩ (S.layRow (.cells cells' e) n).w := by simp [newRow]; rfl
   simp only [Instr.buildSlice, Sem.run_bind, run_underlying hu, Result.andThen_ok, hs, Sem.run_ite, if_neg hne, Sem.run_pure]
   by_cases h0 : n * st = 0
   ·simp only [if_pos h0] at hc
    simp only [if_pos h0, Result.andThen_ok, ← hc, k1, Sem.run_bind, hrow, Sem.run_pure]
   ·simp only [if_neg h0] at hc
    simp only [if_neg h0, Sem.run_bind, hz, Result.andThen_ok, Sem.run_pure, ← hc, k1, hrow]
  have hle := S.layRow_le hH (.cells cells' e) n
  have hcells : ∀ S', Le S S' → CellsAre S' cells' st n fun i => (elemsA parts).getD i [] := fun S' hl =>
   ⟨by rw [k2, hcs]; exact Nat.le_refl _, fun i hi => lensA_getD h4 i (by rw [elemsA_length]; omega), fun i j hi hj => by
    have := (k4 i j (by omega) hj).mono hl
    rw [Nat.zero_add] at this; exact this⟩
  have hloc : (S.layRow (.cells cells' e) n).loc S.next n = .blk S.w.heap.size := by simp [St.layRow]
  refine stepOk_value (fun c e => by rw [ho] at e; cases e) ?_ hle (hH.layRow (.cells cells' e) n (.row st n _) rfl (row_new hH hcells))
   (.sl (c := cells') (e := e) (fz := (0, 0)) hloc (heap_alloc _ _) (by rw [k2, hcs]; exact Nat.le_refl _) (Nat.le_refl _)) hD ⟨hk S.next (St.next_none hH), rfl⟩
  simp [execOp, ho, ← hvs, hrun]

/-- What a made slice's elements are. -/
def mkT (P : Program) (T : TypeId) : Option (Nat × Nat × List Value) := match P.underlying T with
 | some (.slice e) => match P.info? e with
   | some i => match i.zero with
     | some z => if z.cells.size = i.size then some (i.size, i.bytes, z.cells.toList) else none
     | none => none
   | none => none
 | _ => none

def makeSliceA (P : Program) (T : TypeId) (x y : AV) (H : Hp) (K : AV → Hp → Prop) : Prop := match mkT P T, x, y with
 | some (st, by_, z), .lit (.int .i64 n), .lit (.int .i64 c) => 0 ≤ n ∧ (n = c ∨ n < c) ∧ c * by_ ≤ 16777216 ∧ c ≤ 16777216 ∧ ∀ id, H id = none → K (.sl id st n.toNat) (H.set id (.row st n.toNat fun _ => z.map .lit))
 | _, _, _ => False

theorem mkT_spec {T st by_ : Nat} {z : List Value} (h : mkT P T = some (st, by_, z)) (w : World) : ∃ e i zv, P.underlying T = some (.slice e) ∧ P.info? e = some i ∧ i.size = st ∧ i.bytes = by_ ∧ zv.cells.size = st ∧
  zv.cells.toList = z ∧ (zeroValue e).run P w = .ok zv w ∧ (sizeOf e).run P w = .ok st w ∧ (typeInfo e).run P w = .ok i w := by
 unfold mkT at h
 split at h
 case h_2 => cases h
 case h_1 e hu =>
  split at h
  case h_2 => cases h
  case h_1 i hi =>
   split at h
   case h_2 => cases h
   case h_1 zv hz =>
    split at h
    case isFalse => cases h
    case isTrue hs =>
     simp only [Option.some.injEq, Prod.mk.injEq] at h
     obtain ⟨rfl, rfl, rfl⟩ := h
     exact ⟨e, i, zv, hu, hi, rfl, rfl, hs, rfl, by simp [zeroValue, typeInfo, hi, hz], by simp [sizeOf, typeInfo, hi], by simp [typeInfo, hi]⟩

theorem makeSliceA_sound {T : TypeId} {x y : AV} {ox oy : Operand} {K : AV → Hp → Prop} {o : Oper} {a : Act} {r : Option Nat} {Kp : AV → Hp → Prop} {ds : List AD}
  (ho : o.op = .makeSlice T ox oy) (h : makeSliceA P T x y H K) (hH : HRel S H) (hx : VRel S x (a.eval ox)) (hy : VRel S y (a.eval oy)) (hD : DRel S ds a.defers) :
  StepOk r P o S a (fun v ds' H' => K v H' ∧ ds' = ds) Kp := by
 unfold makeSliceA at h
 split at h
 case h_2 => exact h.elim
 case h_1 st by_ z n c hm =>
  obtain ⟨h0, hnc, hb, hn, hk⟩ := h
  have hle2 : n ≤ c := by omega
  clear hnc
  obtain ⟨e, i, zv, hu, hi, hst, hby, hzs, hzl, hz, hs, hti⟩ := mkT_spec hm S.w
  have ex := hx.lit_inv
  have ey := hy.lit_inv
  have hw : IntKind.i64.wrap n = n := InR.wrap (k := .i64) (by rw [InR_i64]; omega)
  have hwc : IntKind.i64.wrap c = c := InR.wrap (k := .i64) (by rw [InR_i64]; omega)
  obtain ⟨cells, hc⟩ : ∃ cells : Array Value, cells = (Array.range (c.toNat * st)).map ((if c.toNat * st = 0 then #[] else zv.cells)[· % (if c.toNat * st = 0 then #[] else zv.cells).size]!) := ⟨_, rfl⟩
  have hcs : cells.size = c.toNat * st := by rw [hc]; simp
  have hnst : n.toNat * st ≤ c.toNat * st := Nat.mul_le_mul_right _ (by omega)
  have hrow : (newRow e cells).run P S.w = .ok ⟨S.w.heap.size, 0, none⟩ (S.layRow (.cells cells e) n.toNat).w := by simp [newRow]; rfl
  have hroom : (askRoom (c.toNat * by_)).run P S.w = .ok () S.w := by
   have : ¬ c.toNat * by_ > roomBytes := by
    have h1 : ((c.toNat * by_ : Nat) : Int) ≤ 16777216 := by rw [Int.natCast_mul, Int.toNat_of_nonneg (by omega)]; exact hb
    have h2 : 16777216 ≤ roomBytes := by decide
    omega
   simp [askRoom, this]
  have hrun : (Instr.makeSlice T (.int .i64 n) (.int .i64 c)).run P S.w = .ok (.slice (some ⟨S.w.heap.size, 0, none⟩) n.toNat c.toNat) (S.layRow (.cells cells e) n.toNat).w := by
   have hb3 : (by_ : Int) * c ≤ 16777216 := by rw [Int.mul_comm]; exact hb
   have hb2 : (by_ : Int) * n ≤ 16777216 := Int.le_trans (Int.mul_le_mul_of_nonneg_left hle2 (by omega)) hb3
   have c1 : ¬ (by_ : Int) * n > 2 ^ 48 := by omega
   have c1' : ¬ (by_ : Int) * c > 2 ^ 48 := by omega
   have c2 : ¬ n < 0 := by omega
   have c2' : ¬ c < 0 := by omega
   have hd : decide (IntKind.i64.wrap n < 0) = false := by rw [hw]; exact decide_eq_false c2
   have hbig : (decide (n < 0) || decide ((by_ : Int) * n > 2 ^ 48)) = false := by rw [decide_eq_false c1, decide_eq_false c2]; rfl
   have hbig' : (decide (c < 0) || decide ((by_ : Int) * c > 2 ^ 48)) = false := by rw [decide_eq_false c1', decide_eq_false c2']; rfl
   simp only [Instr.makeSlice, Sem.run_bind, run_underlying hu, Result.andThen_ok, asInt, asIntOf, Sem.run_pure, hti, hw, hwc, hby, Sem.run_ite, Bool.or_eq_true, decide_eq_true_eq]
   rw [if_neg (by simp only [hby] at *; omega)]
   simp only [Sem.run_bind, hroom, Result.andThen_ok, hs, Sem.run_pure, Sem.run_ite]
   by_cases hz0 : c.toNat * st = 0
   ·simp only [if_pos hz0] at hc
    simp only [if_pos hz0, Sem.run_pure, Result.andThen_ok, ← hc, Sem.run_bind, hrow]
   ·simp only [if_neg hz0] at hc
    simp only [if_neg hz0, Sem.run_bind, hz, Sem.run_pure, Result.andThen_ok, ← hc, hrow]
  have hle := S.layRow_le hH (.cells cells e) n.toNat
  have hzlen : z.length = st := by rw [← hzl]; simpa using hzs
  have hcells : ∀ S', Le S S' → CellsAre S' cells st n.toNat fun _ => z.map .lit := fun S' hl =>
   ⟨by rw [hcs]; exact hnst, fun i hi => by simpa using hzlen, fun i j hi hj => by
    have hlt := lt_of_cells hi hj
    have h0 : ¬ c.toNat * st = 0 := by omega
    have hlt2 : i * st + j < c.toNat * st := by omega
    have e1 : (z.map AV.lit).getD j .any = .lit (z.getD j undef) := by simp [List.getD, show j < z.length by omega]
    have e2 : cells.getD (i * st + j) undef = z.getD j undef := by
     rw [hc, if_neg h0, ← hzl]
     have e3 : (i * st + j) % zv.cells.size = j := by rw [hzs, Nat.mul_add_mod_self_right, Nat.mod_eq_of_lt hj]
     simp [Array.getD_eq_getD_getElem?, hlt2, e3, List.getD, show j < zv.cells.size by omega]
    rw [e1, e2]; exact .lit _⟩
  have hloc : (S.layRow (.cells cells e) n.toNat).loc S.next n.toNat = .blk S.w.heap.size := by simp [St.layRow]
  refine stepOk_value (fun c e => by rw [ho] at e; cases e) ?_ hle (hH.layRow (.cells cells e) n.toNat (.row st n.toNat _) rfl (row_new hH hcells))
   (.sl (c := cells) (e := e) (fz := (0, 0)) hloc (heap_alloc _ _) (by rw [hcs]; exact Nat.le_refl _) (by omega)) hD ⟨hk S.next (St.next_none hH), rfl⟩
  simp [execOp, ho, ex, ey, hrun]
end
end Go.V
end
section
set_option linter.unusedVariables false
set_option linter.unusedSimpArgs false
namespace Go.V
set_option linter.unusedSectionVars false
variable [Inhabited GivT]
/-- The state behind the naming of a block that is known. -/
def St.layBlk (S : St) (g b : Nat) : St := { S with loc := fun i k => if i = S.next ∧ k = g then .blk b else S.loc i k, next := S.next + 1 }
theorem St.layBlk_le {S : St} {H : Hp} (hH : HRel S H) (g b : Nat) : Le S (S.layBlk g b) where
 os := rfl
 tape := rfl
 output := rfl
 size := Nat.le_refl _
 imm := fun b h => h
 keep := fun b h => rfl
 loc := fun i k h => by
  simp only [St.layBlk]; rw [if_neg]
  rintro ⟨rfl, rfl⟩; exact h ((hH.fresh _ (Nat.le_refl _)).2 _)
 next := Nat.le_succ _
 csize := fun b c e fz h => ⟨c, h, rfl⟩
theorem HRel.layBlk {S : St} {H : Hp} (hH : HRel S H) {id st n m b : Nat} {f : Nat → List AV} {c : Array Value} {e : TypeId} (ho : H id = some (.row st n f)) (hl : S.loc id n = .blk b) (hb : S.w.heap[b]? = some (.cells c e (0, 0)))
  (hi : ¬ S.imm b) (hc : CellsAre S c st n f) (hm : m ≤ n) : HRel (S.layBlk m b) ((H.del id).set S.next (.row st m f)) := by
 have hle := S.layBlk_le hH m b
 have hnx := hH.fresh S.next (Nat.le_refl _)
 have hne : id ≠ S.next := fun e => by rw [e, hnx.1] at ho; cases ho
 have hl' : ∀ i k, i ≠ S.next → (S.layBlk m b).loc i k = S.loc i k := fun i k hi => by simp only [St.layBlk]; rw [if_neg fun e => hi e.1]
 have old : ∀ i o, i ≠ S.next → ((H.del id).set S.next (.row st m f)) i = some o → i ≠ id ∧ H i = some o := fun i o hi h => by
  rw [Hp.set_ne _ _ hi] at h
  by_cases e : i = id
  ·subst e; simp [Hp.del] at h
  ·rw [Hp.del_ne _ e] at h; exact ⟨e, h⟩
 have hnew : ∀ b', (S.layBlk m b).loc S.next m = .blk b' → b' = b := fun b' h => by simp [St.layBlk] at h; exact h.symm
 refine ⟨fun i hi => ?_, fun b h => hH.immlt b h, fun i x hx => ?_, ?_, fun p hp => (hH.giv p hp).mono hle⟩
 ·have hi : S.next + 1 ≤ i := hi
  have h1 : i ≠ S.next := by omega
  have h2 := hH.fresh i (by omega)
  refine ⟨?_, fun k => by rw [hl' i k h1]; exact h2.2 k⟩
  rw [Hp.set_ne _ _ h1]
  unfold Hp.del
  split
  ·rfl
  ·exact h2.1
 ·by_cases e : i = S.next
  ·subst e
   rw [Hp.set_same] at hx; cases hx
   refine ⟨fun g hg => ?_, .inr ⟨b, c, _, by simp [St.layBlk], hb, hi, ?_⟩⟩
   ·simp only [St.layBlk]; rw [if_neg fun e => by omega]; exact hnx.2 g
   ·have h1 : m * st ≤ n * st := Nat.mul_le_mul_right _ hm
    exact ⟨Nat.le_trans h1 hc.1, fun i hi => hc.2.1 i (by omega), fun i j hi hj => (hc.2.2 i j (by omega) hj).mono hle⟩
  ·obtain ⟨_, h⟩ := old i x e hx
   exact (hH.obj i x h).keep hle (fun k => hl' i k e) (fun b _ => rfl) (fun b _ _ h => h)
 ·intro i j p p' b' hp hp' hbl hb'
  by_cases ei : i = S.next
  ·by_cases ej : j = S.next
   ·rw [ei, ej]
   ·exfalso
    obtain ⟨e1, e2⟩ := old j p' ej hp'
    subst ei
    rw [Hp.set_same] at hp; cases hp
    have := hnew b' hbl
    subst this
    rw [hl' j _ ej] at hb'
    exact e1 (hH.inj j id p' _ b' e2 ho hb' hl)
  ·obtain ⟨e1, e2⟩ := old i p ei hp
   rw [hl' i _ ei] at hbl
   by_cases ej : j = S.next
   ·exfalso
    subst ej
    rw [Hp.set_same] at hp'; cases hp'
    have := hnew b' hb'
    subst this
    exact e1 (hH.inj i id p _ b' e2 ho hbl hl)
   ·obtain ⟨e3, e4⟩ := old j p' ej hp'
    rw [hl' j _ ej] at hb'
    exact hH.inj i j p p' b' e2 e4 hbl hb'

def sliceM (P : Program) (T : TypeId) (x y : AV) (H : Hp) (K : AV → Hp → Prop) : Prop := match elT P T, x, y with
 | some (es, _), .sl id st n, .lit (.int .i64 m) => match H id with
   | some (.row st' n' f) => es = st ∧ st' = st ∧ n' = n ∧ (0 ≤ m ∧ m ≤ n) ∧ ∀ id', H id' = none → K (.sl id' st m.toNat) ((H.del id).set id' (.row st m.toNat f))
   | _ => False
 | _, _, _ => False
theorem sliceM_sound {P : Program} {S : St} {H : Hp} {T : TypeId} {x y : AV} {ox oy : Operand} {K : AV → Hp → Prop} {o : Oper} {a : Act} {r : Option Nat} {Kp : AV → Hp → Prop} {ds : List AD}
  (ho : o.op = .slice T ox none (some oy) none) (h : sliceM P T x y H K) (hH : HRel S H) (hx : VRel S x (a.eval ox)) (hy : VRel S y (a.eval oy)) (hD : DRel S ds a.defers) :
  StepOk r P o S a (fun v ds' H' => K v H' ∧ ds' = ds) Kp := by
 unfold sliceM at h
 split at h
 case h_2 => exact h.elim
 case h_1 es bb id st n m he =>
  split at h
  case h_2 => exact h.elim
  case h_1 st' n' f hob =>
   obtain ⟨rfl, rfl, rfl, ⟨hm0, hm1⟩, hk⟩ := h
   obtain ⟨hu, hs⟩ := slT_parts he
   have hsz := (szT_spec hs S.w).1
   have ey := hy.lit_inv
   have hr : ∀ (a : Option Addr) (n cap : Nat) lo hi, (Instr.sliceAt T (.slice a n cap) lo hi none).run P S.w = (Instr.slice T (.slice a n cap) lo hi none).run P S.w := fun a n cap lo hi => run_sliceAt_slice S.w T _ lo hi none hu
   have hmn : m.toNat ≤ n' := by omega
   generalize hcx : a.eval ox = cx at hx
   cases hx with
   | @sl _ _ _ b cap c e fz hl hb hc hlen =>
     obtain ⟨_, hcase⟩ := hH.obj id _ hob
     rcases hcase with ⟨e0, hnil⟩ | ⟨b', c', e', hl', hb', hni, hcs⟩
     ·subst e0
      rw [hnil] at hl; cases hl
     ·rw [hl] at hl'; cases hl'
      rw [hb] at hb'
      obtain ⟨rfl, rfl, rfl⟩ : c' = c ∧ e' = e ∧ fz = (0, 0) := by
       simp only [Option.some.injEq, Go.Obj.cells.injEq] at hb'
       exact ⟨hb'.1.symm, hb'.2.1.symm, hb'.2.2⟩
      have hrun : (Instr.sliceAt T (.slice (some ⟨b, 0, none⟩) n' cap) none (some (.int .i64 m)) none).run P S.w = .ok (.slice (some ⟨b, 0, none⟩) m.toNat cap) (S.layBlk m.toNat b).w := by
       rw [hr, run_slice_h S.w T _ _ _ hu _ _ hm0 (by omega), hsz, Result.andThen_ok]
       unfold sliced
       have ea : (some (⟨b, 0, none⟩ : Addr)).map (·.add (0 * st')) = some ⟨b, 0, none⟩ := by simp [addr_add]
       rw [ea]
       simp
       rfl
      refine stepOk_value (fun c e => by rw [ho] at e; cases e) ?_ (S.layBlk_le hH _ _) (hH.layBlk hob hl hb hni hcs hmn)
       (.sl (c := c') (e := e') (fz := (0, 0)) (by simp [St.layBlk]) hb hc (by omega)) hD ⟨hk S.next (St.next_none hH), rfl⟩
      simp [execOp, ho, hcx, ey, hrun]
   | slnil hl =>
     have e0 : m = 0 := by omega
     subst e0
     have hH2 : HRel S (H.del id) := hH.sub fun i o h => by
      unfold Hp.del at h
      split at h
      ·cases h
      ·exact ⟨o, h, .refl _⟩
     have hrun : (Instr.sliceAt T (.slice none 0 0) none (some (.int .i64 0)) none).run P S.w = .ok (.slice none 0 0) S.layNil.w := by
      rw [hr, run_slice_h S.w T _ _ _ hu _ _ (Int.le_refl _) (by omega), hsz, Result.andThen_ok]
      rfl
     refine stepOk_value (S' := S.layNil) (fun c e => by rw [ho] at e; cases e) ?_ (S.layNil_le hH) (hH2.layNil _ f) (.slnil (by simp [St.layNil])) hD ⟨hk S.next (St.next_none hH), rfl⟩
     simp [execOp, ho, hcx, ey, hrun]
end Go.V
end
section
set_option linter.unusedVariables false
namespace Go.V
set_option linter.unusedSectionVars false
variable [Inhabited GivT]
def nilSliceOp : Operand → Bool
 | .const (.slice none 0 0) => true
 | _ => false

def panA (x : AV) (Kp : AV → Prop) : Prop := match x with
 | .iface t v => Kp (.iface t v)
 | _ => False

def deferA (s : Fr) (c : Call) (K : AD → Prop) : Prop := match c.callee with
 | .value (.func g) => okAll (opsA s c.args.toList) ∧ K (.call g (stAll (opsA s c.args.toList)))
 | .value x => match opA s x with
   | .func (.func g) [] us => okAll (opsA s c.args.toList) ∧ K (.call g (stAll (opsA s c.args.toList) ++ us))
   | _ => False
 | _ => False

def appA (P : Program) (s : Fr) (c : Call) (H : Hp) (K : AV → Hp → Prop) : Prop := match c.args.toList, c.argTypes.toList with
 | [x, y], [T, T'] => (opA s x).ok ∧ (opA s y).ok ∧ appendA P T T' (opA s x).st (opA s y).st H K
 | _, _ => False

def copA (P : Program) (s : Fr) (c : Call) (H : Hp) (K : AV → Hp → Prop) : Prop := match c.args.toList, c.argTypes.toList with
 | [x, y], [T, _] => (opA s x).ok ∧ (opA s y).ok ∧ copyA P T (opA s x).st (opA s y).st H K
 | _, _ => False

/-- One operation; m: which slots hold memory that will be written. -/
def effA (P : Program) (m : Option Tmp → Bool) (o : Oper) (s : Fr) (ds : List AD) (H : Hp) (K : AV → List AD → Hp → Prop) (Kp : AV → Hp → Prop) : Prop := match o.op with
 | .alloc T => allocA P T H fun v H' => K v ds H'
 | .box T x => match m o.dst with
   | true => (opA s x).ok ∧ boxMutA (opA s x).st H fun v H' => K v ds H'
   | false => pureA P H o.op s fun p v => p ∧ K v ds H
 | .store T x y => (opA s x).ok ∧ (opA s y).ok ∧ storeA P T (opA s x).st (opA s y).st H fun H' => K (.lit undef) ds H'
 | .assign x => match m o.dst && nilSliceOp x with
   | true => match elT P o.type with
     | some (st, _) => ∀ id, H id = none → K (.sl id st 0) ds (H.set id (.row st 0 fun _ => []))
     | none => False
   | false => pureA P H o.op s fun p v => p ∧ K v ds H
 | .buildSlice T q ps => match m o.dst with
   | true => partsOk s ps.toList ∧ buildMutA P T q (partsA s ps.toList) H fun v H' => K v ds H'
   | false => pureA P H o.op s fun p v => p ∧ K v ds H
 | .makeSlice T x y => match m o.dst with
   | true => (opA s x).ok ∧ (opA s y).ok ∧ makeSliceA P T (opA s x).st (opA s y).st H fun v H' => K v ds H'
   | false => pureA P H o.op s fun p v => p ∧ K v ds H
 | .slice T x lo hi mx => match m o.dst with
   | true => match lo, hi, mx with
     | none, some y, none => (opA s x).ok ∧ (opA s y).ok ∧ sliceM P T (opA s x).st (opA s y).st H fun v H' => K v ds H'
     | _, _, _ => False
   | false => pureA P H o.op s fun p v => p ∧ K v ds H
 | .makeMap T r => match r with
   | none => ∀ id, H id = none → K (.map id) ds (H.set id (.raw (.map #[] 0)))
   | some _ => False
 | .mapUpdate T x y z => (opA s x).ok ∧ (opA s y).ok ∧ (opA s z).ok ∧ mapUpA P T (opA s x).st (opA s y).st (opA s z).st H fun H' => K (.lit undef) ds H'
 | .range T x => (opA s x).ok ∧ rangeA P T (opA s x).st H fun v H' => K v ds H'
 | .next x b => (opA s x).ok ∧ nextA (opA s x).st b H fun v H' => K v ds H'
 | .entry x => (opA s x).ok ∧ entryA (opA s x).st H fun v H' => K v ds H'
 | .panic x => (opA s x).ok ∧ panA (opA s x).st fun v => Kp v H
 | .defer c => deferA s c fun d => K (.lit undef) (d :: ds) H
 | .call c => match c.callee with
   | .builtin .append => appA P s c H fun v H' => K v ds H'
   | .builtin .copy => copA P s c H fun v H' => K v ds H'
   | .builtin _ => pureA P H o.op s fun p v => p ∧ K v ds H
   | _ => callA P s c H (fun v H' => K v ds H') Kp
 | _ => pureA P H o.op s fun p v => p ∧ K v ds H

theorem StepOk.mono {r : Option Nat} {P : Program} {o : Oper} {S : St} {a : Act} {K K' : AV → List AD → Hp → Prop} {Kp Kp' : AV → Hp → Prop} (h : StepOk r P o S a K Kp)
  (hk : ∀ v ds H, K v ds H → K' v ds H) (hp : ∀ v H, Kp v H → Kp' v H) : StepOk r P o S a K' Kp' :=
 fun next Q hn hq => h next Q (fun S' cv v ds' df H' h1 h2 h3 h4 h5 => hn S' cv v ds' df H' h1 h2 h3 h4 (hk _ _ _ h5)) (fun S' cv v H' h1 h2 h3 h4 => hq S' cv v H' h1 h2 h3 (hp _ _ h4))

theorem effA_sound {r : Option Nat} {P : Program} {m : Option Tmp → Bool} {o : Oper} {s : Fr} {ds : List AD} {H : Hp} {K : AV → List AD → Hp → Prop} {Kp : AV → Hp → Prop} {S : St} {a : Act}
  (h : effA P m o s ds H K Kp) (hr : r = none ∨ ∀ c, o.op ≠ .defer c) (hH : HRel S H) (hop : ∀ x ∈ o.op.operands.toList, VRel S (opA s x) (a.eval x)) (hD : DRel S ds a.defers) :
  StepOk r P o S a K Kp := by
 have pure : (∀ c, o.op ≠ .defer c) → pureA P H o.op s (fun p v => p ∧ K v ds H) → StepOk r P o S a K Kp := fun hd h => stepOk_pure hd h hH hop hD
 have back : ∀ {K0 : AV → Hp → Prop}, (∀ v H, K0 v H → K v ds H) → ∀ v ds' H', (K0 v H' ∧ ds' = ds) → K v ds' H' := fun hk v ds' H' ⟨h1, h2⟩ => h2 ▸ hk v H' h1
 cases ho : o.op <;> simp only [effA, ho] at h
 case alloc T => exact (allocA_sound (r := r) (Kp := Kp) ho h hH hD).mono (back fun _ _ h => h) fun _ _ h => h
 case box T x =>
  split at h
  ·exact (boxMutA_sound (r := r) (Kp := Kp) ho h.2 hH ((hop x (by simp [ho, Op.operands])).strip h.1) hD).mono (back fun _ _ h => h) fun _ _ h => h
  ·exact pure (fun c e => by rw [ho] at e; cases e) (by rw [ho]; exact h)
 case store T x y =>
  refine (storeA_sound (r := r) (Kp := Kp) ho h.2.2 hH ((hop x (by simp [ho, Op.operands])).strip h.1) ((hop y (by simp [ho, Op.operands])).strip h.2.1) hD).mono ?_ fun _ _ h => h
  rintro v ds' H' ⟨h1, rfl, rfl⟩; exact h1
 case assign x =>
  split at h
  ·rename_i hm
   simp only [Bool.and_eq_true] at hm
   split at h
   case h_2 => exact h.elim
   case h_1 st b he =>
    have hx : x = .const (.slice none 0 0) := by
     have := hm.2; unfold nilSliceOp at this; split at this <;> simp_all
    subst hx
    exact stepOk_value (S' := S.layNil) (fun c e => by rw [ho] at e; cases e) (by simp only [execOp, ho, Act.eval]; rfl) (S.layNil_le hH) (hH.layNil st _)
     (.slnil (by simp [St.layNil])) hD (h _ (St.next_none hH))
  ·exact pure (fun c e => by rw [ho] at e; cases e) (by rw [ho]; exact h)
 case buildSlice T q ps =>
  split at h
  ·have hr := partsA_rel (S := S) (s := s) (a := a) (l := ps.toList) (fun x hx => hop x (by simpa [ho, Op.operands] using hx)) h.1
   exact (buildMutA_sound (r := r) (Kp := Kp) (K := fun v H' => K v ds H') (vs := ps.map fun (i, x) => (i, a.eval x)) ho rfl h.2 hH (by simpa using hr) hD).mono (back fun _ _ h => h) fun _ _ h => h
  ·exact pure (fun c e => by rw [ho] at e; cases e) (by rw [ho]; exact h)
 case makeSlice T x y =>
  split at h
  ·exact (makeSliceA_sound (r := r) (Kp := Kp) (K := fun v H' => K v ds H') ho h.2.2 hH ((hop x (by simp [ho, Op.operands])).strip h.1) ((hop y (by simp [ho, Op.operands])).strip h.2.1) hD).mono (back fun _ _ h => h) fun _ _ h => h
  ·exact pure (fun c e => by rw [ho] at e; cases e) (by rw [ho]; exact h)
 case slice T x lo hi mx =>
  split at h
  ·split at h
   ·exact (sliceM_sound (r := r) (Kp := Kp) (K := fun v H' => K v ds H') ho h.2.2 hH ((hop x (by simp [ho, Op.operands])).strip h.1) ((hop _ (by simp [ho, Op.operands])).strip h.2.1) hD).mono (back fun _ _ h => h) fun _ _ h => h
   ·exact h.elim
  ·exact pure (fun c e => by rw [ho] at e; cases e) (by rw [ho]; exact h)
 case makeMap T rr =>
  split at h
  ·exact (makeMapA_sound (r := r) (Kp := Kp) (K := fun v H' => K v ds H') ho h hH hD).mono (back fun _ _ h => h) fun _ _ h => h
  ·exact h.elim
 case mapUpdate T x y z =>
  refine (mapUpA_sound (r := r) (Kp := Kp) (K := fun H' => K (.lit undef) ds H') ho h.2.2.2 hH ((hop x (by simp [ho, Op.operands])).strip h.1) ((hop y (by simp [ho, Op.operands])).strip h.2.1) ((hop z (by simp [ho, Op.operands])).strip h.2.2.1) hD).mono ?_ fun _ _ h => h
  rintro v ds' H' ⟨h1, rfl, rfl⟩; exact h1
 case range T x =>
  exact (rangeA_sound (r := r) (Kp := Kp) (K := fun v H' => K v ds H') ho h.2 hH ((hop x (by simp [ho, Op.operands])).strip h.1) hD).mono (back fun _ _ h => h) fun _ _ h => h
 case next x b =>
  exact (nextA_sound (r := r) (Kp := Kp) (K := fun v H' => K v ds H') ho h.2 hH ((hop x (by simp [ho, Op.operands])).strip h.1) hD).mono (back fun _ _ h => h) fun _ _ h => h
 case entry x =>
  exact (entryA_sound (r := r) (Kp := Kp) (K := fun v H' => K v ds H') ho h.2 hH ((hop x (by simp [ho, Op.operands])).strip h.1) hD).mono (back fun _ _ h => h) fun _ _ h => h
 case panic x =>
  obtain ⟨hk, h⟩ := h
  have hx := (hop x (by simp [ho, Op.operands])).strip hk
  unfold panA at h
  split at h
  case h_2 => exact h.elim
  case h_1 t v e =>
   rw [e] at hx
   intro next Q hn hq
   refine ⟨fun _ _ => trivial, ?_⟩
   rw [Oper.semAt_eq _ _ _ (fun c e => by rw [ho] at e; cases e)]
   generalize hcv : a.eval x = cv at hx
   cases hx with
   | @iface _ _ cw hv =>
     have e2 : (execOp a.eval o).run P S.w = .halt (.panic (.iface t cw)) S.w := by simp [execOp, ho, hcv, Instr.panic]
     rw [e2]
     exact hq S _ _ H (Le.refl S) hH (.iface hv) h
 case defer c =>
  rcases hr with rfl | hr
  case inr => exact absurd ho (hr c)
  unfold deferA at h
  split at h
  case h_3 => exact h.elim
  case h_2 x hx0 hc =>
   split at h
   case h_2 => exact h.elim
   case h_1 g us hx =>
   obtain ⟨hk, h⟩ := h
   obtain ⟨callee, args, tys⟩ := c
   simp only at hc
   subst hc
   have ha := stAll_rel (opsA_rel (S := S) (s := s) (a := a) (l := args.toList) (fun x hx => hop x (by simp [ho, Op.operands, Call.operands]; exact .inr (by simpa using hx)))) hk
   have hf := hop x (by simp [ho, Op.operands, Call.operands])
   rw [hx] at hf
   generalize hcv : a.eval x = cv at hf
   cases hf with
   | @func _ _ _ ws vs' h1 h2 h3 h4 =>
   have hws : ws = #[] := by simpa using h1
   subst hws
   intro next Q hn hq
   refine ⟨fun _ _ => trivial, ?_⟩
   have e2 : (o.semAt (FW none).round a.eval).run P S.w = .ok (.defer { target := .fn (.func g) vs', args := args.map a.eval }) S.w := by
    show (execOp a.eval o).run P S.w = _
    simp [execOp, ho, resolve, Deferred.ofValue, hcv]
   rw [e2]
   have hv : VRels S (stAll (opsA s args.toList) ++ us) ((args.map a.eval) ++ vs').toList := by
    refine ⟨by simp [ha.1, h2], fun k hk => ?_⟩
    have e1 := ha.1
    simp only [List.getD, Array.toList_append, Array.toList_map]
    by_cases hk' : k < (stAll (opsA s args.toList)).length
    ·rw [List.getElem?_append_left hk', List.getElem?_append_left (by simpa [e1] using hk')]
     exact ha.2 k hk'
    ·simp only [List.length_append] at hk
     rw [List.getElem?_append_right (by omega), List.getElem?_append_right (by simp at e1 ⊢; omega)]
     have := h4 (k - (stAll (opsA s args.toList)).length) (by omega)
     simp only [List.length_map] at e1 ⊢
     rw [e1]
     simpa [List.getD, Array.getD_eq_getD_getElem?] using this
   exact hn S undef (.lit undef) (.call g (stAll (opsA s args.toList) ++ us) :: ds) ({ target := .fn (.func g) vs', args := args.map a.eval } :: a.defers) H (Le.refl S) hH (.lit _)
    (.call hv hD) h
  case h_1 g hc =>
   obtain ⟨hk, h⟩ := h
   obtain ⟨callee, args, tys⟩ := c
   simp only at hc
   subst hc
   have ha := stAll_rel (opsA_rel (S := S) (s := s) (a := a) (l := args.toList) (fun x hx => hop x (by simp [ho, Op.operands, Call.operands]; exact .inr (by simpa using hx)))) hk
   intro next Q hn hq
   refine ⟨fun _ _ => trivial, ?_⟩
   have e2 : (o.semAt (FW none).round a.eval).run P S.w = .ok (.defer { target := .fn (.func g) #[], args := args.map a.eval }) S.w := by
    show (execOp a.eval o).run P S.w = _
    simp [execOp, ho, resolve, Deferred.ofValue, Act.eval]
   rw [e2]
   have := hn S undef (.lit undef) (.call g (stAll (opsA s args.toList)) :: ds) ({ target := .fn (.func g) #[], args := args.map a.eval } :: a.defers) H (Le.refl S) hH (.lit _)
    (.call (us := #[]) (by simpa using ha) hD) h
   exact this
 case call c =>
  have hd : ∀ c', o.op ≠ .defer c' := fun c' e => by rw [ho] at e; cases e
  split at h
  case h_1 hc =>
   unfold appA at h
   split at h
   case h_2 => exact h.elim
   case h_1 x y T T' e1 e2 =>
    obtain ⟨k1, k2, h⟩ := h
    obtain ⟨callee, args, tys⟩ := c
    simp only at hc e1 e2
    have e1' : args = #[x, y] := by apply Array.ext'; simpa using e1
    have e2' : tys = #[T, T'] := by apply Array.ext'; simpa using e2
    subst hc e1' e2'
    exact (appendA_sound (r := r) (Kp := Kp) ho h hH ((hop x (by simp [ho, Op.operands, Call.operands])).strip k1) ((hop y (by simp [ho, Op.operands, Call.operands])).strip k2) hD).mono (back fun _ _ h => h) fun _ _ h => h
  case h_2 hc =>
   unfold copA at h
   split at h
   case h_2 => exact h.elim
   case h_1 x y T T' e1 e2 =>
    obtain ⟨k1, k2, h⟩ := h
    obtain ⟨callee, args, tys⟩ := c
    simp only at hc e1 e2
    have e1' : args = #[x, y] := by apply Array.ext'; simpa using e1
    have e2' : tys = #[T, T'] := by apply Array.ext'; simpa using e2
    subst hc e1' e2'
    exact (copyA_sound (r := r) (Kp := Kp) ho h hH ((hop x (by simp [ho, Op.operands, Call.operands])).strip k1) ((hop y (by simp [ho, Op.operands, Call.operands])).strip k2) hD).mono (back fun _ _ h => h) fun _ _ h => h
  case h_3 => exact pure hd (by rw [ho]; exact h)
  case h_4 => exact (callA_sound (r := r) (K := fun v H' => K v ds H') (Kp := Kp) ho h hH hop hD).mono (back fun _ _ h => h) fun _ _ h => h
 all_goals exact pure (fun c e => by rw [ho] at e; cases e) (by rw [ho]; exact h)

def guardV (all : List Oper) (s : Fr) (j : Nat) : AV := match all[j]? with
 | some o => match o.dst with
   | some d => s d
   | none => .any
 | none => .any

def want (w b : Bool) : Bool := match w with
 | true => b
 | false => !b

/-- Whether an operation under a guard is wanted. -/
def wantG (g : AV) (w : Bool) : Option Bool := match g with
 | .lit (.bool b) => some (want w b)
 | .under c (.lit (.bool b)) => some (c && want w b)
 | _ => none

def dstOk (n : Nat) : Option Tmp → Prop
 | some d => d < n
 | none => True

def isCall (o : Op) : Bool := match o with
 | .call c => match c.callee with
   | .builtin _ => false
   | _ => true
 | _ => false

def callV (P : Program) (s : Fr) (o : Op) (H : Hp) (v : AV) : Prop := match o with
 | .call c => match c.callee with
   | .value f => (opA s f).ok ∧ okAll (opsA s c.args.toList) ∧ PTri P (opA s f).st (stAll (opsA s c.args.toList)) H v
   | .invoke x name => (opA s x).ok ∧ okAll (opsA s c.args.toList) ∧ PTri P (.func (.method name) [] []) ((opA s x).st :: stAll (opsA s c.args.toList)) H v
   | .builtin _ => False
 | _ => False

def quietOk (o : Op) : Bool := match o with
 | .defer _ => false
 | _ => true

def vcOps (P : Program) (m : Option Tmp → Bool) (n : Nat) (all : List Oper) : List Oper → Fr → List AD → Hp → Post → Prop
 | [], s, ds, H, Q => Q .normal s ds H
 | o :: rest, s, ds, H, Q => dstOk n o.dst ∧ match o.guard with
   | none => effA P m o s ds H (fun v ds' H' => vcOps P m n all rest (put s o.dst v) ds' H' Q) fun v H' => Q (.pan v) s ds H'
   | some (j, w) => match wantG (guardV all s j) w with
     | some g => match isCall o.op with
       | false => pureA P H o.op s fun p v => (g = true → p) ∧ vcOps P m n all rest (put s o.dst (.under g v)) ds H Q
       | true => (∃ v, (g = true → callV P s o.op H v) ∧ vcOps P m n all rest (put s o.dst (.under g v)) ds H Q) ∨
         ((g = true → effA P m o s ds H (fun v ds' H' => vcOps P m n all rest (put s o.dst v) ds' H' Q) fun v H' => Q (.pan v) s ds H') ∧
          (g = false → vcOps P m n all rest (put s o.dst .any) ds H Q))
     | none => False

theorem FRel.put {S : St} {s : Fr} {a : Act} {d : Option Tmp} {v : AV} {cv : Value} {n : Nat} (h : FRel S s a) (hd : dstOk n d) (hn : a.tmps.size = n) (hv : VRel S v cv) (df : List Deferred) :
  FRel S (Go.V.put s d v) ({ a with defers := df }.put d cv) := by
 cases d with
 | none => exact h
 | some d =>
   intro t
   simp only [Go.V.put, Act.put]
   have hd' : d < a.tmps.size := by rw [hn]; exact hd
   by_cases e : t = d
   ·subst e
    rw [if_pos rfl]
    simpa [Array.getD_eq_getD_getElem?, hd'] using hv
   ·rw [if_neg e]
    have := h t
    simpa [Array.getD_eq_getD_getElem?, Array.getElem?_setIfInBounds_ne (show d ≠ t from fun x => e x.symm)] using this

theorem put_size {a : Act} {d : Option Tmp} {cv : Value} {df : List Deferred} : ({ a with defers := df }.put d cv).tmps.size = a.tmps.size := by
 cases d <;> simp [Act.put]
theorem put_defers {a : Act} {d : Option Tmp} {cv : Value} {df : List Deferred} : ({ a with defers := df }.put d cv).defers = df := by
 cases d <;> rfl

theorem wanted_rel {S : St} {s : Fr} {a : Act} {ops : Array Oper} {o : Oper} {j : Nat} {w g : Bool} (hgd : o.guard = some (j, w))
  (hread : ∀ q d, ops.toList[j]? = some q → q.dst = some d → VRel S (s d) (a.tmps.getD d undef)) (h : wantG (guardV ops.toList s j) w = some g) : Region.wanted o (yielded ops a.tmps) = g := by
 unfold guardV at h
 split at h
 case h_2 => cases h
 case h_1 q hq =>
  split at h
  case h_2 => cases h
  case h_1 d hd =>
   have hr := hread q d hq hd
   have e : ops[j]? = some q := by simpa using hq
   have ey : ∀ b, a.tmps.getD d undef = .bool b → yielded ops a.tmps j = some b := fun b hb => by
    simp only [yielded, e, Option.bind_some, hd]
    rw [Array.getD_eq_getD_getElem?] at hb
    cases ht : a.tmps[d]? with
    | none => rw [ht] at hb; cases hb
    | some v => rw [ht] at hb; simp at hb; subst hb; rfl
   have en : a.tmps.getD d undef = undef → yielded ops a.tmps j = none := fun hb => by
    simp only [yielded, e, Option.bind_some, hd]
    rw [Array.getD_eq_getD_getElem?] at hb
    cases ht : a.tmps[d]? with
    | none => rfl
    | some v => rw [ht] at hb; simp at hb; subst hb; rfl
   unfold wantG at h
   split at h
   ·rename_i b hb
    rw [hb] at hr
    cases h
    simp only [Region.wanted, hgd, ey b hr.lit_inv]
    cases w <;> cases b <;> rfl
   ·rename_i c b hb
    rw [hb] at hr
    cases h
    cases hr with
    | under h1 h2 =>
      cases c with
      | true =>
        simp only [Region.wanted, hgd, ey b (h1 rfl).lit_inv]
        cases w <;> cases b <;> rfl
      | false =>
        simp only [Region.wanted, hgd, en (h2 rfl)]
        rfl
   ·cases h

theorem vcOps_sound {r : Option Nat} {P : Program} {m : Option Tmp → Bool} {n : Nat} {ops : Array Oper} {Q : Post} (hr : r = none ∨ ops.toList.all (fun o => quietOk o.op) = true) :
  ∀ (rest : List Oper) (l : List Nat) (s : Fr) (ds : List AD) (H : Hp), (∀ o ∈ rest, o ∈ ops.toList) → l.map (ops[·]?) = rest.map some → vcOps P m n ops.toList rest s ds H Q →
    ∀ S a, a.tmps.size = n → HRel S H → FRel S s a → DRel S ds a.defers → wpOpsIn (FW r) 0 P ops (Lift S n Q) l a S.w
 | [], l, s, ds, H, _, hl, h, S, a, hn, hH, hF, hD => by
   cases l with
   | cons _ _ => simp at hl
   | nil => exact ⟨S, .normal, s, ds, H, rfl, Le.refl S, hH, hF, hD, hn, trivial, h⟩
 | o :: rest, l, s, ds, H, hmem, hl, h, S, a, hn, hH, hF, hD => by
   cases l with
   | nil => simp at hl
   | cons i l =>
     simp only [List.map_cons, List.cons.injEq] at hl
     obtain ⟨ho, hl⟩ := hl
     have ih := vcOps_sound (P := P) (m := m) (n := n) (Q := Q) hr rest l
     have hmem' : ∀ o ∈ rest, o ∈ ops.toList := fun x hx => hmem x (by simp [hx])
     have hq : r = none ∨ ∀ c, o.op ≠ .defer c := hr.imp (fun x => x) fun hall c e => by
      have := List.all_eq_true.1 hall o (hmem o (by simp))
      rw [e] at this; cases this
     have lift : ∀ {S' : St} {a' : Act} {l : List Nat}, Le S S' → wpOpsIn (FW r) 0 P ops (Lift S' n Q) l a' S'.w → wpOpsIn (FW r) 0 P ops (Lift S n Q) l a' S'.w := by
      intro S' a' l hle
      have key : ∀ (l : List Nat) (a' : Act) (w : World), wpOpsIn (FW r) 0 P ops (Lift S' n Q) l a' w → wpOpsIn (FW r) 0 P ops (Lift S n Q) l a' w := by
       intro l
       induction l with
       | nil => intro a' w h; exact Lift.trans hle h
       | cons i l ih =>
         intro a' w h
         simp only [wpOpsIn] at h ⊢
         split
         ·rename_i e; simp only [e] at h; exact ih _ _ h
         ·rename_i o' e
          simp only [e] at h
          split
          ·rename_i hw
           rw [if_pos hw] at h
           refine ⟨h.1, ?_⟩
           have h2 := h.2
           generalize (o'.semAt (FW r).round a'.eval).run P w = res at h2 ⊢
           cases res with
           | ok nx w' =>
             cases nx <;> simp only [Oper.uponIn] at h2 ⊢ <;> try exact ih _ _ h2
             ·exact ⟨h2.1, h2.2.mono fun e w he => by
               cases e with
               | returned v => exact ih _ _ he
               | panicked ch => exact Lift.trans hle he
               | outgrown => obtain ⟨a0, w0, hx⟩ := he; exact ⟨a0, w0, Lift.trans hle hx⟩⟩
             ·exact ⟨h2.1, h2.2.mono fun e w he => by
               cases e with
               | returned v => exact ih _ _ he
               | panicked ch => exact Lift.trans hle he
               | outgrown => obtain ⟨a0, w0, hx⟩ := he; exact ⟨a0, w0, Lift.trans hle hx⟩⟩
             ·exact ⟨h2.1, h2.2.mono fun v w he => ih _ _ he⟩
           | halt x w' => cases x <;> simp only [Oper.uponIn] at h2 ⊢ <;> first | exact Lift.trans hle h2 | exact h2
          ·rename_i hw; rw [if_neg hw] at h; exact ⟨h.1, ih _ _ h.2⟩
      exact key l a' S'.w
     simp only [vcOps] at h
     obtain ⟨hd, h⟩ := h
     simp only [wpOpsIn, ho]
     have step : effA P m o s ds H (fun v ds' H' => vcOps P m n ops.toList rest (put s o.dst v) ds' H' Q) (fun v H' => Q (.pan v) s ds H') → o.wpIn (FW r) 0 P a S.w (wpOpsIn (FW r) 0 P ops (Lift S n Q) l) (Lift S n Q) := by
      intro h
      refine effA_sound h hq hH (fun x _ => opA_rel hF x) hD _ _ ?_ ?_
      ·intro S' cv v ds' df H' hle hH' hv hD' hk
       exact lift hle (ih _ _ _ hmem' hl hk S' _ (by rw [put_size]; exact hn) hH' ((hF.mono hle).put hd hn hv df) (by rw [put_defers]; exact hD'))
      ·intro S' cv v H' hle hH' hv hk
       exact ⟨S', .pan v, s, ds, H', rfl, hle, hH', hF.mono hle, hD.mono hle, hn, ⟨cv, rfl, hv⟩, hk⟩
     have skip : ∀ v, VRel S v undef → vcOps P m n ops.toList rest (put s o.dst v) ds H Q → wpOpsIn (FW r) 0 P ops (Lift S n Q) l (a.put o.dst undef) S.w := by
      intro v hv hk
      have := ih _ _ _ hmem' hl hk S ({ a with defers := a.defers }.put o.dst undef) (by rw [put_size]; exact hn) hH (hF.put hd hn hv a.defers) (by rw [put_defers]; exact hD)
      exact this
     cases hg : o.guard with
     | none =>
       simp only [hg] at h
       simp only [Region.wanted, hg, if_true]
       exact step h
     | some jw =>
       obtain ⟨j, w⟩ := jw
       simp only [hg] at h
       split at h
       case h_2 => exact h.elim
       case h_1 b hb =>
        have hwant : Region.wanted o (yielded ops a.tmps) = b := wanted_rel hg (fun q d _ _ => hF d) hb
        rw [hwant]
        cases hc : isCall o.op with
        | false =>
          simp only [hc] at h
          obtain ⟨p, v, ⟨hp, hk⟩, c⟩ := pureA_sound h hH (fun x _ => opA_rel (a := a) hF x)
          cases hwb : b with
          | false =>
            rw [hwb] at hk
            simp only [Bool.false_eq_true, if_false]
            exact ⟨fun _ _ => trivial, skip _ (.under (fun x => by cases x) fun _ => rfl) hk⟩
          | true =>
            rw [hwb] at hk
            simp only [if_true]
            obtain ⟨cv, S', h1, h2, h3, h4⟩ := c (hp hwb)
            have hnd : ∀ c, o.op ≠ .defer c := fun c e => by rw [e] at h; exact h
            have hs : StepOk r P o S a (fun v ds' H' => vcOps P m n ops.toList rest (put s o.dst v) ds' H' Q) (fun _ _ => False) := stepOk_value hnd h1 h2 h3 (.under (fun _ => h4) fun x => by cases x) hD hk
            refine hs _ _ ?_ (fun _ _ _ _ _ _ _ hf => hf.elim)
            intro S' cv v ds' df H' hle hH' hv hD' hk
            exact lift hle (ih _ _ _ hmem' hl hk S' _ (by rw [put_size]; exact hn) hH' ((hF.mono hle).put hd hn hv df) (by rw [put_defers]; exact hD'))
        | true =>
          simp only [hc] at h
          rcases h with ⟨v, hv, hk⟩ | ⟨h1, h2⟩
          ·cases hwb : b with
           | false =>
             rw [hwb] at hk
             simp only [Bool.false_eq_true, if_false]
             exact ⟨fun _ _ => trivial, skip _ (.under (fun x => by cases x) fun _ => rfl) hk⟩
           | true =>
             rw [hwb] at hk
             simp only [if_true]
             have hcv := hv hwb
             have hA : ∃ c, o.op = .call c ∧ callA P s c H (fun v' H' => v' = v ∧ H' = H) (fun _ _ => False) := by
              unfold callV at hcv
              split at hcv
              case h_2 => exact hcv.elim
              case h_1 c hoc =>
               refine ⟨c, hoc, ?_⟩
               unfold callA
               split at hcv
               ·rename_i f hcc
                (try rw [hcc])
                exact ⟨hcv.1, hcv.2.1, callK_pure hcv.2.2 ⟨rfl, rfl⟩⟩
               ·rename_i f nm hcc
                (try rw [hcc])
                exact ⟨hcv.1, hcv.2.1, callK_pure hcv.2.2 ⟨rfl, rfl⟩⟩
               ·exact hcv.elim
             obtain ⟨c, hoc, hA⟩ := hA
             refine callA_sound (r := r) hoc hA hH (fun x _ => opA_rel (a := a) hF x) hD _ _ ?_ (fun _ _ _ _ _ _ _ hf => hf.elim)
             rintro S' cv v' ds' df H' hle hH' hv' hD' ⟨⟨rfl, rfl⟩, rfl⟩
             exact lift hle (ih _ _ _ hmem' hl hk S' _ (by rw [put_size]; exact hn) hH' ((hF.mono hle).put hd hn (.under (fun _ => hv') fun x => by cases x) df) (by rw [put_defers]; exact hD'))
          ·cases hwb : b with
           | false =>
             simp only [Bool.false_eq_true, if_false]
             exact ⟨fun _ _ => trivial, skip _ (.any _) (h2 hwb)⟩
           | true =>
             simp only [if_true]
             exact step (h1 hwb)

theorem wps_region {r : Option Nat} {P : Program} {m : Option Tmp → Bool} {n id : Nat} {ops : Array Oper} {s : Fr} {ds : List AD} {H : Hp} {Q : Post} (hr : r = none ∨ ops.toList.all (fun o => quietOk o.op) = true)
  (h : vcOps P m n ops.toList ops.toList s ds H Q) : WPS r P n (.region id ops false) s ds H Q := by
 intro S a hn hH hF hD
 refine wpIn_region ?_
 refine vcOps_sound hr ops.toList (List.range ops.size) s ds H (fun _ h => h) ?_ h S a hn hH hF hD
 apply List.ext_getElem
 ·simp
 ·intro i h1 h2
  simp at h1 h2
  simp [h1]

end Go.V
end
section
set_option linter.unusedVariables false
namespace Go.V
set_option linter.unusedSectionVars false
variable [Inhabited GivT]
/-- j stands before k in every order that the region's edges allow. -/
inductive Anc (ops : Array Oper) : Nat → Nat → Prop
 | edge {j k : Nat} {o : Oper} {e : Edge} (ho : ops[k]? = some o) (he : e ∈ o.after) (hb : Region.binds .any e = true) (hj : e.on = j) : Anc ops j k
 | trans {i j k : Nat} (h : Anc ops i j) (h' : Anc ops j k) : Anc ops i k

def maskOf (acc : List Nat) (o : Oper) : Nat := o.after.toList.foldl (fun s e => if Region.binds .any e then s ||| 2 ^ e.on ||| acc.getD e.on 0 else s) 0

def masks : List Oper → List Nat → List Nat
 | [], acc => acc
 | o :: r, acc => masks r (acc ++ [maskOf acc o])

theorem maskOf_spec {ops : Array Oper} {acc : List Nat} {o : Oper} {k : Nat} (ho : ops[k]? = some o) (hacc : ∀ q, q < acc.length → ∀ j, (acc.getD q 0).testBit j = true → Anc ops j q) (j : Nat)
  (h : (maskOf acc o).testBit j = true) : Anc ops j k := by
 have key : ∀ (l : List Edge) (s : Nat), (∀ e ∈ l, e ∈ o.after) → (s.testBit j = true → Anc ops j k) →
   (l.foldl (fun s e => if Region.binds .any e then s ||| 2 ^ e.on ||| acc.getD e.on 0 else s) s).testBit j = true → Anc ops j k := by
  intro l
  induction l with
  | nil => intro s _ hs h; exact hs h
  | cons e l ih =>
    intro s hl hs h
    refine ih _ (fun e he => hl e (by simp [he])) (fun h => ?_) h
    simp only [] at h
    split at h
    ·rename_i hb
     simp only [Nat.testBit_or, Bool.or_eq_true] at h
     have he : Anc ops e.on k := .edge ho (hl e (by simp)) hb rfl
     rcases h with (h | h) | h
     ·exact hs h
     ·rw [Nat.testBit_two_pow] at h
      have : e.on = j := by simpa using h
      exact this ▸ he
     ·by_cases hq : e.on < acc.length
      ·exact (hacc _ hq j h).trans he
      ·rw [List.getD_eq_getElem?_getD, List.getElem?_eq_none (by omega)] at h; simp at h
    ·exact hs h
 exact key o.after.toList 0 (fun e he => by simpa using he) (fun h => by simp at h) h

theorem masks_spec {ops : Array Oper} : ∀ (r : List Oper) (acc : List Nat), (∀ q, acc.length ≤ q → q < acc.length + r.length → ops[q]? = r[q - acc.length]?) →
  (∀ q, q < acc.length → ∀ j, (acc.getD q 0).testBit j = true → Anc ops j q) → ∀ q j, ((masks r acc).getD q 0).testBit j = true → Anc ops j q
 | [], acc, _, hacc, q, j, h => by
   by_cases hq : q < acc.length
   ·exact hacc q hq j h
   ·simp only [masks] at h; rw [List.getD_eq_getElem?_getD, List.getElem?_eq_none (by omega)] at h; simp at h
 | o :: r, acc, hops, hacc, q, j, h => by
   refine masks_spec r (acc ++ [maskOf acc o]) (fun q h1 h2 => ?_) (fun q hq j h => ?_) q j h
   ·simp only [List.length_append, List.length_cons, List.length_nil] at h1 h2
    have := hops q (by omega) (by simp; omega)
    rw [this]
    rw [show q - acc.length = (q - (acc.length + 1)) + 1 by omega]
    simp
   ·simp only [List.length_append, List.length_cons, List.length_nil] at hq
    by_cases hq' : q < acc.length
    ·rw [List.getD_eq_getElem?_getD, List.getElem?_append_left hq', ← List.getD_eq_getElem?_getD] at h
     exact hacc q hq' j h
    ·have e : q = acc.length := by omega
     subst e
     rw [List.getD_eq_getElem?_getD, List.getElem?_append_right (Nat.le_refl _)] at h
     simp at h
     have ho := hops acc.length (Nat.le_refl _) (by simp)
     simp at ho
     exact maskOf_spec ho hacc j h

/-- l is an order of all operations that are not in 'done', each behind what it must follow. -/
structure Topo (ops : Array Oper) (done : Nat → Prop) (l : List Nat) : Prop where
 lt : ∀ i ∈ l, i < ops.size
 nodup : l.Nodup
 apart : ∀ i ∈ l, ¬ done i
 all : ∀ i, i < ops.size → done i ∨ i ∈ l
 edges : ∀ l1 i l2, l = l1 ++ i :: l2 → ∀ o, ops[i]? = some o → ∀ e ∈ o.after, Region.binds .any e = true → done e.on ∨ e.on ∈ l1

theorem Topo.tail {ops : Array Oper} {done : Nat → Prop} {i : Nat} {l : List Nat} (h : Topo ops done (i :: l)) : Topo ops (fun j => done j ∨ j = i) l where
 lt := fun j hj => h.lt j (by simp [hj])
 nodup := (List.nodup_cons.1 h.nodup).2
 apart := fun j hj hd => by
  rcases hd with hd | rfl
  ·exact h.apart j (by simp [hj]) hd
  ·exact (List.nodup_cons.1 h.nodup).1 hj
 all := fun j hj => by
  rcases h.all j hj with hd | hm
  ·exact .inl (.inl hd)
  ·rcases List.mem_cons.1 hm with rfl | hm
   ·exact .inl (.inr rfl)
   ·exact .inr hm
 edges := fun l1 j l2 hl o ho e he hb => by
  rcases h.edges (i :: l1) j l2 (by rw [hl]; rfl) o ho e he hb with hd | hm
  ·exact .inl (.inl hd)
  ·rcases List.mem_cons.1 hm with hm | hm
   ·exact .inl (.inr hm)
   ·exact .inr hm

/-- What must stand before the head has been done, where 'done' is closed. -/
theorem Topo.head {ops : Array Oper} {done : Nat → Prop} {i : Nat} {l : List Nat} (h : Topo ops done (i :: l)) (hc : ∀ j k, done k → Anc ops j k → done j) {j : Nat} (ha : Anc ops j i) : done j := by
 have key : ∀ j k, Anc ops j k → k = i → done j := by
  intro j k hk
  induction hk with
  | edge ho he hb hj =>
    rintro rfl
    subst hj
    rcases h.edges [] _ l rfl _ ho _ he hb with hd | hm
    ·exact hd
    ·simp at hm
  | trans h1 h2 ih1 ih2 =>
    intro e
    exact hc _ _ (ih2 e) h1
 exact key j i ha rfl

theorem Topo.closed {ops : Array Oper} {done : Nat → Prop} {i : Nat} {l : List Nat} (h : Topo ops done (i :: l)) (hc : ∀ j k, done k → Anc ops j k → done j) :
  ∀ j k, (done k ∨ k = i) → Anc ops j k → (done j ∨ j = i) := by
 rintro j k (hk | rfl) ha
 ·exact .inl (hc j k hk ha)
 ·exact .inl (h.head hc ha)

theorem go_topo {ops : Array Oper} (hedge : ∀ k o e, ops[k]? = some o → e ∈ o.after → Region.binds .any e = true → e.on < k) :
  ∀ (fuel t : Nat) (listed : Array Bool), listed.size = ops.size → (fuel = (listed.toList.filter (· == false)).length) →
    Topo ops (fun i => listed.getD i true = true ∧ i < ops.size) (Region.linearise.go .any ops fuel t listed []) := by
 intro fuel
 induction fuel with
 | zero =>
   intro t listed hsz hf
   simp only [Region.linearise.go, List.reverse_nil]
   refine ⟨by simp, by simp, by simp, fun i hi => .inl ⟨?_, hi⟩, fun l1 i l2 h => by simp at h⟩
   have hnil : listed.toList.filter (· == false) = [] := List.eq_nil_of_length_eq_zero hf.symm
   rw [List.filter_eq_nil_iff] at hnil
   have hi' : i < listed.size := by omega
   have := hnil listed[i] (by simp)
   rw [Array.getD_eq_getD_getElem?, Array.getElem?_eq_getElem hi']
   simpa using this
 | succ fuel ih =>
   intro t listed hsz hf
   simp only [Region.linearise.go]
   generalize hrs : ((List.range ops.size).filter fun i => !listed.getD i true && ((ops[i]?).map (·.after.all fun e => !Region.binds .any e || listed.getD e.on false)).getD false) = rs
   -- there is one that is ready
   have hex : rs ≠ [] := by
    have hne : listed.toList.filter (· == false) ≠ [] := by intro e; rw [e] at hf; simp at hf
    obtain ⟨x, hx⟩ := List.exists_mem_of_ne_nil _ hne
    rw [List.mem_filter] at hx
    obtain ⟨i0, hi0, hxi⟩ := List.getElem_of_mem hx.1
    have h0 : ∃ i, i < ops.size ∧ listed.getD i true = false := ⟨i0, by simp at hi0; omega, by
     simp at hi0
     rw [Array.getD_eq_getD_getElem?, Array.getElem?_eq_getElem hi0]
     simp at hxi ⊢; rw [hxi]; simpa using hx.2⟩
    obtain ⟨i, ⟨hi, hl⟩, hmin⟩ := least_of h0
    intro e
    have : i ∈ rs := by
     rw [← hrs, List.mem_filter]
     refine ⟨by simpa using hi, ?_⟩
     rw [hl, Array.getElem?_eq_getElem hi]
     simp only [Bool.not_false, Bool.true_and, Option.map_some, Option.getD_some, Array.all_eq_true', Bool.or_eq_true, Bool.not_eq_true']
     intro e he
     by_cases hb : Region.binds .any e = true
     ·right
      have hlt := hedge i _ e (Array.getElem?_eq_getElem hi) he hb
      cases hq : listed.getD e.on false with
      | true => rfl
      | false =>
        have hq' : e.on < listed.size := by omega
        have : listed.getD e.on true = false := by
         rw [Array.getD_eq_getD_getElem?, Array.getElem?_eq_getElem hq'] at hq ⊢; simpa using hq
        have := hmin e.on ⟨by omega, this⟩
        omega
     ·left; simpa using hb
    rw [e] at this; simp at this
   have hlen : 0 < rs.length := List.length_pos_iff.2 hex
   have hlt := Nat.mod_lt t hlen
   rw [List.getElem?_eq_getElem hlt]
   simp only []
   generalize hi : rs[t % rs.length] = i
   have hmem : i ∈ rs := by rw [← hi]; exact List.getElem_mem hlt
   rw [← hrs, List.mem_filter] at hmem
   simp only [List.mem_range, Bool.and_eq_true, Bool.not_eq_true'] at hmem
   obtain ⟨hio, hil, hie⟩ := hmem
   rw [linearise_go_acc]
   simp only [List.reverse_cons, List.reverse_nil, List.nil_append, List.singleton_append]
   have hi' : i < listed.size := by omega
   have hli : listed[i] = false := by
    rw [Array.getD_eq_getD_getElem?, Array.getElem?_eq_getElem hi'] at hil; simpa using hil
   have hih := ih (t / rs.length) (listed.setIfInBounds i true) (by simpa using hsz) (by
    have : (listed.toList.filter (· == false)).length = ((listed.setIfInBounds i true).toList.filter (· == false)).length + 1 := by
     have e1 : listed.toList = listed.toList.take i ++ false :: listed.toList.drop (i + 1) := by
      have := List.getElem_cons_drop (as := listed.toList) (i := i) (by simpa using hi')
      rw [← List.take_append_drop i listed.toList]
      simp only [List.take_append_drop]
      conv => lhs; rw [← List.take_append_drop i listed.toList]
      congr 1
      rw [← this]; simp [hli]
     have e2 : (listed.setIfInBounds i true).toList = listed.toList.take i ++ true :: listed.toList.drop (i + 1) := by
      rw [Array.toList_setIfInBounds, List.set_eq_take_append_cons_drop]; simp [hi']
     rw [e2]
     conv => lhs; rw [e1]
     simp [List.filter_append]; omega
    omega)
   have hdone : ∀ j, ((listed.setIfInBounds i true).getD j true = true ∧ j < ops.size) ↔ ((listed.getD j true = true ∧ j < ops.size) ∨ j = i) := by
    intro j
    by_cases e : j = i
    ·subst e; simp [Array.getD_eq_getD_getElem?, hi', hio]
    ·simp [Array.getD_eq_getD_getElem?, Array.getElem?_setIfInBounds_ne (show i ≠ j from fun x => e x.symm), e]
   refine ⟨?_, ?_, ?_, ?_, ?_⟩
   ·intro j hj
    rcases List.mem_cons.1 hj with rfl | hj
    ·exact hio
    ·exact hih.lt j hj
   ·refine List.nodup_cons.2 ⟨fun hm => hih.apart i hm ((hdone i).2 (.inr rfl)), hih.nodup⟩
   ·intro j hj hd
    rcases List.mem_cons.1 hj with rfl | hj
    ·rw [hil] at hd; exact absurd hd.1 (by simp)
    ·exact hih.apart j hj ((hdone j).2 (.inl hd))
   ·intro j hj
    rcases hih.all j hj with hd | hm
    ·rcases (hdone j).1 hd with hd | rfl
     ·exact .inl hd
     ·exact .inr (by simp)
    ·exact .inr (by simp [hm])
   ·intro l1 j l2 hl o ho e he hb
    cases l1 with
    | nil =>
      simp only [List.nil_append, List.cons.injEq] at hl
      obtain ⟨rfl, _⟩ := hl
      rw [ho] at hie
      simp only [Option.map_some, Option.getD_some, Array.all_eq_true', Bool.or_eq_true, Bool.not_eq_true'] at hie
      rcases hie e he with hx | hx
      ·rw [hx] at hb; cases hb
      ·have hlt := hedge i o e ho he hb
       refine .inl ⟨?_, by omega⟩
       have : e.on < listed.size := by omega
       rw [Array.getD_eq_getD_getElem?, Array.getElem?_eq_getElem this] at hx ⊢
       simpa using hx
    | cons q l1 =>
      simp only [List.cons_append, List.cons.injEq] at hl
      obtain ⟨rfl, hl⟩ := hl
      rcases hih.edges l1 j l2 hl o ho e he hb with hd | hm
      ·rcases (hdone _).1 hd with hd | h
       ·exact .inl hd
       ·exact .inr (by simp [h])
      ·exact .inr (by simp [hm])

theorem linearise_topo {ops : Array Oper} (hedge : ∀ k o e, ops[k]? = some o → e ∈ o.after → Region.binds .any e = true → e.on < k) (t : Nat) :
  Topo ops (fun _ => False) (Region.linearise .any ops t) := by
 have h := go_topo hedge ops.size t (Array.replicate ops.size false) (by simp) (by simp)
 have e : (fun i => (Array.replicate ops.size false).getD i true = true ∧ i < ops.size) = fun _ => False := by
  funext i
  simp only [eq_iff_iff, iff_false, not_and]
  intro hi hlt
  simp [Array.getD_eq_getD_getElem?, hlt] at hi
 rw [e] at h
 exact h

end Go.V
end
section
set_option linter.unusedVariables false
namespace Go.V
set_option linter.unusedSectionVars false
variable [Inhabited GivT]
/-- The slots that an operation reads. -/
def readsOf (all : List Oper) (o : Oper) : List Tmp :=
 (o.op.operands.toList.filterMap fun | .tmp t => some t | _ => none) ++
 (match o.guard with
  | some (j, _) => match all[j]? with
    | some q => q.dst.toList
    | none => []
  | none => [])

/-- Quiet operations, from a frame on: the frame behind them. -/
def vcQ (P : Program) (n : Nat) (all : List Oper) (H : Hp) : List Oper → Fr → (Fr → Prop) → Prop
 | [], s, K => K s
 | o :: rest, s, K => dstOk n o.dst ∧ match o.guard with
   | none => match isCall o.op with
     | false => pureA P H o.op s fun p v => p ∧ vcQ P n all H rest (put s o.dst v) K
     | true => ∃ v, callV P s o.op H v ∧ vcQ P n all H rest (put s o.dst v) K
   | some (j, w) => match wantG (guardV all s j) w with
     | some g => match isCall o.op with
       | false => pureA P H o.op s fun p v => (g = true → p) ∧ vcQ P n all H rest (put s o.dst (.under g v)) K
       | true => ∃ v, (g = true → callV P s o.op H v) ∧ vcQ P n all H rest (put s o.dst (.under g v)) K
     | none => False

/-- An operation, where its operands are related, gives v and leaves the abstract heap as it is. -/
def QExec (r : Option Nat) (P : Program) (H : Hp) (o : Oper) (s : Fr) (v : AV) : Prop :=
 ∀ S a (next : Act → World → Prop) (Q : Exit → Act → World → Prop), HRel S H → (∀ x ∈ o.op.operands.toList, VRel S (opA s x) (a.eval x)) →
   (∀ S' cv, Le S S' → HRel S' H → VRel S' v cv → next (a.put o.dst cv) S'.w) → o.wpIn (FW r) 0 P a S.w next Q

def QFact (r : Option Nat) (P : Program) (n : Nat) (all : List Oper) (H : Hp) (s : Fr) (o : Oper) : Prop := dstOk n o.dst ∧ ∃ v, (∀ d, o.dst = some d → s d = v) ∧ match o.guard with
 | none => QExec r P H o s v
 | some (j, w) => ∃ b v0, wantG (guardV all s j) w = some b ∧ v = .under b v0 ∧ (b = true → QExec r P H o s v0)

/-- No operation writes a slot that one at or before its place reads or writes. -/
def ssaB (all : List Oper) : List Oper → Bool
 | [] => true
 | o :: rest => (o :: rest).all (fun q => q.dst.toList.all fun d => !(readsOf all o).contains d) && rest.all (fun q => q.dst.toList.all fun d => o.dst != some d) && ssaB all rest

theorem opA_congr {s s' : Fr} {x : Operand} (h : ∀ t, x = .tmp t → s t = s' t) : opA s x = opA s' x := by
 cases x with
 | tmp t => exact h t rfl
 | _ => rfl

theorem QExec.congr {r : Option Nat} {P : Program} {H : Hp} {o : Oper} {s s' : Fr} {v : AV} (h : QExec r P H o s v) (hs : ∀ t, (Operand.tmp t) ∈ o.op.operands.toList → s t = s' t) : QExec r P H o s' v := by
 intro S a next Q hH hop hn
 refine h S a next Q hH (fun x hx => ?_) hn
 rw [opA_congr (s := s) (s' := s') (fun t e => hs t (e ▸ hx))]
 exact hop x hx

theorem quiet_all {r : Option Nat} {P : Program} {H : Hp} {o : Oper} {s : Fr} {K : Prop → AV → Prop} (h : pureA P H o.op s K) : ∃ p v, K p v ∧ (p → QExec r P H o s v) := by
 obtain ⟨p, v, k, c⟩ := pureA_all h
 refine ⟨p, v, k, fun hp S a next Q hH hop hn => ?_⟩
 obtain ⟨cv, S', h1, h2, h3, h4⟩ := c hp S a hH hop
 refine ⟨fun _ _ => trivial, ?_⟩
 rw [Oper.semAt_eq _ _ _ (fun c e => by rw [e] at h; exact h), h1]
 exact hn S' cv h2 h3 h4

theorem callV_callA {P : Program} {s : Fr} {o : Op} {H : Hp} {v : AV} (hcv : callV P s o H v) : ∃ c, o = .call c ∧ callA P s c H (fun v' H' => v' = v ∧ H' = H) (fun _ _ => False) := by
 unfold callV at hcv
 split at hcv
 case h_2 => exact hcv.elim
 case h_1 c =>
  refine ⟨c, rfl, ?_⟩
  unfold callA
  split at hcv
  ·rename_i f hcc
   (try rw [hcc])
   exact ⟨hcv.1, hcv.2.1, callK_pure hcv.2.2 ⟨rfl, rfl⟩⟩
  ·rename_i f nm hcc
   (try rw [hcc])
   exact ⟨hcv.1, hcv.2.1, callK_pure hcv.2.2 ⟨rfl, rfl⟩⟩
  ·exact hcv.elim

theorem call_exec {r : Option Nat} {P : Program} {H : Hp} {o : Oper} {s : Fr} {v : AV} (h : callV P s o.op H v) : QExec r P H o s v := by
 intro S a next Q hH hop hn
 obtain ⟨c, hoc, hA⟩ := callV_callA h
 exact callA_raw (r := r) hoc hA hH hop next Q (fun S' cv v' H' hle hH' hv' ⟨e1, e2⟩ => by subst e1 e2; exact hn S' cv hle hH' hv') (fun _ _ _ _ _ _ _ hf => hf.elim)

theorem guardV_congr {all : List Oper} {s s' : Fr} {j : Nat} (h : ∀ o d, all[j]? = some o → o.dst = some d → s d = s' d) : guardV all s j = guardV all s' j := by
 unfold guardV
 cases ho : all[j]? with
 | none => rfl
 | some o =>
   simp only []
   cases hd : o.dst with
   | none => rfl
   | some d => exact h o d ho hd

theorem mem_reads_op {all : List Oper} {o : Oper} {t : Tmp} (h : (Operand.tmp t) ∈ o.op.operands.toList) : t ∈ readsOf all o := by
 unfold readsOf
 refine List.mem_append.2 (.inl (List.mem_filterMap.2 ⟨_, h, rfl⟩))
theorem mem_reads_guard {all : List Oper} {o q : Oper} {t : Tmp} {j : Nat} {w : Bool} (hg : o.guard = some (j, w)) (hq : all[j]? = some q) (hd : q.dst = some t) : t ∈ readsOf all o := by
 unfold readsOf
 refine List.mem_append.2 (.inr ?_)
 simp [hg, hq, hd]

/-- What quiet operations give, told of the frame behind them all. -/
theorem vcQ_facts {r : Option Nat} {P : Program} {n : Nat} {all : List Oper} {H : Hp} (rd : Oper → List Tmp) (hrd : ∀ o, rd o = readsOf all o) :
  ∀ (q : List Oper) (s : Fr) (K : Fr → Prop),
    (∀ (i : Nat) (o : Oper), q[i]? = some o → ∀ (k : Nat) (o' : Oper), i ≤ k → q[k]? = some o' → ∀ d, o'.dst = some d → d ∉ rd o ∧ (i < k → o.dst ≠ some d)) →
    vcQ P n all H q s K → ∃ sF, K sF ∧ (∀ t, (∀ o ∈ q, o.dst ≠ some t) → sF t = s t) ∧ ∀ o ∈ q, QFact r P n all H sF o
 | [], s, K, _, h => ⟨s, h, fun _ _ => rfl, fun o ho => absurd ho (by simp)⟩
 | o :: q, s, K, hssa, h => by
   have hssa' : ∀ (i : Nat) (o : Oper), q[i]? = some o → ∀ (k : Nat) (o' : Oper), i ≤ k → q[k]? = some o' → ∀ d, o'.dst = some d → d ∉ rd o ∧ (i < k → o.dst ≠ some d) := by
    intro i o1 ho1 k o' hk ho' d hd
    have := hssa (i + 1) o1 (by simpa using ho1) (k + 1) o' (by omega) (by simpa using ho') d hd
    exact ⟨this.1, fun h => this.2 (by omega)⟩
   simp only [vcQ] at h
   obtain ⟨hd, h⟩ := h
   -- what o reads is not written from o on; what o writes is not written behind
   have hr0 : ∀ o' ∈ o :: q, ∀ d, o'.dst = some d → d ∉ readsOf all o := by
    intro o' ho' d hd'
    obtain ⟨k, hk⟩ := List.getElem?_of_mem ho'
    rw [← hrd]
    exact (hssa 0 o (by simp) k o' (by omega) hk d hd').1
   have hw0 : ∀ o' ∈ q, ∀ d, o'.dst = some d → o.dst ≠ some d := by
    intro o' ho' d hd'
    obtain ⟨k, hk⟩ := List.getElem?_of_mem ho'
    exact (hssa 0 o (by simp) (k + 1) o' (by omega) (by simpa using hk) d hd').2 (by omega)
   -- the frame behind agrees with the one ahead on all that o reads
   have fin : ∀ (v : AV), vcQ P n all H q (put s o.dst v) K → (∀ (sF : Fr), (∀ t, t ∈ readsOf all o → sF t = s t) → (∀ d, o.dst = some d → sF d = v) → QFact r P n all H sF o) →
     ∃ sF, K sF ∧ (∀ t, (∀ o' : Oper, o' ∈ o :: q → o'.dst ≠ some t) → sF t = s t) ∧ ∀ o' ∈ o :: q, QFact r P n all H sF o' := by
    intro v hq hf
    obtain ⟨sF, k1, k2, k3⟩ := vcQ_facts (r := r) rd hrd q (put s o.dst v) K hssa' hq
    have hsame : ∀ t, (∀ o' : Oper, o' ∈ o :: q → o'.dst ≠ some t) → sF t = s t := by
     intro t ht
     rw [k2 t (fun (o' : Oper) ho' => ht o' (by simp [ho']))]
     have := ht o (by simp)
     cases hod : o.dst with
     | none => rfl
     | some d => simp only [put]; rw [if_neg]; intro e; exact this (by rw [hod, e])
    refine ⟨sF, k1, hsame, fun o' ho' => ?_⟩
    rcases List.mem_cons.1 ho' with rfl | ho'
    ·refine hf sF (fun t ht => hsame t fun (o2 : Oper) ho2 e => hr0 o2 ho2 t e ht) (fun d hd' => ?_)
     rw [k2 d (fun o2 ho2 e => hw0 o2 ho2 d e hd')]
     simp [put, hd']
    ·exact k3 o' ho'
   have ops : ∀ {sF : Fr}, (∀ t, t ∈ readsOf all o → sF t = s t) → ∀ t, (Operand.tmp t) ∈ o.op.operands.toList → s t = sF t := fun h t ht => (h t (mem_reads_op ht)).symm
   cases hg : o.guard with
   | none =>
     simp only [hg] at h
     cases hc : isCall o.op with
     | false =>
       simp only [hc] at h
       obtain ⟨p, v, ⟨hp, hq⟩, c⟩ := quiet_all (r := r) h
       exact fin v hq fun sF h1 h2 => ⟨hd, v, h2, by rw [hg]; exact (c hp).congr (ops h1)⟩
     | true =>
       simp only [hc] at h
       obtain ⟨v, hv, hq⟩ := h
       exact fin v hq fun sF h1 h2 => ⟨hd, v, h2, by rw [hg]; exact (call_exec hv).congr (ops h1)⟩
   | some jw =>
     obtain ⟨j, w⟩ := jw
     simp only [hg] at h
     split at h
     case h_2 => exact h.elim
     case h_1 b hb =>
      have hgd : ∀ {sF : Fr}, (∀ t, t ∈ readsOf all o → sF t = s t) → wantG (guardV all sF j) w = some b := fun h => by
       rw [guardV_congr (s' := s) fun q' d hq' hd' => h d (mem_reads_guard hg hq' hd')]; exact hb
      cases hc : isCall o.op with
      | false =>
        simp only [hc] at h
        obtain ⟨p, v, ⟨hp, hq⟩, c⟩ := quiet_all (r := r) h
        exact fin _ hq fun sF h1 h2 => ⟨hd, _, h2, by rw [hg]; exact ⟨b, v, hgd h1, rfl, fun hw => (c (hp hw)).congr (ops h1)⟩⟩
      | true =>
        simp only [hc] at h
        obtain ⟨v, hv, hq⟩ := h
        exact fin _ hq fun sF h1 h2 => ⟨hd, _, h2, by rw [hg]; exact ⟨b, v, hgd h1, rfl, fun hw => (call_exec (hv hw)).congr (ops h1)⟩⟩

theorem topo_tail {ops : Array Oper} : ∀ (l : List Nat) (p : Nat) (done : Nat → Prop), Topo ops done l → (∀ j k, done k → Anc ops j k → done j) → (∀ j, j < p → done j) → (∀ k, p ≤ k → ¬ done k) →
  (∀ k, p ≤ k → k < ops.size → ∀ j, j < k → Anc ops j k) → l = List.range' p (ops.size - p)
 | [], p, done, h, _, _, hn, _ => by
   have : ops.size - p = 0 := by
    rcases Nat.lt_or_ge p ops.size with hp | hp
    ·rcases h.all p hp with hd | hm
     ·exact absurd hd (hn p (Nat.le_refl _))
     ·simp at hm
    ·omega
   rw [this]; rfl
 | i :: l, p, done, h, hc, hd, hn, ha => by
   have hi := h.lt i (by simp)
   have hge : p ≤ i := by
    rcases Nat.lt_or_ge i p with hlt | hge
    ·exact absurd (hd i hlt) (h.apart i (by simp))
    ·exact hge
   have he : i = p := by
    rcases Nat.lt_or_ge p i with hlt | hle
    ·exact absurd (h.head hc (ha i hge hi p hlt)) (hn p (Nat.le_refl _))
    ·omega
   subst he
   have ih := topo_tail l (i + 1) (fun j => done j ∨ j = i) h.tail (h.closed hc) (fun j hj => by
    by_cases e : j = i
    ·exact .inr e
    ·exact .inl (hd j (by omega))) (fun k hk hx => by
    rcases hx with hx | hx
    ·exact hn k (by omega) hx
    ·omega) (fun k hk => ha k (by omega))
   rw [ih, show ops.size - i = (ops.size - (i + 1)) + 1 by omega]
   rfl

def drawOk (P : Program) (ops : Array Oper) (m : Nat) : Bool :=
 (P.follows .mixedOrders || !Region.departs ops) &&
 ((List.range ops.size).all fun k => match ops[k]? with
   | some o => o.after.toList.all fun e => !Region.binds .any e || decide (e.on < k)
   | none => true) &&
 ((List.range m).all fun i => match ops[i]? with
   | some o => ((List.range m).all fun k => match ops[k]? with
     | some o' => match o'.dst with
       | some d => (if i ≤ k then !(readsOf ops.toList o).contains d else !(readsOf ops.toList o).contains d || ((masks ops.toList []).getD i 0).testBit k) && (decide (k ≤ i) || decide (o.dst ≠ some d))
       | none => true
     | none => true)
   | none => true) &&
 ((List.range ops.size).all fun k => decide (k < m) || (List.range k).all fun j => ((masks ops.toList []).getD k 0).testBit j)

/-- The frame part way through a region. -/
def PFrame (S : St) (ops : Array Oper) (m : Nat) (done : Nat → Prop) (sF : Fr) (a : Act) : Prop :=
 ∀ t, (∃ k o, k < m ∧ ¬ done k ∧ ops[k]? = some o ∧ o.dst = some t) ∨ VRel S (sF t) (a.tmps.getD t undef)

theorem lift_wpOpsIn {r : Option Nat} {P : Program} {n : Nat} {Q : Post} {ops : Array Oper} {S S' : St} (hle : Le S S') : ∀ (l : List Nat) (a : Act) (w : World), wpOpsIn (FW r) 0 P ops (Lift S' n Q) l a w → wpOpsIn (FW r) 0 P ops (Lift S n Q) l a w := by
 intro l
 induction l with
 | nil => intro a' w h; exact Lift.trans hle h
 | cons i l ih =>
   intro a' w h
   simp only [wpOpsIn] at h ⊢
   split
   ·rename_i e; simp only [e] at h; exact ih _ _ h
   ·rename_i o' e
    simp only [e] at h
    split
    ·rename_i hw
     rw [if_pos hw] at h
     refine ⟨h.1, ?_⟩
     have h2 := h.2
     generalize (o'.semAt (FW r).round a'.eval).run P w = res at h2 ⊢
     cases res with
     | ok nx w' =>
       cases nx <;> simp only [Oper.uponIn] at h2 ⊢ <;> try exact ih _ _ h2
       ·exact ⟨h2.1, h2.2.mono fun e w he => by
         cases e with
         | returned v => exact ih _ _ he
         | panicked ch => exact Lift.trans hle he
         | outgrown => obtain ⟨a0, w0, hx⟩ := he; exact ⟨a0, w0, Lift.trans hle hx⟩⟩
       ·exact ⟨h2.1, h2.2.mono fun e w he => by
         cases e with
         | returned v => exact ih _ _ he
         | panicked ch => exact Lift.trans hle he
         | outgrown => obtain ⟨a0, w0, hx⟩ := he; exact ⟨a0, w0, Lift.trans hle hx⟩⟩
       ·exact ⟨h2.1, h2.2.mono fun v w he => ih _ _ he⟩
     | halt x w' => cases x <;> simp only [Oper.uponIn] at h2 ⊢ <;> first | exact Lift.trans hle h2 | exact h2
    ·rename_i hw; rw [if_neg hw] at h; exact ⟨h.1, ih _ _ h.2⟩

theorem draw_run {r : Option Nat} {P : Program} {mm : Option Tmp → Bool} {n m : Nat} {ops : Array Oper} {Q : Post} {sF : Fr} {ds : List AD} {H : Hp} (hr : r = none ∨ ops.toList.all (fun o => quietOk o.op) = true)
  (hanc : ∀ q j, ((masks ops.toList []).getD q 0).testBit j = true → Anc ops j q)
  (hok : ∀ i o, i < m → ops[i]? = some o → ∀ k o', k < m → ops[k]? = some o' → ∀ d, o'.dst = some d →
   (i ≤ k → d ∉ readsOf ops.toList o) ∧ (k < i → d ∈ readsOf ops.toList o → Anc ops k i) ∧ (i < k → o.dst ≠ some d))
  (htl : ∀ k, m ≤ k → k < ops.size → ∀ j, j < k → Anc ops j k)
  (hfact : ∀ i o, i < m → ops[i]? = some o → QFact r P n ops.toList H sF o)
  (htail : vcOps P mm n ops.toList (ops.toList.drop m) sF ds H Q) :
  ∀ (l : List Nat) (done : Nat → Prop) (S : St) (a : Act), Topo ops done l → (∀ j k, done k → Anc ops j k → done j) → (∀ k, m ≤ k → ¬ done k) → a.tmps.size = n → HRel S H → DRel S ds a.defers →
    PFrame S ops m done sF a → wpOpsIn (FW r) 0 P ops (Lift S n Q) l a S.w := by
 intro l
 induction l with
 | nil =>
   intro done S a ht hc hn hsz hH hD hP
   have hm : ops.size ≤ m := by
    rcases Nat.lt_or_ge m ops.size with hlt | hge
    ·rcases ht.all m hlt with hd | hm
     ·exact absurd hd (hn m (Nat.le_refl _))
     ·simp at hm
    ·exact hge
   have hF : FRel S sF a := fun t => by
    rcases hP t with ⟨k, o, hk, hnd, ho, _⟩ | h
    ·have : k < ops.size := (Array.getElem?_eq_some_iff.1 ho).1
     rcases ht.all k this with hd | hm
     ·exact absurd hd hnd
     ·simp at hm
    ·exact h
   rw [List.drop_eq_nil_of_le (by simpa using hm)] at htail
   exact ⟨S, .normal, sF, ds, H, rfl, Le.refl S, hH, hF, hD, hsz, trivial, htail⟩
 | cons i l ih =>
   intro done S a ht hc hn hsz hH hD hP
   have hi := ht.lt i (by simp)
   rcases Nat.lt_or_ge i m with him | him
   ·-- a quiet operation
    have ho : ops[i]? = some ops[i] := Array.getElem?_eq_getElem hi
    generalize ops[i] = o at ho
    -- what it reads is there
    have hread : ∀ t, t ∈ readsOf ops.toList o → VRel S (sF t) (a.tmps.getD t undef) := by
     intro t htr
     rcases hP t with ⟨k, o', hk, hnd, ho', hd⟩ | h
     ·exfalso
      obtain ⟨g1, g2, g3⟩ := hok i o him ho k o' hk ho' t hd
      rcases Nat.lt_or_ge k i with hlt | hge
      ·exact hnd (ht.head hc (g2 hlt htr))
      ·exact g1 hge htr
     ·exact h
    have hops : ∀ x ∈ o.op.operands.toList, VRel S (opA sF x) (a.eval x) := by
     intro x hx
     cases x with
     | tmp t => exact hread t (mem_reads_op hx)
     | const v => exact .lit v
     | global g => exact .any _
     | func f => exact .func rfl rfl (fun k hk => absurd hk (by simp)) (fun k hk => absurd hk (by simp))
    obtain ⟨hd, v, hv, hg⟩ := hfact i o him ho
    have ih' : ∀ (S' : St) (cv : Value), Le S S' → HRel S' H → VRel S' v cv → wpOpsIn (FW r) 0 P ops (Lift S n Q) l (a.put o.dst cv) S'.w := by
     intro S' cv hle hH' hvr
     refine lift_wpOpsIn hle l _ _ (ih (fun j => done j ∨ j = i) S' _ ht.tail (ht.closed hc) (fun k hk hx => ?_) ?_ hH' ?_ ?_)
     ·rcases hx with hx | hx
      ·exact hn k hk hx
      ·omega
     ·have := put_size (a := a) (d := o.dst) (cv := cv) (df := a.defers)
      exact this.trans hsz
     ·have := put_defers (a := a) (d := o.dst) (cv := cv) (df := a.defers)
      have e : (a.put o.dst cv).defers = a.defers := this
      rw [e]; exact hD.mono hle
     ·intro t
      by_cases hdt : o.dst = some t
      ·right
       rw [hv t hdt]
       have ht' : t < a.tmps.size := by rw [hsz]; rw [hdt] at hd; exact hd
       rw [hdt]
       simpa [Act.put, Array.getD_eq_getD_getElem?, ht'] using hvr
      ·rcases hP t with ⟨k, o', hk, hnd, ho', hd'⟩ | h
       ·left
        refine ⟨k, o', hk, ?_, ho', hd'⟩
        rintro (hx | rfl)
        ·exact hnd hx
        ·rw [ho] at ho'; cases ho'; exact hdt hd'
       ·right
        have := h.mono hle
        cases hod : o.dst with
        | none => simpa [Act.put] using this
        | some d =>
          have : d ≠ t := fun e => hdt (by rw [hod, e])
          simpa [Act.put, Array.getD_eq_getD_getElem?, Array.getElem?_setIfInBounds_ne this] using h.mono hle
    simp only [wpOpsIn, ho]
    cases hgd : o.guard with
    | none =>
      rw [hgd] at hg
      simp only [Region.wanted, hgd, if_true]
      exact hg S a _ _ hH hops ih'
    | some jw =>
      obtain ⟨j, w⟩ := jw
      rw [hgd] at hg
      obtain ⟨b, v0, hb, rfl, hex⟩ := hg
      have hwant : Region.wanted o (yielded ops a.tmps) = b := wanted_rel hgd (fun q d hq hd' => hread d (mem_reads_guard hgd hq hd')) hb
      rw [hwant]
      cases hwb : b with
      | false =>
        simp only [Bool.false_eq_true, if_false]
        exact ⟨fun _ _ => trivial, ih' S undef (Le.refl S) hH (.under (fun x => by rw [hwb] at x; cases x) fun _ => rfl)⟩
      | true =>
        simp only [if_true]
        exact hex hwb S a _ _ hH hops fun S' cv hle hH' hvr => ih' S' cv hle hH' (.under (fun _ => hvr) fun x => by rw [hwb] at x; cases x)
   ·-- the tail begins
    have hall : ∀ j, j < m → done j := fun j hj => ht.head hc (htl i him hi j (by omega))
    have hF : FRel S sF a := fun t => by
     rcases hP t with ⟨k, o, hk, hnd, _, _⟩ | h
     ·exact absurd (hall k hk) hnd
     ·exact h
    have e := topo_tail (i :: l) m done ht hc hall hn htl
    rw [e]
    refine vcOps_sound hr (ops.toList.drop m) _ sF ds H (fun o ho => List.mem_of_mem_drop ho) ?_ htail S a hsz hH hF hD
    apply List.ext_getElem
    ·simp
    ·intro q h1 h2
     simp at h1 h2
     simp [show m + q < ops.size by omega]

theorem wps_draw {r : Option Nat} {P : Program} {mm : Option Tmp → Bool} {n id : Nat} {ops : Array Oper} {s : Fr} {ds : List AD} {H : Hp} {Q : Post} (m : Nat) (hr : r = none ∨ ops.toList.all (fun o => quietOk o.op) = true)
  (hok : drawOk P ops m = true) (h : vcQ P n ops.toList H (ops.toList.take m) s fun sF => vcOps P mm n ops.toList (ops.toList.drop m) sF ds H Q) : WPS r P n (.region id ops true) s ds H Q := by
 simp only [drawOk, Bool.and_eq_true, List.all_eq_true, List.mem_range] at hok
 obtain ⟨⟨⟨h1, h2⟩, h3⟩, h4⟩ := hok
 have hedge : ∀ k o e, ops[k]? = some o → e ∈ o.after → Region.binds .any e = true → e.on < k := by
  intro k o e ho he hb
  have hk : k < ops.size := (Array.getElem?_eq_some_iff.1 ho).1
  have := h2 k hk
  rw [ho] at this
  simp only [List.all_eq_true, Bool.or_eq_true, Bool.not_eq_true', decide_eq_true_eq] at this
  rcases this e (by simpa using he) with hx | hx
  ·rw [hb] at hx; cases hx
  ·exact hx
 have hanc : ∀ q j, ((masks ops.toList []).getD q 0).testBit j = true → Anc ops j q := fun q j hq =>
  masks_spec ops.toList [] (fun q h1 h2 => by simp) (fun q hq => absurd hq (by simp)) q j hq
 have hok : ∀ i o, i < m → ops[i]? = some o → ∀ k o', k < m → ops[k]? = some o' → ∀ d, o'.dst = some d →
   (i ≤ k → d ∉ readsOf ops.toList o) ∧ (k < i → d ∈ readsOf ops.toList o → Anc ops k i) ∧ (i < k → o.dst ≠ some d) := by
  intro i o hi ho k o' hk ho' d hd
  have := h3 i hi
  rw [ho] at this
  simp only [List.all_eq_true, List.mem_range] at this
  have := this k hk
  rw [ho'] at this
  simp only [hd, Bool.and_eq_true, Bool.or_eq_true, decide_eq_true_eq] at this
  obtain ⟨g1, g2⟩ := this
  refine ⟨fun hle hm => ?_, fun hlt hm => ?_, fun hlt => ?_⟩
  ·rw [if_pos hle] at g1
   simp [hm] at g1
  ·rw [if_neg (by omega)] at g1
   simp [hm] at g1
   exact hanc i k (by simpa using g1)
  ·rcases g2 with g2 | g2
   ·omega
   ·exact g2
 have htl : ∀ k, m ≤ k → k < ops.size → ∀ j, j < k → Anc ops j k := by
  intro k hk hks j hj
  have := h4 k hks
  simp only [Bool.or_eq_true, decide_eq_true_eq, List.all_eq_true, List.mem_range] at this
  rcases this with hx | hx
  ·omega
  ·exact hanc k j (hx j hj)
 obtain ⟨sF, k1, k2, k3⟩ := vcQ_facts (r := r) (readsOf ops.toList) (fun _ => rfl) (ops.toList.take m) s _ (by
  intro i o ho k o' hik ho' d hd
  have hi : i < m := by
   have := (List.getElem?_eq_some_iff.1 ho).1; simp at this; omega
  have hk : k < m := by
   have := (List.getElem?_eq_some_iff.1 ho').1; simp at this; omega
  rw [List.getElem?_take_of_lt hi] at ho
  rw [List.getElem?_take_of_lt hk] at ho'
  have := hok i o hi (by simpa using ho) k o' hk (by simpa using ho') d hd
  exact ⟨this.1 hik, this.2.2⟩) h
 intro S a hn hH hF hD
 refine wpIn_region_draw fun t => ?_
 have hsch : Region.schedule (P.follows .mixedOrders) ops t = Region.linearise .any ops t := by
  unfold Region.schedule
  rw [if_pos h1]
 rw [hsch]
 have hle : Le S { S with w := { S.w with drawn := S.w.drawn + 1 } } :=
  ⟨rfl, rfl, rfl, Nat.le_refl _, fun _ h => h, fun _ _ => rfl, fun _ _ _ => rfl, Nat.le_refl _, fun _ c _ _ h => ⟨c, h, rfl⟩⟩
 have hH' : HRel { S with w := { S.w with drawn := S.w.drawn + 1 } } H :=
  ⟨hH.fresh, hH.immlt, fun i o ho => (hH.obj i o ho).keep hle (fun _ => rfl) (fun _ _ => rfl) (fun _ _ _ h => h), hH.inj, fun p hp => (hH.giv p hp).mono hle⟩
 refine lift_wpOpsIn hle _ _ _ (draw_run hr hanc hok htl (fun i o hi ho => k3 o ?_) k1 (Region.linearise .any ops t) (fun _ => False) _ a (linearise_topo hedge t) (fun _ _ h => h.elim) (fun _ _ h => h) hn hH' (hD.mono hle) ?_)
 ·refine List.mem_of_getElem? (i := i) ?_
  rw [List.getElem?_take_of_lt hi]; simpa using ho
 ·intro t
  by_cases hx : ∃ k o, k < m ∧ ops[k]? = some o ∧ o.dst = some t
  ·obtain ⟨k, o, a1, a2, a3⟩ := hx
   exact .inl ⟨k, o, a1, fun h => h, a2, a3⟩
  ·right
   rw [k2 t (fun o ho e => by
    obtain ⟨k, hk⟩ := List.getElem?_of_mem ho
    have hkm : k < m := by
     have := (List.getElem?_eq_some_iff.1 hk).1; simp at this; omega
    rw [List.getElem?_take_of_lt hkm] at hk
    exact hx ⟨k, o, hkm, by simpa using hk, e⟩)]
   exact (hF t).mono hle

end Go.V
end
section
set_option linter.unusedVariables false
namespace Go.V
set_option linter.unusedSectionVars false
variable [Inhabited GivT]
def argFr (args : List AV) : Fr := fun t => args.getD t .any

def resA (P : Program) : List ResultVar → Fr → Hp → (List AV → Prop) → Prop
 | [], s, H, K => K []
 | .tmp t :: r, s, H, K => (s t).ok ∧ resA P r s H fun vs => K ((s t).st :: vs)
 | .cell t T :: r, s, H, K => (s t).ok ∧ loadA P T (s t).st H fun p v => p ∧ resA P r s H fun vs => K (v :: vs)

def retA : List AV → AV
 | [v] => v
 | vs => .tuple vs

def resRun (tmps : Array Value) : ResultVar → Sem Value
 | .tmp t => pure (tmps.getD t undef)
 | .cell x t => do loadVar t (← asAddr (tmps.getD x undef))

theorem results_eq (fn : Func) (tmps : Array Value) : results fn tmps = (do
  let vs ← fn.results.mapM (resRun tmps)
  pure (if h : vs.size = 1 then vs[0] else .tuple vs)) := by
 have e : (fun
  | .tmp t => pure (tmps.getD t undef)
  | .cell a t => do loadVar t (← asAddr (tmps.getD a undef)) : ResultVar → Sem Value) = resRun tmps := by
  funext x; cases x <;> rfl
 unfold results
 rw [← e]
 rfl

theorem resA_sound {P : Program} {s : Fr} {H : Hp} {S : St} {a : Act} (hH : HRel S H) (hF : FRel S s a) : ∀ (rs : List ResultVar) (K : List AV → Prop), resA P rs s H K →
  ∃ vs ws, K vs ∧ VRels S vs ws ∧ (rs.mapM (resRun a.tmps)).run P S.w = .ok ws S.w
 | [], K, h => ⟨[], [], h, ⟨rfl, fun k hk => absurd hk (by simp)⟩, rfl⟩
 | .tmp t :: r, K, h => by
   obtain ⟨hk, h⟩ := h
   obtain ⟨vs, ws, k, hr, hrun⟩ := resA_sound hH hF r _ h
   refine ⟨_, a.tmps.getD t undef :: ws, k, ⟨by simpa using hr.1, fun q hq => ?_⟩, ?_⟩
   ·cases q with
    | zero => exact (hF t).strip hk
    | succ q => simpa using hr.2 q (by simpa using hq)
   ·simp only [List.mapM_cons, resRun, Sem.run_bind, Sem.run_pure, Result.andThen_ok, hrun]
 | .cell t T :: r, K, h => by
   obtain ⟨hk, h⟩ := h
   have hx := (hF t).strip hk
   obtain ⟨p, v, ⟨hp, h⟩, c⟩ := loadA_sound h hH hx
   obtain ⟨cv, hl, hv⟩ := c hp
   obtain ⟨vs, ws, k, hr, hrun⟩ := resA_sound hH hF r _ h
   refine ⟨_, cv :: ws, k, ⟨by simpa using hr.1, fun q hq => ?_⟩, ?_⟩
   ·cases q with
    | zero => exact hv
    | succ q => simpa using hr.2 q (by simpa using hq)
   ·have e : (resRun a.tmps (.cell t T)).run P S.w = .ok cv S.w := by
     simp only [resRun]
     generalize a.tmps.getD t undef = u at hl hx
     cases u with
     | pointer x =>
       cases x with
       | some ad => simpa [Instr.loadAt, Instr.sureAddr, asAddr] using hl
       | none => simp [Instr.loadAt, Instr.sureAddr] at hl
     | _ => simp [Instr.loadAt, Instr.sureAddr] at hl
    simp only [List.mapM_cons, Sem.run_bind, e, Result.andThen_ok, hrun, Sem.run_pure]

theorem results_sound {P : Program} {fn : Func} {s : Fr} {H : Hp} {S : St} {a : Act} {K : List AV → Prop} (hH : HRel S H) (hF : FRel S s a) (h : resA P fn.results.toList s H K) :
  ∃ vs v, K vs ∧ VRel S (retA vs) v ∧ (results fn a.tmps).run P S.w = .ok v S.w := by
 obtain ⟨vs, ws, k, hr, hrun⟩ := resA_sound hH hF _ _ h
 have hlen := hr.1
 refine ⟨vs, if h : ws.toArray.size = 1 then ws.toArray[0] else .tuple ws.toArray, k, ?_, ?_⟩
 ·match vs, ws, hlen, hr with
  | [], [], _, _ => simp [retA]; exact .tuple rfl fun k hk => absurd hk (by simp)
  | [v], [w], _, hr => simpa [retA] using hr.2 0 (by simp)
  | v1 :: v2 :: vs, w1 :: w2 :: ws, hlen, hr =>
    simp [retA]
    refine .tuple (by simpa using hlen) fun q hq => ?_
    have := hr.2 q hq
    simpa [List.getD, Array.getD_eq_getD_getElem?] using this
 ·rw [results_eq, Array.mapM_eq_mapM_toList]
  simp only [Sem.run_bind, Sem.run_map, hrun, Result.andThen_ok, Sem.run_pure]

/-- What a function's body must come to. -/
def FnPost (P : Program) (fn : Func) (R : Res → Hp → Prop) : Post := fun x s ds H => match x with
 | .normal => Ent s ds H fun s ds H => ds = [] ∧ resA P fn.results.toList s H fun vs => R (.ret (retA vs)) H
 | .ret => Ent s ds H fun s ds H => ds = [] ∧ resA P fn.results.toList s H fun vs => R (.ret (retA vs)) H
 | .pan v => ds = [] ∧ R (.pan v) H
 | .exit _ => False

theorem argFr_rel {S : St} {args : List AV} {vs : Array Value} {n : Nat} (h : VRels S args vs.toList) : FRel S (argFr args) { tmps := vs ++ Array.replicate (n - vs.size) undef, defers := [] } := by
 intro t
 obtain ⟨h1, h2⟩ := h.size
 simp only [argFr]
 by_cases ht : t < args.length
 ·have := h2 t ht
  have e : (vs ++ Array.replicate (n - vs.size) undef).getD t undef = vs.getD t undef := by
   simp [Array.getD_eq_getD_getElem?, Array.getElem?_append_left (show t < vs.size by omega)]
  rw [e]; exact this
 ·rw [List.getD_eq_getElem?_getD, List.getElem?_eq_none (by omega)]
  exact .any _

theorem DRel.nil_inv {S : St} {df : List Deferred} (h : DRel S [] df) : df = [] := by cases h; rfl

theorem body_calls {P : Program} {f : FuncId} {fn : Func} {c : Code} {args : List AV} {H : Hp} {R : Res → Hp → Prop} (hf : P.funcs[f]? = some fn) (hb : fn.body = some c) (hlen : args.length ≤ fn.ntmps)
  (hbody : WPS none P fn.ntmps c (argFr args) [] H (FnPost P fn R)) {S : St} {vs : Array Value} (hH : HRel S H) (ha : VRels S args vs.toList) : Calls P f vs S.w (Out S R) := by
 have hsz : vs.size = args.length := ha.size.1
 refine callsIn_wide (n := 0) |>.1 (callsIn_of_wp hf hb trivial ?_ rfl)
 have h := hbody S { tmps := vs ++ Array.replicate (fn.ntmps - vs.size) undef, defers := [] } (by simp; omega) hH (argFr_rel ha) .nil
 refine wpIn_mono h ?_
 rintro e a w ⟨S', x, s, ds, H', rfl, hle, hH', hF, hD, hn, hx, hq⟩
 have ret : (Ent s ds H' fun s ds H => ds = [] ∧ resA P fn.results.toList s H fun vs => R (.ret (retA vs)) H) → a.defers = [] ∧ ∃ v, (results fn a.tmps).run P S'.w = .ok v S'.w ∧ Out S R (.returned v) S'.w := by
  intro hq
  obtain ⟨S2, s2, ds2, H2, hw, hle2, hH2, hF2, hD2, hds, hres⟩ := hq S' a hH' hF hD
  subst hds
  obtain ⟨vs, v, k, hv, hrun⟩ := results_sound hH2 hF2 hres
  rw [hw] at hrun
  refine ⟨hD2.nil_inv, v, hrun, S2, .ret (retA vs), H2, hw, hle.trans hle2, hH2, hv, k⟩
 cases e with
 | normal => cases x <;> simp [XRel] at hx; exact ret hq
 | ret => cases x <;> simp [XRel] at hx; exact ret hq
 | exit i => cases x <;> simp [XRel] at hx; exact hq.elim
 | goto l => cases x <;> simp [XRel] at hx
 | outgrown => cases x <;> simp [XRel] at hx
 | panic ch =>
   cases x with
   | pan v =>
     obtain ⟨hds, hR⟩ := hq
     subst hds
     refine ⟨hD.nil_inv, S', .pan v, H', rfl, hle, hH', hx, hR⟩
   | _ => simp [XRel] at hx

/-- A Go function, called by name or as a closure. -/
theorem tri_func {P : Program} {f : FuncId} {fn : Func} {c : Code} {caps args : List AV} {H : Hp} {R : Res → Hp → Prop} (hf : P.funcs[f]? = some fn) (hname : (fn.name == "runtime.NumGoroutine") = false)
  (hb : fn.body = some c) (hlen : (args ++ caps).length ≤ fn.ntmps) (hbody : WPS none P fn.ntmps c (argFr (args ++ caps)) [] H (FnPost P fn R)) : Tri P (.func (.func f) [] caps) args H R := by
 intro S vf vs hH hvf ha
 cases hvf with
 | @func _ _ _ ws us hn hm h h' =>
   have hws : ws = #[] := by simpa using hn
   subst hws
   refine ⟨.enter f (vs.toArray ++ us), ?_, ?_⟩
   ·have hcf : (callFunc f (vs.toArray ++ us)).run P S.w = .ok (.enter f (vs.toArray ++ us)) S.w := by
     simp only [callFunc, Sem.run_bind, run_program, Result.andThen_ok, hf, hname, hb]
     simp
    simp only [Deferred.ofValue, Sem.run_bind, Sem.run_pure, Result.andThen_ok, invoke]
    have e : (#[] : Array Value) ++ vs.toArray = vs.toArray := by simp
    rw [e]
    exact hcf
   ·refine body_calls hf hb hlen hbody hH ?_
    refine ⟨by simp [ha.1, hm], fun k hk => ?_⟩
    simp only [List.getD, Array.toList_append]
    by_cases hk' : k < args.length
    ·rw [List.getElem?_append_left hk', List.getElem?_append_left (by rw [ha.1]; exact hk')]
     exact ha.2 k hk'
    ·have e1 := ha.1
     simp only [List.length_append] at hk
     rw [List.getElem?_append_right (by omega), List.getElem?_append_right (by omega), e1]
     have := h' (k - args.length) (by omega)
     simpa [List.getD, Array.getD_eq_getD_getElem?] using this

end Go.V
end
section
set_option linter.unusedVariables false
namespace Go.V
set_option linter.unusedSectionVars false
variable [Inhabited GivT]
def heapFree : Op → Bool
 | .load _ _ => false
 | .lookup _ _ _ _ => false
 | .call ⟨.builtin _, _, _⟩ => true
 | .call _ => false
 | _ => true

theorem close2 {P : Program} {o : Oper} {s : Fr} {q p : Prop} {v : AV} {K : Prop → AV → Prop} (k : K (q ∧ p) v)
  (g : q → ∀ H' S a, HRel S H' → OpsRel o s S a → ∃ p' v', (p' = p ∧ v' = v) ∧ (p' → Gives P H' o S a v')) : ∃ p v, K p v ∧ (p → ∀ H' S a, HRel S H' → OpsRel o s S a → Gives P H' o S a v) :=
 ⟨_, v, k, fun ⟨hq, hp⟩ H' S a hH hop => by obtain ⟨p', v', ⟨rfl, rfl⟩, c⟩ := g hq H' S a hH hop; exact c hp⟩

theorem pureA_all2 {P : Program} {H : Hp} {o : Oper} {s : Fr} {K : Prop → AV → Prop} (h : pureA P H o.op s K) (hf : heapFree o.op = true) :
  ∃ p v, K p v ∧ (p → ∀ H' S a, HRel S H' → OpsRel o s S a → Gives P H' o S a v) := by
 -- a value that the world gives as it is
 have still : ∀ {H' : Hp} {S : St} {a : Act} (hH : HRel S H') (v : AV), (∃ cv, (execOp a.eval o).run P S.w = .ok (.value cv) S.w ∧ VRel S v cv) → Gives P H' o S a v :=
  fun {H' S a} hH v ⟨cv, e, r⟩ => ⟨cv, S, e, Le.refl S, hH, r⟩
 obtain ⟨dst, op, ty, pos, after, guard⟩ := o
 cases op <;> simp only [pureA] at h <;> try exact h.elim
 case move x =>
  refine ⟨_, _, h, fun hk H' S a hH hop => still hH _ ⟨a.eval x, rfl, ?_⟩⟩
  exact (hop x (by simp [Op.operands])).strip hk
 case assign x =>
  refine ⟨_, _, h, fun hk H' S a hH hop => still hH _ ⟨a.eval x, rfl, ?_⟩⟩
  exact (hop x (by simp [Op.operands])).strip hk
 case pick c x y =>
  obtain ⟨p, v, k, g⟩ := pickA_pick _ _ _ h
  refine close2 k fun hk H' S a hH hop => ?_
  obtain ⟨p', v', e, c'⟩ := pickA_sound (P := P) (w := S.w) g ((hop c (by simp [Op.operands])).strip hk) (hop x (by simp [Op.operands])) (hop y (by simp [Op.operands]))
  exact ⟨p', v', e, fun q => still hH _ (c' q)⟩
 case box T x =>
  obtain ⟨p, v, k, g⟩ := boxZ_pick _ _ _ h
  refine close2 k fun hk H' S a hH hop => ?_
  obtain ⟨p', v', e, c'⟩ := boxZ_sound (P := P) (T := T) g hH ((hop x (by simp [Op.operands])).strip hk)
  refine ⟨p', v', e, fun q => ?_⟩
  obtain ⟨cv, S', r1, r2, r3, r4⟩ := c' q
  exact ⟨cv, S', by simp [execOp, r1], r2, r3, r4⟩
 case build T parts =>
  obtain ⟨p, v, k, g⟩ := buildA_pick _ _ _ h
  refine close2 k fun hk H' S a hH hop => ?_
  have hr := partsA_rel (S := S) (s := s) (a := a) (l := parts.toList) (fun x hx => hop x (by simpa [Op.operands] using hx)) hk
  obtain ⟨p', v', e, c'⟩ := buildA_sound (vs := parts.map fun (i, x) => (i, a.eval x)) g (by simpa using hr)
  refine ⟨p', v', e, fun q => still hH _ ?_⟩
  obtain ⟨cv, r1, r2⟩ := c' q
  exact ⟨cv, by simp [execOp, r1], r2⟩
 case buildSlice T n parts =>
  obtain ⟨p, v, k, g⟩ := buildSliceA_pick _ _ _ _ h
  refine close2 k fun hk H' S a hH hop => ?_
  have hr := partsA_rel (S := S) (s := s) (a := a) (l := parts.toList) (fun x hx => hop x (by simpa [Op.operands] using hx)) hk
  obtain ⟨p', v', e, c'⟩ := buildSliceA_sound (vs := parts.map fun (i, x) => (i, a.eval x)) g hH (by simpa using hr)
  refine ⟨p', v', e, fun q => ?_⟩
  obtain ⟨cv, S', r1, r2, r3, r4⟩ := c' q
  exact ⟨cv, S', by simp [execOp, r1], r2, r3, r4⟩
 case load T x => cases hf
 case nilCheck x =>
  obtain ⟨p, v, k, g⟩ := nilCheckA_pick _ _ h
  refine close2 k fun hk H' S a hH hop => ?_
  obtain ⟨p', v', e, c'⟩ := nilCheckA_sound (P := P) (o := ⟨dst, .nilCheck x, ty, pos, after, guard⟩) (a := a) rfl rfl g ((hop x (by simp [Op.operands])).strip hk)
  exact ⟨p', v', e, fun q => still hH _ (c' q)⟩
 case binOp op T x y yt =>
  obtain ⟨p, v, k, g⟩ := binA_pick _ _ _ _ _ _ _ h
  have k' : K (((opA s x).ok ∧ (opA s y).ok) ∧ p) v := by rw [and_assoc]; exact k
  refine close2 k' fun hk H' S a hH hop => ?_
  obtain ⟨p', v', e, c'⟩ := binA_sound (P := P) (w := S.w) (t := T) (ox := x) (oy := y) g ((hop x (by simp [Op.operands])).strip hk.1) ((hop y (by simp [Op.operands])).strip hk.2)
  refine ⟨p', v', e, fun q => still hH _ ?_⟩
  obtain ⟨cv, r1, r2⟩ := c' q
  exact ⟨cv, by simp only [execOp, Sem.run_bind] at r1 ⊢; simp only [r1, Result.andThen_ok]; rfl, r2 ▸ .lit _⟩
 case unOp op T x =>
  obtain ⟨p, v, k, g⟩ := unA_pick _ _ h
  refine close2 k fun hk H' S a hH hop => ?_
  obtain ⟨p', v', e, c'⟩ := unA_sound (P := P) (w := S.w) g ((hop x (by simp [Op.operands])).strip hk)
  refine ⟨p', v', e, fun q => still hH _ ?_⟩
  obtain ⟨cv, r1, r2⟩ := c' q
  exact ⟨cv, by simp [execOp, r1], r2 ▸ .lit _⟩
 case convert src T x =>
  obtain ⟨p, v, k, g⟩ := convA_pick _ _ _ h
  have k' : K (((P.underlying src).isSome = true ∧ (opA s x).ok) ∧ p) v := by rw [and_assoc]; exact k
  refine close2 k' fun hk H' S a hH hop => ?_
  obtain ⟨p', v', e, c'⟩ := convA_sound (S := S) (src := src) (Option.isSome_iff_exists.1 hk.1) g ((hop x (by simp [Op.operands])).strip hk.2)
  refine ⟨p', v', e, fun q => still hH _ ?_⟩
  obtain ⟨cv, r1, r2⟩ := c' q
  exact ⟨cv, by simp [execOp, r1], r2⟩
 case makeInterface T x =>
  obtain ⟨p, v, k, g⟩ := ifaceA_pick _ _ _ h
  refine close2 k fun hk H' S a hH hop => ?_
  obtain ⟨p', v', e, c'⟩ := ifaceA_sound (S := S) g ((hop x (by simp [Op.operands])).strip hk)
  refine ⟨p', v', e, fun q => still hH _ ?_⟩
  obtain ⟨cv, r1, r2⟩ := c' q
  exact ⟨cv, by simp [execOp, r1], r2⟩
 case makeFunc fn first caps =>
  refine ⟨_, _, h, fun hk H' S a hH hop => still hH _ ⟨.func fn (first.map a.eval) (caps.map a.eval), rfl, ?_⟩⟩
  have h1 := (stAll_rel (opsA_rel (S := S) (s := s) (a := a) (l := first.toList) (fun x hx => hop x (by simp [Op.operands] at hx ⊢; exact .inl hx))) hk.1)
  have h2 := (stAll_rel (opsA_rel (S := S) (s := s) (a := a) (l := caps.toList) (fun x hx => hop x (by simp [Op.operands] at hx ⊢; exact .inr hx))) hk.2)
  have g1 := VRels.size (vs := first.map a.eval) (by simpa using h1)
  have g2 := VRels.size (vs := caps.map a.eval) (by simpa using h2)
  exact .func g1.1 g2.1 g1.2 g2.2
 case lookup T x y ok => cases hf
 case slice T x lo hi mx =>
  cases mx with
  | some _ => exact h.elim
  | none =>
  simp only at h
  obtain ⟨p, v, k, g⟩ := sliceA_pick _ _ _ _ _ h
  have k' : K (((opA s x).ok ∧ okO s lo ∧ okO s hi) ∧ p) v := by simp only [and_assoc]; exact k
  refine close2 k' fun hk H' S a hH hop => ?_
  have ho : ∀ (l : Option Operand), (∀ y, l = some y → VRel S (opA s y) (a.eval y)) → okO s l → ORel S (opO s l) (l.map a.eval) := by
   intro l hl hk
   cases l with
   | none => trivial
   | some y => exact (hl y rfl).strip hk
  obtain ⟨p', v', e, c'⟩ := sliceA_sound (w := S.w) g ((hop x (by simp [Op.operands])).strip hk.1) (ho lo (fun y e => hop y (by simp [Op.operands, e])) hk.2.1) (ho hi (fun y e => hop y (by simp [Op.operands, e])) hk.2.2)
  refine ⟨p', v', e, fun q => still hH _ ?_⟩
  obtain ⟨cv, r1, r2⟩ := c' q
  exact ⟨cv, by simp [execOp, r1], r2⟩
 case typeAssert x xt T ok =>
  obtain ⟨p, v, k, g⟩ := taA_pick _ _ _ _ h
  refine close2 k fun hk H' S a hH hop => ?_
  obtain ⟨p', v', e, c'⟩ := taA_sound (xt := xt) (w := S.w) g ((hop x (by simp [Op.operands])).strip hk)
  refine ⟨p', v', e, fun q => still hH _ ?_⟩
  obtain ⟨cv, r1, r2⟩ := c' q
  exact ⟨cv, by simp [execOp, r1], r2⟩
 case fieldAddr T x f =>
  obtain ⟨p, v, k, g⟩ := fieldAddrA_pick _ _ _ _ h
  refine close2 k fun hk H' S a hH hop => ?_
  obtain ⟨p', v', e, c'⟩ := fieldAddrA_sound g ((hop x (by simp [Op.operands])).strip hk)
  refine ⟨p', v', e, fun q => still hH _ ?_⟩
  obtain ⟨cv, r1, r2⟩ := c' q
  exact ⟨cv, by simp [execOp, r1], r2⟩
 case field T x f =>
  obtain ⟨p, v, k, g⟩ := fieldA_pick _ _ _ _ h
  refine close2 k fun hk H' S a hH hop => ?_
  obtain ⟨p', v', e, c'⟩ := fieldA_sound g ((hop x (by simp [Op.operands])).strip hk)
  refine ⟨p', v', e, fun q => still hH _ ?_⟩
  obtain ⟨cv, r1, r2⟩ := c' q
  exact ⟨cv, by simp [execOp, r1], r2⟩
 case indexAddr T x i =>
  obtain ⟨p, v, k, g⟩ := indexAddrA_pick _ _ _ _ h
  have k' : K (((opA s x).ok ∧ (opA s i).ok) ∧ p) v := by rw [and_assoc]; exact k
  refine close2 k' fun hk H' S a hH hop => ?_
  obtain ⟨p', v', e, c'⟩ := indexAddrA_sound g ((hop x (by simp [Op.operands])).strip hk.1) ((hop i (by simp [Op.operands])).strip hk.2)
  refine ⟨p', v', e, fun q => still hH _ ?_⟩
  obtain ⟨cv, r1, r2⟩ := c' q
  exact ⟨cv, by simp [execOp, r1], r2⟩
 case index T x i =>
  obtain ⟨p, v, k, g⟩ := indexA_pick _ _ _ _ h
  have k' : K (((opA s x).ok ∧ (opA s i).ok) ∧ p) v := by rw [and_assoc]; exact k
  refine close2 k' fun hk H' S a hH hop => ?_
  obtain ⟨p', v', e, c'⟩ := indexA_sound g ((hop x (by simp [Op.operands])).strip hk.1) ((hop i (by simp [Op.operands])).strip hk.2)
  refine ⟨p', v', e, fun q => still hH _ ?_⟩
  obtain ⟨cv, r1, r2⟩ := c' q
  exact ⟨cv, by simp [execOp, r1], r2⟩
 case extract x i =>
  obtain ⟨p, v, k, g⟩ := extractA_pick _ _ h
  refine close2 k fun hk H' S a hH hop => ?_
  obtain ⟨p', v', e, c'⟩ := extractA_sound (P := P) g ((hop x (by simp [Op.operands])).strip hk)
  refine ⟨p', v', e, fun q => still hH _ ?_⟩
  obtain ⟨cv, r1, r2⟩ := c' q
  exact ⟨cv, by simp [execOp, r1], r2⟩
 case call c =>
  obtain ⟨callee, args, tys⟩ := c
  cases callee with
  | value f => exact h.elim
  | invoke f m => exact h.elim
  | builtin b =>
    cases b <;> simp only at h <;> try exact h.elim
    case len =>
     split at h
     case h_2 => exact h.elim
     case h_1 x T ex eT =>
      obtain ⟨p, v, k, g⟩ := lenA_pick _ _ _ h
      refine close2 k fun hk H' S a hH hop => ?_
      obtain ⟨p', v', e, c'⟩ := lenA_sound (ty := ty) g ((hop x (by simp [Op.operands, Call.operands, ex])).strip hk)
      refine ⟨p', v', e, fun q => still hH _ ?_⟩
      obtain ⟨cv, r1, r2⟩ := c' q
      have e1 : args = #[x] := by apply Array.ext'; simpa using ex
      have e2 : tys = #[T] := by apply Array.ext'; simpa using eT
      subst e1 e2
      exact ⟨cv, by simp [execOp, resolve, invoke, builtin, r1], r2⟩
    case max =>
     obtain ⟨p, v, k, g⟩ := mmA_pick _ _ h
     refine close2 k fun hk H' S a hH hop => ?_
     obtain ⟨p', v', e, c'⟩ := mmA_sound (P := P) (tys := tys) (ty := ty) g (stAll_rel (opsA_rel (fun x hx => hop x (by simpa [Op.operands, Call.operands] using hx))) hk)
     refine ⟨p', v', e, fun q => still hH _ ?_⟩
     obtain ⟨cv, r1, r2⟩ := c' q
     have e1 : (args.toList.map a.eval).toArray = args.map a.eval := by apply Array.ext'; simp
     rw [e1] at r1
     exact ⟨cv, by simp [execOp, resolve, invoke, builtin, r1], r2⟩
    case min =>
     obtain ⟨p, v, k, g⟩ := mmA_pick _ _ h
     refine close2 k fun hk H' S a hH hop => ?_
     obtain ⟨p', v', e, c'⟩ := mmA_sound (P := P) (tys := tys) (ty := ty) g (stAll_rel (opsA_rel (fun x hx => hop x (by simpa [Op.operands, Call.operands] using hx))) hk)
     refine ⟨p', v', e, fun q => still hH _ ?_⟩
     obtain ⟨cv, r1, r2⟩ := c' q
     have e1 : (args.toList.map a.eval).toArray = args.map a.eval := by apply Array.ext'; simp
     rw [e1] at r1
     exact ⟨cv, by simp [execOp, resolve, invoke, builtin, r1], r2⟩


end Go.V
end
section
set_option linter.unusedVariables false
namespace Go.V
set_option linter.unusedSectionVars false
variable [Inhabited GivT]
def QE (r : Option Nat) (P : Program) (H : Hp) (o : Oper) (s : Fr) (v : AV) : Prop := QExec r P H o s v ∧ (heapFree o.op = true → ∀ H', QExec r P H' o s v)
def QF (r : Option Nat) (P : Program) (n : Nat) (all : List Oper) (H : Hp) (s : Fr) (o : Oper) : Prop := dstOk n o.dst ∧ ∃ v, (∀ d, o.dst = some d → s d = v) ∧ match o.guard with
 | none => QE r P H o s v
 | some (j, w) => ∃ b v0, wantG (guardV all s j) w = some b ∧ v = .under b v0 ∧ (b = true → QE r P H o s v0)
theorem QE.congr {r : Option Nat} {P : Program} {H : Hp} {o : Oper} {s s' : Fr} {v : AV} (h : QE r P H o s v) (hs : ∀ t, (Operand.tmp t) ∈ o.op.operands.toList → s t = s' t) : QE r P H o s' v :=
 ⟨h.1.congr hs, fun hf H' => (h.2 hf H').congr hs⟩
theorem QF.fact {r : Option Nat} {P : Program} {n : Nat} {all : List Oper} {H : Hp} {s : Fr} {o : Oper} (h : QF r P n all H s o) : QFact r P n all H s o := by
 obtain ⟨h1, v, h2, h3⟩ := h
 refine ⟨h1, v, h2, ?_⟩
 cases hg : o.guard with
 | none => rw [hg] at h3; exact h3.1
 | some jw => obtain ⟨j, w⟩ := jw; rw [hg] at h3; obtain ⟨b, v0, g1, g2, g3⟩ := h3; exact ⟨b, v0, g1, g2, fun x => (g3 x).1⟩
theorem QF.move {r : Option Nat} {P : Program} {n : Nat} {all : List Oper} {H : Hp} {s : Fr} {o : Oper} (h : QF r P n all H s o) (hf : heapFree o.op = true) (H' : Hp) : QF r P n all H' s o := by
 obtain ⟨h1, v, h2, h3⟩ := h
 refine ⟨h1, v, h2, ?_⟩
 cases hg : o.guard with
 | none => rw [hg] at h3; exact ⟨h3.2 hf H', fun _ => h3.2 hf⟩
 | some jw => obtain ⟨j, w⟩ := jw; rw [hg] at h3; obtain ⟨b, v0, g1, g2, g3⟩ := h3; exact ⟨b, v0, g1, g2, fun x => ⟨(g3 x).2 hf H', fun _ => (g3 x).2 hf⟩⟩
theorem QF.congr {r : Option Nat} {P : Program} {n : Nat} {all : List Oper} {H : Hp} {s s' : Fr} {o : Oper} (h : QF r P n all H s o) (hr : ∀ t, t ∈ readsOf all o → s t = s' t) (hd : ∀ d, o.dst = some d → s d = s' d) : QF r P n all H s' o := by
 obtain ⟨h1, v, h2, h3⟩ := h
 refine ⟨h1, v, fun d e => (hd d e).symm.trans (h2 d e), ?_⟩
 have ho : ∀ t, (Operand.tmp t) ∈ o.op.operands.toList → s t = s' t := fun t ht => hr t (mem_reads_op ht)
 cases hg : o.guard with
 | none => rw [hg] at h3; exact h3.congr ho
 | some jw =>
   obtain ⟨j, w⟩ := jw
   rw [hg] at h3
   obtain ⟨b, v0, g1, g2, g3⟩ := h3
   exact ⟨b, v0, by rw [← guardV_congr (s := s) (fun q d hq hd' => hr d (mem_reads_guard hg hq hd'))]; exact g1, g2, fun x => (g3 x).congr ho⟩

theorem quiet_all3 {r : Option Nat} {P : Program} {H : Hp} {o : Oper} {s : Fr} {K : Prop → AV → Prop} (h : pureA P H o.op s K) : ∃ p v, K p v ∧ (p → QE r P H o s v) := by
 by_cases hf : heapFree o.op = true
 ·obtain ⟨p, v, k, c⟩ := pureA_all2 h hf
  have : p → ∀ H', QExec r P H' o s v := fun hp H' S a next Q hH hop hn => by
   obtain ⟨cv, S', h1, h2, h3, h4⟩ := c hp H' S a hH hop
   refine ⟨fun _ _ => trivial, ?_⟩
   rw [Oper.semAt_eq _ _ _ (fun c e => by rw [e] at h; exact h), h1]
   exact hn S' cv h2 h3 h4
  exact ⟨p, v, k, fun hp => ⟨this hp H, fun _ => this hp⟩⟩
 ·obtain ⟨p, v, k, c⟩ := quiet_all (r := r) h
  exact ⟨p, v, k, fun hp => ⟨c hp, fun x => absurd x hf⟩⟩

theorem call_exec3 {r : Option Nat} {P : Program} {H : Hp} {o : Oper} {s : Fr} {v : AV} (h : callV P s o.op H v) : QE r P H o s v := by
 refine ⟨call_exec h, fun hf => ?_⟩
 obtain ⟨c, hc, hA⟩ := callV_callA h
 rw [hc] at hf
 obtain ⟨callee, args, tys⟩ := c
 cases callee with
 | builtin b => exact hA.elim
 | value f => cases hf
 | invoke f nm => cases hf

theorem vcQ_facts2 {r : Option Nat} {P : Program} {n : Nat} {all : List Oper} {H : Hp} (rd : Oper → List Tmp) (hrd : ∀ o, rd o = readsOf all o) :
  ∀ (q : List Oper) (s : Fr) (K : Fr → Prop),
    (∀ (i : Nat) (o : Oper), q[i]? = some o → ∀ (k : Nat) (o' : Oper), i ≤ k → q[k]? = some o' → ∀ d, o'.dst = some d → d ∉ rd o ∧ (i < k → o.dst ≠ some d)) →
    vcQ P n all H q s K → ∃ sF, K sF ∧ (∀ t, (∀ o ∈ q, o.dst ≠ some t) → sF t = s t) ∧ ∀ o ∈ q, QF r P n all H sF o
 | [], s, K, _, h => ⟨s, h, fun _ _ => rfl, fun o ho => absurd ho (by simp)⟩
 | o :: q, s, K, hssa, h => by
   have hssa' : ∀ (i : Nat) (o : Oper), q[i]? = some o → ∀ (k : Nat) (o' : Oper), i ≤ k → q[k]? = some o' → ∀ d, o'.dst = some d → d ∉ rd o ∧ (i < k → o.dst ≠ some d) := by
    intro i o1 ho1 k o' hk ho' d hd
    have := hssa (i + 1) o1 (by simpa using ho1) (k + 1) o' (by omega) (by simpa using ho') d hd
    exact ⟨this.1, fun h => this.2 (by omega)⟩
   simp only [vcQ] at h
   obtain ⟨hd, h⟩ := h
   -- what o reads is not written from o on; what o writes is not written behind
   have hr0 : ∀ o' ∈ o :: q, ∀ d, o'.dst = some d → d ∉ readsOf all o := by
    intro o' ho' d hd'
    obtain ⟨k, hk⟩ := List.getElem?_of_mem ho'
    rw [← hrd]
    exact (hssa 0 o (by simp) k o' (by omega) hk d hd').1
   have hw0 : ∀ o' ∈ q, ∀ d, o'.dst = some d → o.dst ≠ some d := by
    intro o' ho' d hd'
    obtain ⟨k, hk⟩ := List.getElem?_of_mem ho'
    exact (hssa 0 o (by simp) (k + 1) o' (by omega) (by simpa using hk) d hd').2 (by omega)
   -- the frame behind agrees with the one ahead on all that o reads
   have fin : ∀ (v : AV), vcQ P n all H q (put s o.dst v) K → (∀ (sF : Fr), (∀ t, t ∈ readsOf all o → sF t = s t) → (∀ d, o.dst = some d → sF d = v) → QF r P n all H sF o) →
     ∃ sF, K sF ∧ (∀ t, (∀ o' : Oper, o' ∈ o :: q → o'.dst ≠ some t) → sF t = s t) ∧ ∀ o' ∈ o :: q, QF r P n all H sF o' := by
    intro v hq hf
    obtain ⟨sF, k1, k2, k3⟩ := vcQ_facts2 (r := r) rd hrd q (put s o.dst v) K hssa' hq
    have hsame : ∀ t, (∀ o' : Oper, o' ∈ o :: q → o'.dst ≠ some t) → sF t = s t := by
     intro t ht
     rw [k2 t (fun (o' : Oper) ho' => ht o' (by simp [ho']))]
     have := ht o (by simp)
     cases hod : o.dst with
     | none => rfl
     | some d => simp only [put]; rw [if_neg]; intro e; exact this (by rw [hod, e])
    refine ⟨sF, k1, hsame, fun o' ho' => ?_⟩
    rcases List.mem_cons.1 ho' with rfl | ho'
    ·refine hf sF (fun t ht => hsame t fun (o2 : Oper) ho2 e => hr0 o2 ho2 t e ht) (fun d hd' => ?_)
     rw [k2 d (fun o2 ho2 e => hw0 o2 ho2 d e hd')]
     simp [put, hd']
    ·exact k3 o' ho'
   have ops : ∀ {sF : Fr}, (∀ t, t ∈ readsOf all o → sF t = s t) → ∀ t, (Operand.tmp t) ∈ o.op.operands.toList → s t = sF t := fun h t ht => (h t (mem_reads_op ht)).symm
   cases hg : o.guard with
   | none =>
     simp only [hg] at h
     cases hc : isCall o.op with
     | false =>
       simp only [hc] at h
       obtain ⟨p, v, ⟨hp, hq⟩, c⟩ := quiet_all3 (r := r) h
       exact fin v hq fun sF h1 h2 => ⟨hd, v, h2, by rw [hg]; exact (c hp).congr (ops h1)⟩
     | true =>
       simp only [hc] at h
       obtain ⟨v, hv, hq⟩ := h
       exact fin v hq fun sF h1 h2 => ⟨hd, v, h2, by rw [hg]; exact (call_exec3 hv).congr (ops h1)⟩
   | some jw =>
     obtain ⟨j, w⟩ := jw
     simp only [hg] at h
     split at h
     case h_2 => exact h.elim
     case h_1 b hb =>
      have hgd : ∀ {sF : Fr}, (∀ t, t ∈ readsOf all o → sF t = s t) → wantG (guardV all sF j) w = some b := fun h => by
       rw [guardV_congr (s' := s) fun q' d hq' hd' => h d (mem_reads_guard hg hq' hd')]; exact hb
      cases hc : isCall o.op with
      | false =>
        simp only [hc] at h
        obtain ⟨p, v, ⟨hp, hq⟩, c⟩ := quiet_all3 (r := r) h
        exact fin _ hq fun sF h1 h2 => ⟨hd, _, h2, by rw [hg]; exact ⟨b, v, hgd h1, rfl, fun hw => (c (hp hw)).congr (ops h1)⟩⟩
      | true =>
        simp only [hc] at h
        obtain ⟨v, hv, hq⟩ := h
        exact fin _ hq fun sF h1 h2 => ⟨hd, _, h2, by rw [hg]; exact ⟨b, v, hgd h1, rfl, fun hw => (call_exec3 (hv hw)).congr (ops h1)⟩⟩



def nop : Oper := ⟨none, .assign (.const undef), 0, "", #[], none⟩
def opAt (all : List Oper) (i : Nat) : Oper := all.getD i nop
def pickO (all : List Oper) (l : List Nat) : List Oper := l.map (opAt all)
def wipe (all : List Oper) (s : Fr) : Fr := fun t => if all.any (fun o => o.dst == some t) then .any else s t
def dstIs (s : Fr) (d : Option Tmp) (v : AV) : Prop := match d with
 | some d => s d = v
 | none => True

/-- A quiet operation gives the same as before. -/
def vcR1 (P : Program) (n : Nat) (all : List Oper) (H : Hp) (s : Fr) (o : Oper) : Prop := dstOk n o.dst ∧ match o.guard with
 | none => match isCall o.op with
   | false => pureA P H o.op s fun p v => p ∧ dstIs s o.dst v
   | true => ∃ v, callV P s o.op H v ∧ dstIs s o.dst v
 | some (j, w) => match wantG (guardV all s j) w with
   | some g => match isCall o.op with
     | false => pureA P H o.op s fun p v => (g = true → p) ∧ dstIs s o.dst (.under g v)
     | true => ∃ v, (g = true → callV P s o.op H v) ∧ dstIs s o.dst (.under g v)
   | none => False

def vcRs (P : Program) (n : Nat) (all : List Oper) (H : Hp) (s : Fr) : List Oper → Prop
 | [] => True
 | o :: r => vcR1 P n all H s o ∧ vcRs P n all H s r

theorem dstIs.out {s : Fr} {d : Option Tmp} {v : AV} (h : dstIs s d v) : ∀ e, d = some e → s e = v := by
 rintro e rfl; exact h

theorem vcR1_fact {r : Option Nat} {P : Program} {n : Nat} {all : List Oper} {H : Hp} {s : Fr} {o : Oper} (h : vcR1 P n all H s o) : QF r P n all H s o := by
 obtain ⟨hd, h⟩ := h
 cases hg : o.guard with
 | none =>
   simp only [hg] at h
   cases hc : isCall o.op with
   | false =>
     simp only [hc] at h
     obtain ⟨p, v, ⟨hp, hv⟩, c⟩ := quiet_all3 (r := r) h
     exact ⟨hd, v, hv.out, by rw [hg]; exact c hp⟩
   | true =>
     simp only [hc] at h
     obtain ⟨v, hv, hq⟩ := h
     exact ⟨hd, v, hq.out, by rw [hg]; exact call_exec3 hv⟩
 | some jw =>
   obtain ⟨j, w⟩ := jw
   simp only [hg] at h
   split at h
   case h_2 => exact h.elim
   case h_1 b hb =>
    cases hc : isCall o.op with
    | false =>
      simp only [hc] at h
      obtain ⟨p, v, ⟨hp, hv⟩, c⟩ := quiet_all3 (r := r) h
      exact ⟨hd, _, hv.out, by rw [hg]; exact ⟨b, v, hb, rfl, fun hw => c (hp hw)⟩⟩
    | true =>
      simp only [hc] at h
      obtain ⟨v, hv, hq⟩ := h
      exact ⟨hd, _, hq.out, by rw [hg]; exact ⟨b, v, hb, rfl, fun hw => call_exec3 (hv hw)⟩⟩

/-- An effect among quiet operations. -/
def vcE (P : Program) (m : Option Tmp → Bool) (n : Nat) (all : List Oper) (kp : List Nat) (o : Oper) (s : Fr) (ds : List AD) (H : Hp) (K : AV → List AD → Hp → Prop) (Kp : AV → Hp → Prop) : Prop :=
 dstOk n o.dst ∧ o.guard = none ∧ effA P m o s ds H (fun v ds' H' => vcRs P n all H' s (pickO all kp) ∧ K v ds' H') Kp

abbrev Stg := List Nat × List Nat × Nat
def hdS : List Stg → List Nat → List Nat
 | [], last => last
 | (st, _, _) :: _, _ => st

mutual
/-- pre: the quiet operations of the stages before. -/
def vcD (P : Program) (m : Option Tmp → Bool) (n : Nat) (all : List Oper) (pre : List Nat) : List Stg → List Nat → Fr → List AD → Hp → Post → Prop
 | [], last, s, ds, H, Q => vcQ P n all H (pickO all last) s fun s' => Q .normal s' ds H
 | (st, kp, e) :: r, last, s, ds, H, Q => vcQ P n all H (pickO all st) s fun s' =>
   vcE P m n all kp (opAt all e) s' ds H (fun v ds' H' => vcD P m n all (pre ++ st) r last (put s' (opAt all e).dst v) ds' H' Q) (fun v H' => Q (.pan v) (wipe (pickO all (pre ++ st)) s') ds H')
end
/-- The same behind the stage's quiet operations. -/
def vcD' (P : Program) (m : Option Tmp → Bool) (n : Nat) (all : List Oper) (pre : List Nat) (r : List Stg) (last : List Nat) (s' : Fr) (ds : List AD) (H : Hp) (Q : Post) : Prop := match r with
 | [] => Q .normal s' ds H
 | (st, kp, e) :: r => vcE P m n all kp (opAt all e) s' ds H (fun v ds' H' => vcD P m n all (pre ++ st) r last (put s' (opAt all e).dst v) ds' H' Q) (fun v H' => Q (.pan v) (wipe (pickO all (pre ++ st)) s') ds H')
theorem vcD_eq {P : Program} {m : Option Tmp → Bool} {n : Nat} {all : List Oper} {pre : List Nat} {r : List Stg} {last : List Nat} {s : Fr} {ds : List AD} {H : Hp} {Q : Post} :
  vcD P m n all pre r last s ds H Q = vcQ P n all H (pickO all (hdS r last)) s fun s' => vcD' P m n all pre r last s' ds H Q := by
 cases r with
 | nil => simp only [vcD, vcD', hdS]
 | cons x r => obtain ⟨st, kp, e⟩ := x; simp only [vcD, vcD', hdS]

def bitM (all : List Oper) (i k : Nat) : Bool := ((masks all []).getD i 0).testBit k

/-- sg: the stage of each operation: 2j: quiet, 2j + 1: the effect. -/
def draw2Ok (P : Program) (ops : Array Oper) (sg : List Nat) (stages : List Stg) (last : List Nat) : Bool :=
 (P.follows .mixedOrders || !Region.departs ops) &&
 ((List.range ops.size).all fun k => match ops[k]? with
   | some o => o.after.toList.all fun e => !Region.binds .any e || decide (e.on < k)
   | none => true) &&
 ((List.range ops.size).all fun i => (List.range ops.size).all fun k => match (opAt ops.toList k).dst with
   | some d => (!(readsOf ops.toList (opAt ops.toList i)).contains d || bitM ops.toList i k || (bitM ops.toList k i && sg.getD k 0 % 2 == 1)) && (decide (k = i) || decide ((opAt ops.toList i).dst ≠ some d))
   | none => true) &&
 ((List.range stages.length).all fun j => match stages[j]? with
   | some (st, kp, e) => decide (st = (List.range ops.size).filter fun i => sg.getD i 0 == 2 * j) && decide (e < ops.size) &&
     ((List.range ops.size).all fun i => decide (sg.getD i 0 = 2 * j + 1) == decide (i = e)) &&
     ((List.range ops.size).all fun i => decide (sg.getD i 0 < 2 * j + 2) || bitM ops.toList i e) &&
     ((List.range ops.size).all fun i => sg.getD i 0 % 2 == 1 || decide (2 * j < sg.getD i 0) || bitM ops.toList e i || heapFree (opAt ops.toList i).op || kp.contains i)
   | none => true) &&
 decide (last = (List.range ops.size).filter fun i => sg.getD i 0 == 2 * stages.length) &&
 ((List.range ops.size).all fun i => decide (sg.getD i 0 ≤ 2 * stages.length)) &&
 ((List.range ops.size).all fun i => (List.range ops.size).all fun k => !bitM ops.toList i k || decide (sg.getD k 0 ≤ sg.getD i 0))

end Go.V
end
section
set_option linter.unusedVariables false
namespace Go.V
set_option linter.unusedSectionVars false
variable [Inhabited GivT]
theorem opAt_get {ops : Array Oper} {i : Nat} (hi : i < ops.size) : ops[i]? = some (opAt ops.toList i) := by
 simp [opAt, List.getD, hi]

structure Plan (P : Program) (ops : Array Oper) (sg : Nat → Nat) (stages : List Stg) (last : List Nat) : Prop where
 edge : ∀ k o e, ops[k]? = some o → e ∈ o.after → Region.binds .any e = true → e.on < k
 anc : ∀ i k, bitM ops.toList i k = true → Anc ops k i
 ssa : ∀ i k, i < ops.size → k < ops.size → ∀ d, (opAt ops.toList k).dst = some d → (d ∈ readsOf ops.toList (opAt ops.toList i) → bitM ops.toList i k = true ∨ (bitM ops.toList k i = true ∧ sg k % 2 = 1)) ∧ (k ≠ i → (opAt ops.toList i).dst ≠ some d)
 st : ∀ j st kp e, stages[j]? = some (st, kp, e) → st = (List.range ops.size).filter (fun i => sg i == 2 * j) ∧ e < ops.size ∧ (∀ i, i < ops.size → (sg i = 2 * j + 1 ↔ i = e)) ∧
  (∀ i, i < ops.size → 2 * j + 2 ≤ sg i → bitM ops.toList i e = true) ∧
  (∀ i, i < ops.size → sg i % 2 = 0 → sg i ≤ 2 * j → bitM ops.toList e i = true ∨ heapFree (opAt ops.toList i).op = true ∨ i ∈ kp)
 last : last = (List.range ops.size).filter (fun i => sg i == 2 * stages.length)
 le : ∀ i, i < ops.size → sg i ≤ 2 * stages.length
 ord : ∀ i k, i < ops.size → k < ops.size → bitM ops.toList i k = true → sg k ≤ sg i
 lt : ∀ i k, i < ops.size → bitM ops.toList i k = true → k < i

theorem Anc.lt {ops : Array Oper} (hedge : ∀ k o e, ops[k]? = some o → e ∈ o.after → Region.binds .any e = true → e.on < k) {j k : Nat} (h : Anc ops j k) : j < k := by
 induction h with
 | edge ho he hb hj => subst hj; exact hedge _ _ _ ho he hb
 | trans _ _ ih1 ih2 => omega

theorem draw2_plan {P : Program} {ops : Array Oper} {sg : List Nat} {stages : List Stg} {last : List Nat} (h : draw2Ok P ops sg stages last = true) :
  (P.follows .mixedOrders || !Region.departs ops) = true ∧ Plan P ops (fun i => sg.getD i 0) stages last := by
 simp only [draw2Ok, Bool.and_eq_true, List.all_eq_true, List.mem_range] at h
 obtain ⟨⟨⟨⟨⟨⟨h1, h2⟩, h3⟩, h4⟩, h5⟩, h6⟩, h7⟩ := h
 have hedge : ∀ k o e, ops[k]? = some o → e ∈ o.after → Region.binds .any e = true → e.on < k := by
  intro k o e ho he hb
  have hk : k < ops.size := (Array.getElem?_eq_some_iff.1 ho).1
  have := h2 k hk
  rw [ho] at this
  simp only [List.all_eq_true, Bool.or_eq_true, Bool.not_eq_true', decide_eq_true_eq] at this
  rcases this e (by simpa using he) with hx | hx
  ·rw [hb] at hx; cases hx
  ·exact hx
 have hanc : ∀ i k, bitM ops.toList i k = true → Anc ops k i := fun q j hq =>
  masks_spec ops.toList [] (fun q h1 h2 => by simp) (fun q hq => absurd hq (by simp)) q j hq
 refine ⟨h1, hedge, hanc, ?_, ?_, by simpa using h5, fun i hi => by simpa using h6 i hi, fun i k hi hk hb => ?_, fun i k _ hb => (hanc i k hb).lt hedge⟩
 ·intro i k hi hk d hd
  have := h3 i hi k hk
  rw [hd] at this
  simp only [Bool.and_eq_true, Bool.or_eq_true, Bool.not_eq_true', decide_eq_true_eq, beq_iff_eq] at this
  obtain ⟨g1, g2⟩ := this
  refine ⟨fun hm => ?_, fun hne => ?_⟩
  ·rcases g1 with (g1 | g1) | g1
   ·rw [List.contains_iff_mem.2 hm] at g1; cases g1
   ·exact .inl g1
   ·exact .inr ⟨g1.1, by simpa using g1.2⟩
  ·rcases g2 with g2 | g2
   ·exact absurd g2 hne
   ·exact g2
 ·intro j st kp e hj
  have hjl : j < stages.length := (List.getElem?_eq_some_iff.1 hj).1
  have := h4 j hjl
  rw [hj] at this
  simp only [Bool.and_eq_true, List.all_eq_true, List.mem_range, Bool.or_eq_true, decide_eq_true_eq, beq_iff_eq] at this
  obtain ⟨⟨⟨⟨g1, g2⟩, g3⟩, g4⟩, g5⟩ := this
  refine ⟨g1, g2, fun i hi => by have := g3 i hi; simpa using this, fun i hi hs => ?_, fun i hi he hs => ?_⟩
  ·rcases g4 i hi with hx | hx
   ·omega
   ·exact hx
  ·rcases g5 i hi with (((hx | hx) | hx) | hx) | hx
   ·omega
   ·omega
   ·exact .inl hx
   ·exact .inr (.inl hx)
   ·exact .inr (.inr (List.contains_iff_mem.1 hx))
 ·have := h7 i hi k hk
  simp only [Bool.or_eq_true, Bool.not_eq_true', decide_eq_true_eq] at this
  rcases this with hx | hx
  ·rw [hb] at hx; cases hx
  ·exact hx

theorem pickO_get {all : List Oper} {l : List Nat} {i : Nat} {o : Oper} (h : (pickO all l)[i]? = some o) : ∃ k, l[i]? = some k ∧ o = opAt all k := by
 simp only [pickO, List.getElem?_map, Option.map_eq_some_iff] at h
 obtain ⟨k, h1, h2⟩ := h
 exact ⟨k, h1, h2.symm⟩

theorem pickO_mem {all : List Oper} {l : List Nat} {o : Oper} (h : o ∈ pickO all l) : ∃ k, k ∈ l ∧ o = opAt all k := by
 simp only [pickO, List.mem_map] at h
 obtain ⟨k, h1, h2⟩ := h
 exact ⟨k, h1, h2.symm⟩

theorem vcRs_fact {r : Option Nat} {P : Program} {n : Nat} {all : List Oper} {H : Hp} {s : Fr} : ∀ (l : List Oper), vcRs P n all H s l → ∀ o ∈ l, QF r P n all H s o
 | [], _, o, ho => absurd ho (by simp)
 | x :: l, h, o, ho => by
   rcases List.mem_cons.1 ho with rfl | ho
   ·exact vcR1_fact h.1
   ·exact vcRs_fact l h.2 o ho

/-- What the quiet operations of a stage give. -/
theorem stage_facts {r : Option Nat} {P : Program} {n : Nat} {ops : Array Oper} {sg : Nat → Nat} {stages : List Stg} {last : List Nat} (pl : Plan P ops sg stages last) {H : Hp} {c : Nat} {s : Fr} {K : Fr → Prop}
  (hev : c % 2 = 0) (h : vcQ P n ops.toList H (pickO ops.toList ((List.range ops.size).filter fun i => sg i == c)) s K) :
  ∃ sF, K sF ∧ (∀ t, (∀ i, i < ops.size → sg i = c → (opAt ops.toList i).dst ≠ some t) → sF t = s t) ∧ ∀ i, i < ops.size → sg i = c → QF r P n ops.toList H sF (opAt ops.toList i) := by
 have hpw : ((List.range ops.size).filter fun i => sg i == c).Pairwise (· < ·) := List.Pairwise.filter _ List.pairwise_lt_range
 have hmem : ∀ k, k ∈ ((List.range ops.size).filter fun i => sg i == c) ↔ k < ops.size ∧ sg k = c := fun k => by simp
 obtain ⟨sF, k1, k2, k3⟩ := vcQ_facts2 (r := r) (readsOf ops.toList) (fun _ => rfl) _ s K (by
  intro i o ho k o' hik ho' d hd
  obtain ⟨x, hx, rfl⟩ := pickO_get ho
  obtain ⟨y, hy, rfl⟩ := pickO_get ho'
  obtain ⟨hx1, hx2⟩ := (hmem x).1 (List.mem_of_getElem? hx)
  obtain ⟨hy1, hy2⟩ := (hmem y).1 (List.mem_of_getElem? hy)
  have hle : x ≤ y ∧ (i < k → x < y) := by
   obtain ⟨hil, hxe⟩ := List.getElem?_eq_some_iff.1 hx
   obtain ⟨hkl, hye⟩ := List.getElem?_eq_some_iff.1 hy
   have hlt : i < k → x < y := fun hlt => by
    have := List.pairwise_iff_getElem.1 hpw i k hil hkl hlt
    rw [hxe, hye] at this; exact this
   refine ⟨?_, hlt⟩
   rcases Nat.lt_or_ge i k with hl | hl
   ·have := hlt hl; omega
   ·have e : i = k := by omega
    subst e
    rw [hx] at hy; cases hy; exact Nat.le_refl _
  obtain ⟨g1, g2⟩ := pl.ssa x y hx1 hy1 d hd
  refine ⟨fun hm => ?_, fun hlt => g2 (by have := hle.2 hlt; omega)⟩
  rcases g1 hm with g1 | ⟨_, g1⟩
  ·have := pl.lt x y hx1 g1
   omega
  ·omega) h
 refine ⟨sF, k1, fun t ht => k2 t fun o ho => ?_, fun i hi hs => k3 _ ?_⟩
 ·obtain ⟨k, hk, rfl⟩ := pickO_mem ho
  obtain ⟨a, b⟩ := (hmem k).1 hk
  exact ht k a b
 ·exact List.mem_map.2 ⟨i, (hmem i).2 ⟨hi, hs⟩, rfl⟩

def PFrame2 (S : St) (ops : Array Oper) (sg : Nat → Nat) (j : Nat) (done : Nat → Prop) (s : Fr) (a : Act) : Prop :=
 ∀ t, (∃ k, k < ops.size ∧ (sg k % 2 = 0 ∧ sg k ≤ 2 * j) ∧ ¬ done k ∧ (opAt ops.toList k).dst = some t) ∨ VRel S (s t) (a.tmps.getD t undef)

theorem put_getD {a : Act} {d : Option Tmp} {cv : Value} {df : List Deferred} {t : Nat} (h : d ≠ some t) : ({ a with defers := df }.put d cv).tmps.getD t undef = a.tmps.getD t undef := by
 cases d with
 | none => rfl
 | some d =>
   have : d ≠ t := fun e => h (by rw [e])
   simp [Act.put, Array.getD_eq_getD_getElem?, Array.getElem?_setIfInBounds_ne this]
theorem put_getD_same {a : Act} {t : Nat} {cv : Value} {df : List Deferred} (h : t < a.tmps.size) : ({ a with defers := df }.put (some t) cv).tmps.getD t undef = cv := by
 simp [Act.put, Array.getD_eq_getD_getElem?, h]
theorem put_getD' {a : Act} {d : Option Tmp} {cv : Value} {t : Nat} (h : d ≠ some t) : (a.put d cv).tmps.getD t undef = a.tmps.getD t undef := put_getD (df := a.defers) h

end Go.V
end
section
set_option linter.unusedVariables false
namespace Go.V
set_option linter.unusedSectionVars false
variable [Inhabited GivT]
def preOf (stages : List Stg) (j : Nat) : List Nat := (stages.take j).flatMap (·.1)
theorem preOf_succ {stages : List Stg} {j : Nat} {x : Stg} (h : stages[j]? = some x) : preOf stages (j + 1) = preOf stages j ++ x.1 := by
 obtain ⟨h1, h2⟩ := List.getElem?_eq_some_iff.1 h
 simp only [preOf]
 rw [List.take_add_one, h, List.flatMap_append]
 simp
theorem draw_run2 {r : Option Nat} {P : Program} {mm : Option Tmp → Bool} {n : Nat} {ops : Array Oper} {Q : Post} {sg : Nat → Nat} {stages : List Stg} {last : List Nat} (pl : Plan P ops sg stages last)
  (hr : r = none ∨ ops.toList.all (fun o => quietOk o.op) = true) :
  ∀ (l : List Nat) (done : Nat → Prop) (j : Nat) (s : Fr) (ds : List AD) (H : Hp) (S : St) (a : Act), Topo ops done l → (∀ j k, done k → Anc ops j k → done j) →
    (∀ i, i < ops.size → done i → sg i ≤ 2 * j) → (∀ i, i < ops.size → sg i % 2 = 1 → sg i < 2 * j → done i) →
    (∀ i, i < ops.size → sg i % 2 = 0 → sg i ≤ 2 * j → ¬ done i → QF r P n ops.toList H s (opAt ops.toList i)) →
    vcD' P mm n ops.toList (preOf stages j) (stages.drop j) last s ds H Q →
    a.tmps.size = n → HRel S H → DRel S ds a.defers → PFrame2 S ops sg j done s a → wpOpsIn (FW r) 0 P ops (Lift S n Q) l a S.w := by
 intro l
 induction l with
 | nil =>
   intro done j s ds H S a ht hc I1 I2 hfact hv hsz hH hD hP
   have hall : ∀ i, i < ops.size → done i := fun i hi => (ht.all i hi).resolve_right (by simp)
   have hj : stages.length ≤ j := by
    rcases Nat.lt_or_ge j stages.length with hlt | hge
    ·rcases hx : stages[j] with ⟨st, kp, e⟩
     have hs : stages[j]? = some (st, kp, e) := by rw [List.getElem?_eq_getElem hlt, hx]
     obtain ⟨_, g2, g3, _⟩ := pl.st j st kp e hs
     have := I1 e g2 (hall e g2)
     have := (g3 e g2).2 rfl
     omega
    ·exact hge
   have hF : FRel S s a := fun t => by
    rcases hP t with ⟨k, hk, _, hnd, _⟩ | h
    ·exact absurd (hall k hk) hnd
    ·exact h
   rw [List.drop_eq_nil_of_le hj] at hv
   exact ⟨S, .normal, s, ds, H, rfl, Le.refl S, hH, hF, hD, hsz, trivial, hv⟩
 | cons i l ih =>
   intro done j s ds H S a ht hc I1 I2 hfact hv hsz hH hD hP
   have hi := ht.lt i (by simp)
   have hni : ¬ done i := ht.apart i (by simp)
   have ho := opAt_get hi
   have hread : ∀ t, t ∈ readsOf ops.toList (opAt ops.toList i) → VRel S (s t) (a.tmps.getD t undef) := by
    intro t htr
    rcases hP t with ⟨k, hk, hkq, hnd, hd⟩ | h
    ·rcases (pl.ssa i k hi hk t hd).1 htr with g | ⟨_, g⟩
     ·exact absurd (ht.head hc (pl.anc _ _ g)) hnd
     ·omega
    ·exact h
   have hops : ∀ x ∈ (opAt ops.toList i).op.operands.toList, VRel S (opA s x) (a.eval x) := by
    intro x hx
    cases x with
    | tmp t => exact hread t (mem_reads_op hx)
    | const v => exact .lit v
    | global g => exact .any _
    | func f => exact .func rfl rfl (fun k hk => absurd hk (by simp)) (fun k hk => absurd hk (by simp))
   by_cases hev : sg i % 2 = 0
   ·-- a quiet operation
    have hle : sg i ≤ 2 * j := by
     apply Classical.byContradiction
     intro hgt
     have := pl.le i hi
     have hlt : j < stages.length := by omega
     rcases hx : stages[j] with ⟨st, kp, e⟩
     have hs : stages[j]? = some (st, kp, e) := by rw [List.getElem?_eq_getElem hlt, hx]
     obtain ⟨_, g2, g3, g4, _⟩ := pl.st j st kp e hs
     have hde := ht.head hc (pl.anc _ _ (g4 i hi (by omega)))
     have := I1 e g2 hde
     have := (g3 e g2).2 rfl
     omega
    obtain ⟨hd, v, hv', hg⟩ := (hfact i hi hev hle hni).fact
    have ih' : ∀ (S' : St) (cv : Value), Le S S' → HRel S' H → VRel S' v cv → wpOpsIn (FW r) 0 P ops (Lift S n Q) l (a.put (opAt ops.toList i).dst cv) S'.w := by
     intro S' cv hle' hH' hvr
     refine lift_wpOpsIn hle' l _ _ (ih (fun j => done j ∨ j = i) j s ds H S' _ ht.tail (ht.closed hc) ?_ (fun x hx ho hl => .inl (I2 x hx ho hl)) ?_ hv ?_ hH' ?_ ?_)
     ·rintro x hx (hd | rfl)
      ·exact I1 x hx hd
      ·exact hle
     ·intro x hx he hl hnd
      exact hfact x hx he hl fun h => hnd (.inl h)
     ·have := put_size (a := a) (d := (opAt ops.toList i).dst) (cv := cv) (df := a.defers)
      exact this.trans hsz
     ·have := put_defers (a := a) (d := (opAt ops.toList i).dst) (cv := cv) (df := a.defers)
      have e : (a.put (opAt ops.toList i).dst cv).defers = a.defers := this
      rw [e]; exact hD.mono hle'
     ·intro t
      by_cases hdt : (opAt ops.toList i).dst = some t
      ·right
       rw [hv' t hdt]
       have ht' : t < a.tmps.size := by rw [hsz]; rw [hdt] at hd; exact hd
       rw [hdt]
       have := put_getD_same (a := a) (t := t) (cv := cv) (df := a.defers) ht'
       rw [show (a.put (some t) cv).tmps.getD t undef = cv from this]
       exact hvr
      ·rcases hP t with ⟨k, hk, hkq, hnd, hd'⟩ | h
       ·left
        refine ⟨k, hk, hkq, ?_, hd'⟩
        rintro (hx | rfl)
        ·exact hnd hx
        ·exact hdt hd'
       ·right
        rw [put_getD' hdt]
        exact h.mono hle'
    simp only [wpOpsIn, ho]
    generalize opAt ops.toList i = o at *
    cases hgd : o.guard with
    | none =>
      rw [hgd] at hg
      simp only [Region.wanted, hgd, if_true]
      exact hg S a _ _ hH hops ih'
    | some jw =>
      obtain ⟨jj, w⟩ := jw
      rw [hgd] at hg
      obtain ⟨b, v0, hb, rfl, hex⟩ := hg
      have hwant : Region.wanted o (yielded ops a.tmps) = b := wanted_rel hgd (fun q d hq hd' => hread d (mem_reads_guard hgd hq hd')) hb
      rw [hwant]
      cases hwb : b with
      | false =>
        simp only [Bool.false_eq_true, if_false]
        exact ⟨fun _ _ => trivial, ih' S undef (Le.refl S) hH (.under (fun x => by rw [hwb] at x; cases x) fun _ => rfl)⟩
      | true =>
        simp only [if_true]
        exact hex hwb S a _ _ hH hops fun S' cv hle hH' hvr => ih' S' cv hle hH' (.under (fun _ => hvr) fun x => by rw [hwb] at x; cases x)
   ·-- an effect
    have hlow : 2 * j < sg i := by
     apply Classical.byContradiction
     intro h
     exact hni (I2 i hi (by omega) (by omega))
    have hlt : j < stages.length := by have := pl.le i hi; omega
    rcases hx : stages[j] with ⟨st, kp, e⟩
    have hs : stages[j]? = some (st, kp, e) := by rw [List.getElem?_eq_getElem hlt, hx]
    obtain ⟨_, g2, g3, g4, g5⟩ := pl.st j st kp e hs
    have hsi : sg i = 2 * j + 1 := by
     apply Classical.byContradiction
     intro h
     have hde := ht.head hc (pl.anc _ _ (g4 i hi (by omega)))
     have := I1 e g2 hde
     have := (g3 e g2).2 rfl
     omega
    have hei : i = e := (g3 i hi).1 hsi
    subst hei
    have hdrop : stages.drop j = (st, kp, i) :: stages.drop (j + 1) := by
     rw [List.drop_eq_getElem_cons hlt, hx]
    rw [hdrop] at hv
    obtain ⟨hd, hgn, heff⟩ := hv
    have hq : r = none ∨ ∀ c, (opAt ops.toList i).op ≠ .defer c := hr.imp (fun x => x) fun hall c e => by
     have hm : opAt ops.toList i ∈ ops.toList := List.mem_of_getElem? (i := i) (by simpa using ho)
     have := List.all_eq_true.1 hall _ hm
     rw [e] at this; cases this
    have hnext : hdS (stages.drop (j + 1)) last = (List.range ops.size).filter fun x => sg x == 2 * (j + 1) := by
     rcases Nat.lt_or_ge (j + 1) stages.length with h1 | h1
     ·rcases hx' : stages[j + 1] with ⟨st', kp', e'⟩
      have hs' : stages[j + 1]? = some (st', kp', e') := by rw [List.getElem?_eq_getElem h1, hx']
      rw [List.drop_eq_getElem_cons h1, hx']
      exact (pl.st (j + 1) st' kp' e' hs').1
     ·rw [List.drop_eq_nil_of_le h1]
      have : j + 1 = stages.length := by omega
      rw [this]; exact pl.last
    simp only [wpOpsIn, ho]
    have hw : Region.wanted (opAt ops.toList i) (yielded ops a.tmps) = true := by simp [Region.wanted, hgn]
    rw [hw]
    simp only [if_true]
    refine effA_sound heff hq hH hops hD _ _ ?_ ?_
    ·rintro S' cv v ds' df H' hle hH' hv' hD' ⟨hkp, hk⟩
     rw [vcD_eq, hnext, ← preOf_succ hs] at hk
     obtain ⟨sF, k1, k2, k3⟩ := stage_facts (r := r) pl (by omega) hk
     have hkf := vcRs_fact (r := r) _ hkp
     refine lift_wpOpsIn hle l _ _ (ih (fun x => done x ∨ x = i) (j + 1) sF ds' H' S' _ ht.tail (ht.closed hc) ?_ ?_ ?_ k1 (by rw [put_size]; exact hsz) hH' (by rw [put_defers]; exact hD') ?_)
     ·rintro x hx (hd | rfl)
      ·have := I1 x hx hd; omega
      ·omega
     ·intro x hx ho hl
      by_cases h : sg x < 2 * j
      ·exact .inl (I2 x hx ho h)
      ·exact .inr ((g3 x hx).1 (by omega))
     ·intro x hx he hl hnd
      by_cases h : sg x = 2 * (j + 1)
      ·exact k3 x hx h
      ·have hxl : sg x ≤ 2 * j := by omega
       have hnx : ¬ done x := fun h => hnd (.inl h)
       have base : QF r P n ops.toList H' s (opAt ops.toList x) := by
        rcases g5 x hx he hxl with hb | hf | hm
        ·exact absurd (ht.head hc (pl.anc _ _ hb)) hnx
        ·exact (hfact x hx he hxl hnx).move hf H'
        ·exact hkf _ (List.mem_map.2 ⟨x, hm, rfl⟩)
       have hpi : ∀ t, (opAt ops.toList i).dst ≠ some t → put s (opAt ops.toList i).dst v t = s t := fun t h => by
        cases hdd : (opAt ops.toList i).dst with
        | none => rfl
        | some d => simp only [put]; rw [if_neg]; intro e; exact h (by rw [hdd, e])
       refine base.congr (fun t htr => ?_) (fun d hd => ?_)
       ·rw [k2 t fun y hy hys hyd => ?_, hpi t fun hid => ?_]
        ·rcases (pl.ssa x i hx hi t hid).1 htr with g | ⟨g, _⟩
         ·have := pl.ord x i hx hi g; omega
         ·exact hnx (ht.head hc (pl.anc _ _ g))
        ·rcases (pl.ssa x y hx hy t hyd).1 htr with g | ⟨_, g⟩
         ·have := pl.ord x y hx hy g; omega
         ·omega
       ·rw [k2 d fun y hy hys hyd => ?_, hpi d fun hid => ?_]
        ·exact (pl.ssa x i hx hi d hid).2 (fun e => by rw [← e] at hxl; omega) hd
        ·exact (pl.ssa x y hx hy d hyd).2 (fun e => by rw [e] at hys; omega) hd
     ·intro t
      by_cases hex : ∃ k, k < ops.size ∧ (sg k % 2 = 0 ∧ sg k ≤ 2 * (j + 1)) ∧ ¬ (done k ∨ k = i) ∧ (opAt ops.toList k).dst = some t
      ·exact .inl hex
      ·right
       have hst : ∀ y, y < ops.size → sg y = 2 * (j + 1) → (opAt ops.toList y).dst ≠ some t := fun y hy hys hyd =>
        hex ⟨y, hy, ⟨by omega, by omega⟩, fun h => by
         rcases h with h | h
         ·have := I1 y hy h; omega
         ·rw [h] at hys; omega, hyd⟩
       rw [k2 t hst]
       by_cases hdt : (opAt ops.toList i).dst = some t
       ·rw [hdt]
        have ht' : t < a.tmps.size := by rw [hsz]; rw [hdt] at hd; exact hd
        rw [put_getD_same ht']
        simp only [put, if_true]
        exact hv'
       ·rw [put_getD hdt]
        have : put s (opAt ops.toList i).dst v t = s t := by
         cases hdd : (opAt ops.toList i).dst with
         | none => rfl
         | some d => simp only [put]; rw [if_neg]; intro e; exact hdt (by rw [hdd, e])
        rw [this]
        rcases hP t with ⟨k, hk, hkq, hnd, hd'⟩ | h
        ·exact absurd ⟨k, hk, ⟨hkq.1, by omega⟩, fun h => h.elim hnd fun e => hdt (by rw [← e]; exact hd'), hd'⟩ hex
        ·exact h.mono hle
    ·intro S' cv v H' hle hH' hv' hk
     refine ⟨S', .pan v, wipe (pickO ops.toList (preOf stages j ++ st)) s, ds, H', rfl, hle, hH', fun t => ?_, hD.mono hle, hsz, ⟨cv, rfl, hv'⟩, hk⟩
     simp only [wipe]
     split
     ·exact .any _
     ·rename_i hno
      rcases hP t with ⟨k, hk, hkq, hnd, hd'⟩ | h
      ·exfalso
       apply hno
       rw [List.any_eq_true]
       refine ⟨opAt ops.toList k, List.mem_map.2 ⟨k, ?_, rfl⟩, by rw [hd']; simp⟩
       rw [show st = (st, kp, i).1 from rfl, ← preOf_succ hs]
       obtain ⟨q, hq⟩ : ∃ q, sg k = 2 * q := ⟨sg k / 2, by omega⟩
       have hql : q < stages.length := by omega
       rcases hxq : stages[q] with ⟨st', kp', e'⟩
       have hsq : stages[q]? = some (st', kp', e') := by rw [List.getElem?_eq_getElem hql, hxq]
       have hst' := (pl.st q st' kp' e' hsq).1
       simp only [preOf, List.mem_flatMap]
       refine ⟨(st', kp', e'), List.mem_of_getElem? (i := q) (by rw [List.getElem?_take_of_lt (by omega)]; exact hsq), ?_⟩
       show k ∈ st'
       rw [hst', List.mem_filter, List.mem_range]
       exact ⟨hk, by simp [hq]⟩
      ·exact h.mono hle

theorem wps_draw2 {r : Option Nat} {P : Program} {mm : Option Tmp → Bool} {n id : Nat} {ops : Array Oper} {s : Fr} {ds : List AD} {H : Hp} {Q : Post} (sg : List Nat) (stages : List Stg) (last : List Nat)
  (hr : r = none ∨ ops.toList.all (fun o => quietOk o.op) = true) (hok : draw2Ok P ops sg stages last = true) (h : vcD P mm n ops.toList [] stages last s ds H Q) : WPS r P n (.region id ops true) s ds H Q := by
 obtain ⟨h1, pl⟩ := draw2_plan hok
 rw [vcD_eq] at h
 have hst : hdS stages last = (List.range ops.size).filter fun x => sg.getD x 0 == 2 * 0 := by
  cases stages with
  | nil => exact pl.last
  | cons x r => obtain ⟨st, kp, e⟩ := x; exact (pl.st 0 st kp e rfl).1
 rw [hst] at h
 obtain ⟨sF, k1, k2, k3⟩ := stage_facts (r := r) pl (by omega) h
 intro S a hn hH hF hD
 refine wpIn_region_draw fun t => ?_
 have hsch : Region.schedule (P.follows .mixedOrders) ops t = Region.linearise .any ops t := by
  unfold Region.schedule
  rw [if_pos h1]
 rw [hsch]
 have hle : Le S { S with w := { S.w with drawn := S.w.drawn + 1 } } :=
  ⟨rfl, rfl, rfl, Nat.le_refl _, fun _ h => h, fun _ _ => rfl, fun _ _ _ => rfl, Nat.le_refl _, fun _ c _ _ h => ⟨c, h, rfl⟩⟩
 have hH' : HRel { S with w := { S.w with drawn := S.w.drawn + 1 } } H :=
  ⟨hH.fresh, hH.immlt, fun i o ho => (hH.obj i o ho).keep hle (fun _ => rfl) (fun _ _ => rfl) (fun _ _ _ h => h), hH.inj, fun p hp => (hH.giv p hp).mono hle⟩
 refine lift_wpOpsIn hle _ _ _ (draw_run2 (mm := mm) (sg := fun i => sg.getD i 0) pl hr (Region.linearise .any ops t) (fun _ => False) 0 sF ds H _ a (linearise_topo pl.edge t) (fun _ _ h => h.elim) (fun _ _ h => h.elim) (fun _ _ _ h => by omega)
  (fun i hi he hl _ => k3 i hi (by omega)) k1 hn hH' (hD.mono hle) ?_)
 intro t
 by_cases hx : ∃ k, k < ops.size ∧ (sg.getD k 0 % 2 = 0 ∧ sg.getD k 0 ≤ 2 * 0) ∧ (opAt ops.toList k).dst = some t
 ·obtain ⟨k, a1, a2, a3⟩ := hx
  exact .inl ⟨k, a1, a2, fun h => h, a3⟩
 ·right
  rw [k2 t (fun i hi h0 e => hx ⟨i, hi, ⟨by omega, by omega⟩, e⟩)]
  exact (hF t).mono hle

end Go.V
end
section
set_option linter.unusedVariables false
namespace Go.V
set_option linter.unusedSectionVars false
variable [Inhabited GivT]
def condA (x : AV) (t f : Prop) : Prop := match x with
 | .lit (.bool b) => (b = true → t) ∧ (b = false → f)
 | _ => False

def vcC (r : Option Nat) (P : Program) (m : Option Tmp → Bool) (n : Nat) : Code → Fr → List AD → Hp → Post → Prop
 | .skip, s, ds, H, Q => Q .normal s ds H
 | .label _, s, ds, H, Q => Q .normal s ds H
 | .ret, s, ds, H, Q => Q .ret s ds H
 | .exit id, s, ds, H, Q => Q (.exit id) s ds H
 | .seq a b, s, ds, H, Q => vcC r P m n a s ds H (Post.thn (fun s ds H => vcC r P m n b s ds H Q) Q)
 | .block id c, s, ds, H, Q => vcC r P m n c s ds H (Post.inBlk id Q)
 | .cond c x y, s, ds, H, Q => condA (opA s c) (vcC r P m n x s ds H Q) (vcC r P m n y s ds H Q)
 | .region id ops d, s, ds, H, Q => match d with
   | false => (r = none ∨ ops.toList.all (fun o => quietOk o.op) = true) ∧ vcOps P m n ops.toList ops.toList s ds H Q
   | true => WPS r P n (.region id ops true) s ds H Q
 | .loop c, s, ds, H, Q => WPS r P n (.loop c) s ds H Q
 | .rangeFunc f p a b, s, ds, H, Q => WPS r P n (.rangeFunc f p a b) s ds H Q
 | .scope c, s, ds, H, Q => vcC r P m n c s ds H Q
 | .goto _, _, _, _, _ => False
 | .refuse _, _, _, _, _ => False

theorem stepR_scope {P : Program} {b : Frame} {a : Act} {k : List Item} {cs : List Frame} {w : World} {c : Code} : step P (lone (b.atR a (.code (.scope c) :: k)) cs w) = .next (lone (b.atR a (.code c :: .inScope c :: k)) cs w) :=
 step_lone_go (by simp [stepG, stepG.exec, Frame.atR])
theorem stepR_inScope {P : Program} {b : Frame} {a : Act} {k : List Item} {cs : List Frame} {w : World} {c : Code} : step P (lone (b.atR a (.inScope c :: k)) cs w) = .next (lone (b.atR a k) cs w) :=
 step_lone_go (by simp [stepG, stepG.exec, Frame.atR])
theorem wps_scope {r : Option Nat} {P : Program} {n : Nat} {c : Code} {s : Fr} {ds : List AD} {H : Hp} {Q : Post} (h : WPS r P n c s ds H Q) : WPS r P n (.scope c) s ds H Q := by
 intro S a hn hH hF hD b k cs hro hb hr
 have h0 : (lone (b.atR a (.code (.scope c) :: k)) cs S.w).fenced P (FW r) := fenced_calm hb hr rfl
 obtain ⟨e, a₁, w₁, hq, harr⟩ := h S a hn hH hF hD b (.inScope c :: k) cs hro hb hr
 cases e with
 | normal => exact ⟨.normal, a₁, w₁, hq, .head h0 stepR_scope (StepsIn.trans harr (.one (fenced_calm hb hr rfl) stepR_inScope))⟩
 | exit id =>
   have hx : exitTo id (.inScope c :: k) = exitTo id k := by simp [exitTo]
   exact ⟨.exit id, a₁, w₁, hq, fun k' hk => .head h0 stepR_scope (harr.1 k' (by rw [hx]; exact hk)),
    fun hr' hk => let ⟨k₁, h1, h2⟩ := harr.2 hr' (by rw [hx]; exact hk); ⟨k₁, h1, .head h0 stepR_scope h2⟩⟩
 | goto l => obtain ⟨S1, x1, s1, ds1, H1, _, _, _, _, _, _, hx, _⟩ := hq; cases x1 <;> simp [XRel] at hx
 | ret => exact ⟨_, a₁, w₁, hq, .of_steps (.one h0 stepR_scope) harr⟩
 | panic ch => exact ⟨_, a₁, w₁, hq, .of_steps (.one h0 stepR_scope) harr⟩
 | outgrown => exact ⟨_, a₁, w₁, hq, .of_steps (.one h0 stepR_scope) harr⟩

theorem vcC_sound {r : Option Nat} {P : Program} {m : Option Tmp → Bool} {n : Nat} : ∀ (c : Code) {s : Fr} {ds : List AD} {H : Hp} {Q : Post}, vcC r P m n c s ds H Q → WPS r P n c s ds H Q
 | .skip, s, ds, H, Q, h => wps_skip h
 | .label _, s, ds, H, Q, h => wps_label h
 | .ret, s, ds, H, Q, h => wps_ret h
 | .exit id, s, ds, H, Q, h => wps_exit h
 | .seq a b, s, ds, H, Q, h => wps_seq ((vcC_sound a h).mono fun x s ds H h => by
   cases x with
   | normal => exact vcC_sound b h
   | _ => exact h)
 | .block id c, s, ds, H, Q, h => wps_block (vcC_sound c h)
 | .cond c x y, s, ds, H, Q, h => by
   simp only [vcC, condA] at h
   split at h
   case h_2 => exact h.elim
   case h_1 b hb => exact wps_cond hb (fun e => vcC_sound x (h.1 e)) (fun e => vcC_sound y (h.2 e))
 | .region id ops d, s, ds, H, Q, h => by
   cases d with
   | false => exact wps_region h.1 h.2
   | true => exact h
 | .loop c, s, ds, H, Q, h => h
 | .rangeFunc f p a b, s, ds, H, Q, h => h
 | .scope c, s, ds, H, Q, h => wps_scope (vcC_sound c h)
 | .goto _, _, _, _, _, h => h.elim
 | .refuse _, _, _, _, _, h => h.elim

theorem Post.thn_normal (K : Fr → List AD → Hp → Prop) (Q : Post) (s : Fr) (ds : List AD) (H : Hp) : Post.thn K Q .normal s ds H = K s ds H := rfl
theorem FnPost_pan (P : Program) (fn : Func) (R : Res → Hp → Prop) (v : AV) (s : Fr) (ds : List AD) (H : Hp) : FnPost P fn R (.pan v) s ds H = (ds = [] ∧ R (.pan v) H) := rfl
theorem FnPost_exit (P : Program) (fn : Func) (R : Res → Hp → Prop) (i : Nat) (s : Fr) (ds : List AD) (H : Hp) : FnPost P fn R (.exit i) s ds H = False := rfl

theorem put_some (s : Fr) (d : Nat) (v : AV) (t : Nat) : put s (some d) v t = if t = d then v else s t := rfl
theorem put_none (s : Fr) (v : AV) : put s none v = s := rfl
theorem Fr.of_nil (t : Nat) : Fr.of [] t = .any := rfl
theorem Fr.of_cons (i : Nat) (v : AV) (l : List (Nat × AV)) (t : Nat) : Fr.of ((i, v) :: l) t = if t = i then v else Fr.of l t := rfl
theorem Hp.set_at (H : Hp) (i : Nat) (o : Obj) (j : Nat) : H.set i o j = if j = i then some o else H j := rfl

theorem want_true (b : Bool) : want true b = b := rfl
theorem want_false (b : Bool) : want false b = !b := rfl

/-- A function of the program, entered. -/
theorem tri_go {P : Program} {f : FuncId} {fn : Func} {c : Code} {caps args : List AV} {H : Hp} {R : Res → Hp → Prop} (m : Option Tmp → Bool) (hf : P.funcs[f]? = some fn) (hname : (fn.name == "runtime.NumGoroutine") = false)
  (hb : fn.body = some c) (hlen : (args ++ caps).length ≤ fn.ntmps) (hbody : vcC none P m fn.ntmps c (argFr (args ++ caps)) [] H (FnPost P fn R)) : Tri P (.func (.func f) [] caps) args H R :=
 tri_func hf hname hb hlen (vcC_sound c hbody)

/-- The same, nothing being turned at the end. -/
def FnPost0 (P : Program) (fn : Func) (R : Res → Hp → Prop) : Post := fun x s ds H => match x with
 | .normal => ds = [] ∧ resA P fn.results.toList s H fun vs => R (.ret (retA vs)) H
 | .ret => ds = [] ∧ resA P fn.results.toList s H fun vs => R (.ret (retA vs)) H
 | .pan v => ds = [] ∧ R (.pan v) H
 | .exit _ => False

theorem FnPost0_normal (P : Program) (fn : Func) (R : Res → Hp → Prop) (s : Fr) (ds : List AD) (H : Hp) : FnPost0 P fn R .normal s ds H = (ds = [] ∧ resA P fn.results.toList s H fun vs => R (.ret (retA vs)) H) := rfl
theorem FnPost0_ret (P : Program) (fn : Func) (R : Res → Hp → Prop) (s : Fr) (ds : List AD) (H : Hp) : FnPost0 P fn R .ret s ds H = (ds = [] ∧ resA P fn.results.toList s H fun vs => R (.ret (retA vs)) H) := rfl
theorem FnPost0_pan (P : Program) (fn : Func) (R : Res → Hp → Prop) (v : AV) (s : Fr) (ds : List AD) (H : Hp) : FnPost0 P fn R (.pan v) s ds H = (ds = [] ∧ R (.pan v) H) := rfl
theorem FnPost0_exit (P : Program) (fn : Func) (R : Res → Hp → Prop) (i : Nat) (s : Fr) (ds : List AD) (H : Hp) : FnPost0 P fn R (.exit i) s ds H = False := rfl

theorem tri_go0 {P : Program} {f : FuncId} {fn : Func} {c : Code} {caps args : List AV} {H : Hp} {R : Res → Hp → Prop} (m : Option Tmp → Bool) (hf : P.funcs[f]? = some fn) (hname : (fn.name == "runtime.NumGoroutine") = false)
  (hb : fn.body = some c) (hlen : (args ++ caps).length ≤ fn.ntmps) (hbody : vcC none P m fn.ntmps c (argFr (args ++ caps)) [] H (FnPost0 P fn R)) : Tri P (.func (.func f) [] caps) args H R :=
 tri_func hf hname hb hlen ((vcC_sound c hbody).mono fun x s ds H h => by
  cases x with
  | normal => exact .ret h
  | ret => exact .ret h
  | pan v => exact h
  | exit i => exact h)

end Go.V
end
section
set_option linter.unusedVariables false
namespace Go.V
set_option linter.unusedSectionVars false
variable [Inhabited GivT]
inductive It where
 | code (c : Code)
 | blk (id : Nat)
 | ops (all rest : List Oper)
 | quiet (all rest tail : List Oper)
 | ef (all wl : List Oper) (kp : List Nat) (o : Oper)

def doIt (r : Option Nat) (P : Program) (m : Option Tmp → Bool) (n : Nat) (it : It) (s : Fr) (ds : List AD) (H : Hp) (Q : Post) : Prop := match it with
 | .code c => vcC r P m n c s ds H Q
 | .blk _ => Q .normal s ds H
 | .ops all rest => vcOps P m n all rest s ds H Q
 | .quiet all rest tail => vcQ P n all H rest s fun sF => vcOps P m n all tail sF ds H Q
 | .ef all wl kp o => vcE P m n all kp o s ds H (fun v ds' H' => Q .normal (put s o.dst v) ds' H') (fun v H' => Q (.pan v) (wipe wl s) ds H')

/-- What is asked behind an exit, where the items k are still to be done. -/
def TK (r : Option Nat) (P : Program) (m : Option Tmp → Bool) (n : Nat) : List It → Post → Post
 | [], Q => Q
 | it :: k, Q => fun x s ds H => match x with
   | .normal => doIt r P m n it s ds H (TK r P m n k Q)
   | .exit i => match it with
     | .blk j => if i = j then TK r P m n k Q .normal s ds H else TK r P m n k Q (.exit i) s ds H
     | _ => TK r P m n k Q (.exit i) s ds H
   | .ret => TK r P m n k Q .ret s ds H
   | .pan v => TK r P m n k Q (.pan v) s ds H

def VS (r : Option Nat) (P : Program) (m : Option Tmp → Bool) (n : Nat) (k : List It) (s : Fr) (ds : List AD) (H : Hp) (Q : Post) : Prop := TK r P m n k Q .normal s ds H
def VX (r : Option Nat) (P : Program) (m : Option Tmp → Bool) (n : Nat) (k : List It) (x : XE) (s : Fr) (ds : List AD) (H : Hp) (Q : Post) : Prop := TK r P m n k Q x s ds H

section
variable {r : Option Nat} {P : Program} {m : Option Tmp → Bool} {n : Nat} {k : List It} {s : Fr} {ds : List AD} {H : Hp} {Q : Post}
theorem VS_nil : VS r P m n [] s ds H Q = Q .normal s ds H := rfl
theorem VS_blk {id : Nat} : VS r P m n (.blk id :: k) s ds H Q = VS r P m n k s ds H Q := rfl
theorem VS_skip : VS r P m n (.code .skip :: k) s ds H Q = VS r P m n k s ds H Q := rfl
theorem VS_label {l : Nat} : VS r P m n (.code (.label l) :: k) s ds H Q = VS r P m n k s ds H Q := rfl
theorem VS_scope {c : Code} : VS r P m n (.code (.scope c) :: k) s ds H Q = VS r P m n (.code c :: k) s ds H Q := rfl
theorem VS_ret : VS r P m n (.code .ret :: k) s ds H Q = VX r P m n k .ret s ds H Q := rfl
theorem VS_exit {id : Nat} : VS r P m n (.code (.exit id) :: k) s ds H Q = VX r P m n k (.exit id) s ds H Q := rfl
theorem VX_nil {x : XE} : VX r P m n [] x s ds H Q = Q x s ds H := rfl
theorem VX_normal : VX r P m n k .normal s ds H Q = VS r P m n k s ds H Q := rfl
theorem VX_ret {it : It} : VX r P m n (it :: k) .ret s ds H Q = VX r P m n k .ret s ds H Q := rfl
theorem VX_pan {it : It} {v : AV} : VX r P m n (it :: k) (.pan v) s ds H Q = VX r P m n k (.pan v) s ds H Q := rfl
theorem VX_exit_blk {i j : Nat} : VX r P m n (.blk j :: k) (.exit i) s ds H Q = if i = j then VS r P m n k s ds H Q else VX r P m n k (.exit i) s ds H Q := rfl
theorem VX_exit_code {i : Nat} {c : Code} : VX r P m n (.code c :: k) (.exit i) s ds H Q = VX r P m n k (.exit i) s ds H Q := rfl
theorem VX_exit_ops {i : Nat} {a b : List Oper} : VX r P m n (.ops a b :: k) (.exit i) s ds H Q = VX r P m n k (.exit i) s ds H Q := rfl

theorem TK_seq {b : Code} : Post.thn (fun s ds H => vcC r P m n b s ds H (TK r P m n k Q)) (TK r P m n k Q) = TK r P m n (.code b :: k) Q := by
 funext x s ds H; cases x <;> rfl
theorem TK_blk {id : Nat} : Post.inBlk id (TK r P m n k Q) = TK r P m n (.blk id :: k) Q := by
 funext x s ds H; cases x <;> rfl
theorem VS_seq {a b : Code} : VS r P m n (.code (.seq a b) :: k) s ds H Q = VS r P m n (.code a :: .code b :: k) s ds H Q := by
 show vcC r P m n a s ds H (Post.thn _ _) = _
 rw [TK_seq]; rfl
theorem VS_block {id : Nat} {c : Code} : VS r P m n (.code (.block id c) :: k) s ds H Q = VS r P m n (.code c :: .blk id :: k) s ds H Q := by
 show vcC r P m n c s ds H (Post.inBlk _ _) = _
 rw [TK_blk]; rfl
/-- No operation that a round may not do. -/
def RQl : List Oper → Prop
 | [] => True
 | o :: r => quietOk o.op = true ∧ RQl r
def RQ (r : Option Nat) (l : List Oper) : Prop := match r with
 | none => True
 | some _ => RQl l
theorem RQ_none {l : List Oper} : RQ none l = True := rfl
theorem RQ_nil {q : Nat} : RQ (some q) [] = True := rfl
theorem RQ_cons {q : Nat} {o : Oper} {l : List Oper} : RQ (some q) (o :: l) = (quietOk o.op = true ∧ RQ (some q) l) := rfl
theorem RQ_iff {l : List Oper} : RQ r l ↔ (r = none ∨ l.all (fun o => quietOk o.op) = true) := by
 cases r with
 | none => exact ⟨fun _ => .inl rfl, fun _ => trivial⟩
 | some q =>
   show RQl l ↔ _
   induction l with
   | nil => exact ⟨fun _ => .inr rfl, fun _ => trivial⟩
   | cons o l ih =>
     simp only [RQl, ih, List.all_cons, Bool.and_eq_true, reduceCtorEq, false_or]
theorem VS_region {id : Nat} {l : List Oper} : VS r P m n (.code (.region id l.toArray false) :: k) s ds H Q = (RQ r l ∧ VS r P m n (.ops l l :: k) s ds H Q) := by
 show ((r = none ∨ _) ∧ vcOps P m n l.toArray.toList l.toArray.toList s ds H (TK r P m n k Q)) = _
 rw [List.toList_toArray]
 exact propext ⟨fun h => ⟨RQ_iff.2 h.1, h.2⟩, fun h => ⟨RQ_iff.1 h.1, h.2⟩⟩

/-- A test. -/
def CondV (r : Option Nat) (P : Program) (m : Option Tmp → Bool) (n : Nat) (v : AV) (x y : Code) (k : List It) (s : Fr) (ds : List AD) (H : Hp) (Q : Post) : Prop :=
 condA v (VS r P m n (.code x :: k) s ds H Q) (VS r P m n (.code y :: k) s ds H Q)
theorem VS_cond {c : Operand} {x y : Code} : VS r P m n (.code (.cond c x y) :: k) s ds H Q = CondV r P m n (opA s c) x y k s ds H Q := rfl
theorem CondV_true {x y : Code} : CondV r P m n (.lit (.bool true)) x y k s ds H Q = VS r P m n (.code x :: k) s ds H Q := by simp [CondV, condA]
theorem CondV_false {x y : Code} : CondV r P m n (.lit (.bool false)) x y k s ds H Q = VS r P m n (.code y :: k) s ds H Q := by simp [CondV, condA]
theorem condV {b : Bool} {x y : Code} (h1 : b = true → VS r P m n (.code x :: k) s ds H Q) (h2 : b = false → VS r P m n (.code y :: k) s ds H Q) : CondV r P m n (.lit (.bool b)) x y k s ds H Q := ⟨h1, h2⟩

/-- Behind an operation. -/
def cE (r : Option Nat) (P : Program) (m : Option Tmp → Bool) (n : Nat) (dst : Option Tmp) (all rest : List Oper) (k : List It) (s : Fr) (Q : Post) : AV → List AD → Hp → Prop :=
 fun v ds H => VS r P m n (.ops all rest :: k) (put s dst v) ds H Q
def cP (r : Option Nat) (P : Program) (m : Option Tmp → Bool) (n : Nat) (k : List It) (s : Fr) (ds : List AD) (Q : Post) : AV → Hp → Prop := fun v H => VX r P m n k (.pan v) s ds H Q
def cA (K : AV → List AD → Hp → Prop) (ds : List AD) : AV → Hp → Prop := fun v H => K v ds H
def cU (K : AV → List AD → Hp → Prop) (ds : List AD) : Hp → Prop := fun H => K (.lit undef) ds H
def cQ (K : AV → List AD → Hp → Prop) (ds : List AD) (H : Hp) : Prop → AV → Prop := fun p v => p ∧ K v ds H
def cG (r : Option Nat) (P : Program) (m : Option Tmp → Bool) (n : Nat) (g : Bool) (dst : Option Tmp) (all rest : List Oper) (k : List It) (s : Fr) (ds : List AD) (H : Hp) (Q : Post) : Prop → AV → Prop :=
 fun p v => (g = true → p) ∧ VS r P m n (.ops all rest :: k) (put s dst (.under g v)) ds H Q
def k1 (q : Prop) (K : Prop → AV → Prop) : Prop → AV → Prop := fun p v => K (q ∧ p) v
def k2 (q q' : Prop) (K : Prop → AV → Prop) : Prop → AV → Prop := fun p v => K (q ∧ q' ∧ p) v

theorem cE_eq {dst : Option Tmp} {all rest : List Oper} {v : AV} : cE r P m n dst all rest k s Q v ds H = VS r P m n (.ops all rest :: k) (put s dst v) ds H Q := rfl
theorem cP_eq {v : AV} : cP r P m n k s ds Q v H = VX r P m n k (.pan v) s ds H Q := rfl
theorem cA_eq {K : AV → List AD → Hp → Prop} {v : AV} : cA K ds v H = K v ds H := rfl
theorem cU_eq {K : AV → List AD → Hp → Prop} : cU K ds H = K (.lit undef) ds H := rfl
theorem cQ_eq {K : AV → List AD → Hp → Prop} {p : Prop} {v : AV} : cQ K ds H p v = (p ∧ K v ds H) := rfl
theorem cG_eq {g : Bool} {dst : Option Tmp} {all rest : List Oper} {p : Prop} {v : AV} : cG r P m n g dst all rest k s ds H Q p v = ((g = true → p) ∧ VS r P m n (.ops all rest :: k) (put s dst (.under g v)) ds H Q) := rfl
theorem k1_eq {q p : Prop} {K : Prop → AV → Prop} {v : AV} : k1 q K p v = K (q ∧ p) v := rfl
theorem k2_eq {q q' p : Prop} {K : Prop → AV → Prop} {v : AV} : k2 q q' K p v = K (q ∧ q' ∧ p) v := rfl

theorem VS_ops_nil {all : List Oper} : VS r P m n (.ops all [] :: k) s ds H Q = VS r P m n k s ds H Q := rfl
theorem VS_ops {all rest : List Oper} {dst : Option Tmp} {op : Op} {ty : TypeId} {pos : String} {after : Array Edge} :
  VS r P m n (.ops all (⟨dst, op, ty, pos, after, none⟩ :: rest) :: k) s ds H Q = (dstOk n dst ∧ effA P m ⟨dst, op, ty, pos, after, none⟩ s ds H (cE r P m n dst all rest k s Q) (cP r P m n k s ds Q)) := rfl

/-- A guarded operation. -/
def GdV (r : Option Nat) (P : Program) (m : Option Tmp → Bool) (n : Nat) (g : AV) (w : Bool) (o : Oper) (all rest : List Oper) (k : List It) (s : Fr) (ds : List AD) (H : Hp) (Q : Post) : Prop := match wantG g w with
 | some g => match isCall o.op with
   | false => pureA P H o.op s (cG r P m n g o.dst all rest k s ds H Q)
   | true => (∃ v, (g = true → callV P s o.op H v) ∧ VS r P m n (.ops all rest :: k) (put s o.dst (.under g v)) ds H Q) ∨
     ((g = true → effA P m o s ds H (cE r P m n o.dst all rest k s Q) (cP r P m n k s ds Q)) ∧ (g = false → VS r P m n (.ops all rest :: k) (put s o.dst .any) ds H Q))
 | none => False
theorem VS_opsG {all rest : List Oper} {dst : Option Tmp} {op : Op} {ty : TypeId} {pos : String} {after : Array Edge} {j : Nat} {w : Bool} :
  VS r P m n (.ops all (⟨dst, op, ty, pos, after, some (j, w)⟩ :: rest) :: k) s ds H Q = (dstOk n dst ∧ GdV r P m n (guardV all s j) w ⟨dst, op, ty, pos, after, some (j, w)⟩ all rest k s ds H Q) := rfl
/-- A guarded call: met by hand. -/
def GCall (r : Option Nat) (P : Program) (m : Option Tmp → Bool) (n : Nat) (g : Bool) (o : Oper) (all rest : List Oper) (k : List It) (s : Fr) (ds : List AD) (H : Hp) (Q : Post) : Prop :=
 (∃ v, (g = true → callV P s o.op H v) ∧ VS r P m n (.ops all rest :: k) (put s o.dst (.under g v)) ds H Q) ∨
       ((g = true → effA P m o s ds H (cE r P m n o.dst all rest k s Q) (cP r P m n k s ds Q)) ∧ (g = false → VS r P m n (.ops all rest :: k) (put s o.dst .any) ds H Q))
theorem GdV_quiet {b w : Bool} {dst : Option Tmp} {op : Op} {ty : TypeId} {pos : String} {after : Array Edge} {gd : Option (Nat × Bool)} {all rest : List Oper} (hc : isCall op = false) :
  GdV r P m n (.lit (.bool b)) w ⟨dst, op, ty, pos, after, gd⟩ all rest k s ds H Q = pureA P H op s (cG r P m n (want w b) dst all rest k s ds H Q) := by
 simp only [GdV, wantG, hc]
theorem GdV_quiet2 {c b w : Bool} {dst : Option Tmp} {op : Op} {ty : TypeId} {pos : String} {after : Array Edge} {gd : Option (Nat × Bool)} {all rest : List Oper} (hc : isCall op = false) :
  GdV r P m n (.under c (.lit (.bool b))) w ⟨dst, op, ty, pos, after, gd⟩ all rest k s ds H Q = pureA P H op s (cG r P m n (c && want w b) dst all rest k s ds H Q) := by
 simp only [GdV, wantG, hc]
theorem GdV_call {b w : Bool} {dst : Option Tmp} {op : Op} {ty : TypeId} {pos : String} {after : Array Edge} {gd : Option (Nat × Bool)} {all rest : List Oper} (hc : isCall op = true) :
  GdV r P m n (.lit (.bool b)) w ⟨dst, op, ty, pos, after, gd⟩ all rest k s ds H Q = GCall r P m n (want w b) ⟨dst, op, ty, pos, after, gd⟩ all rest k s ds H Q := by
 simp only [GdV, wantG, hc, GCall]
theorem GdV_call2 {c b w : Bool} {dst : Option Tmp} {op : Op} {ty : TypeId} {pos : String} {after : Array Edge} {gd : Option (Nat × Bool)} {all rest : List Oper} (hc : isCall op = true) :
  GdV r P m n (.under c (.lit (.bool b))) w ⟨dst, op, ty, pos, after, gd⟩ all rest k s ds H Q = GCall r P m n (c && want w b) ⟨dst, op, ty, pos, after, gd⟩ all rest k s ds H Q := by
 simp only [GdV, wantG, hc, GCall]
theorem gcall {g : Bool} {o : Oper} {all rest : List Oper} (v : AV) (h : g = true → callV P s o.op H v) (h' : VS r P m n (.ops all rest :: k) (put s o.dst (.under g v)) ds H Q) : GCall r P m n g o all rest k s ds H Q := .inl ⟨v, h, h'⟩
section ops
variable {K : Prop → AV → Prop} {KE : AV → List AD → Hp → Prop} {Kp : AV → Hp → Prop} {dst : Option Tmp} {ty : TypeId} {pos : String} {after : Array Edge} {gd : Option (Nat × Bool)}
theorem pu_move {x : Operand} : pureA P H (.move x) s K = K (opA s x).ok (opA s x).st := rfl
theorem pu_assign {x : Operand} : pureA P H (.assign x) s K = K (opA s x).ok (opA s x).st := rfl
theorem pu_pick {c x y : Operand} : pureA P H (.pick c x y) s K = pickA (opA s c).st (opA s x) (opA s y) (k1 (opA s c).ok K) := rfl
theorem pu_box {T : TypeId} {x : Operand} : pureA P H (.box T x) s K = boxZ P T (opA s x).st (k1 (opA s x).ok K) := rfl
theorem pu_build {T : TypeId} {ps : Array (Nat × Operand)} : pureA P H (.build T ps) s K = buildA P T (partsA s ps.toList) (k1 (partsOk s ps.toList) K) := rfl
theorem pu_buildSlice {T q : Nat} {ps : Array (Nat × Operand)} : pureA P H (.buildSlice T q ps) s K = buildSliceA P T q (partsA s ps.toList) (k1 (partsOk s ps.toList) K) := rfl
theorem pu_load {T : TypeId} {x : Operand} : pureA P H (.load T x) s K = loadA P T (opA s x).st H (k1 (opA s x).ok K) := rfl
theorem pu_nilCheck {x : Operand} : pureA P H (.nilCheck x) s K = nilCheckA P (opA s x).st (k1 (opA s x).ok K) := rfl
theorem pu_binOp {op : BinOp} {T yt : TypeId} {x y : Operand} : pureA P H (.binOp op T x y yt) s K = binA P op T x y (opA s x).st (opA s y).st (k2 (opA s x).ok (opA s y).ok K) := rfl
theorem pu_unOp {op : UnOp} {T : TypeId} {x : Operand} : pureA P H (.unOp op T x) s K = unA op (opA s x).st (k1 (opA s x).ok K) := rfl
theorem pu_convert {S T : TypeId} {x : Operand} : pureA P H (.convert S T x) s K = convA P T (opA s x).st (k2 ((P.underlying S).isSome = true) (opA s x).ok K) := rfl
theorem pu_makeInterface {T : TypeId} {x : Operand} : pureA P H (.makeInterface T x) s K = ifaceA P T (opA s x).st (k1 (opA s x).ok K) := rfl
theorem pu_makeFunc {fn : Fn} {a b : Array Operand} : pureA P H (.makeFunc fn a b) s K = K (okAll (opsA s a.toList) ∧ okAll (opsA s b.toList)) (.func fn (stAll (opsA s a.toList)) (stAll (opsA s b.toList))) := rfl
theorem pu_fieldAddr {T f : Nat} {x : Operand} : pureA P H (.fieldAddr T x f) s K = fieldAddrA P T (opA s x).st f (k1 (opA s x).ok K) := rfl
theorem pu_field {T f : Nat} {x : Operand} : pureA P H (.field T x f) s K = fieldA P T (opA s x).st f (k1 (opA s x).ok K) := rfl
theorem pu_indexAddr {T : Nat} {x i : Operand} : pureA P H (.indexAddr T x i) s K = indexAddrA P T (opA s x).st (opA s i).st (k2 (opA s x).ok (opA s i).ok K) := rfl
theorem pu_index {T : Nat} {x i : Operand} : pureA P H (.index T x i) s K = indexA P T (opA s x).st (opA s i).st (k2 (opA s x).ok (opA s i).ok K) := rfl
theorem pu_extract {i : Nat} {x : Operand} : pureA P H (.extract x i) s K = extractA (opA s x).st i (k1 (opA s x).ok K) := rfl
theorem pu_ta {S T : TypeId} {x : Operand} {b : Bool} : pureA P H (.typeAssert x S T b) s K = taA P T b (opA s x).st (k1 (opA s x).ok K) := rfl
theorem pu_lookup {T : TypeId} {x y : Operand} {b : Bool} : pureA P H (.lookup T x y b) s K = lookA P T (opA s x).st (opA s y).st b H (k2 (opA s x).ok (opA s y).ok K) := rfl
def k3 (q q' q'' : Prop) (K : Prop → AV → Prop) : Prop → AV → Prop := fun p v => K (q ∧ q' ∧ q'' ∧ p) v
theorem k3_eq {q q' q'' p : Prop} {K : Prop → AV → Prop} {v : AV} : k3 q q' q'' K p v = K (q ∧ q' ∧ q'' ∧ p) v := rfl
theorem pu_slice {T : TypeId} {x : Operand} {lo hi : Option Operand} : pureA P H (.slice T x lo hi none) s K = sliceA P T (opA s x).st (opO s lo) (opO s hi) (k3 (opA s x).ok (okO s lo) (okO s hi) K) := rfl
theorem pu_len {x : Operand} {T : TypeId} : pureA P H (.call ⟨.builtin .len, #[x], #[T]⟩) s K = lenA P T (opA s x).st (k1 (opA s x).ok K) := rfl
theorem pu_max {l : List Operand} {ts : Array TypeId} : pureA P H (.call ⟨.builtin .max, l.toArray, ts⟩) s K = mmA true (stAll (opsA s l)) (k1 (okAll (opsA s l)) K) := rfl
theorem pu_min {l : List Operand} {ts : Array TypeId} : pureA P H (.call ⟨.builtin .min, l.toArray, ts⟩) s K = mmA false (stAll (opsA s l)) (k1 (okAll (opsA s l)) K) := rfl

/-- An operation that is quiet whatever the annotation. -/
def quietOp : Op → Bool
 | .alloc _ | .box .. | .store .. | .assign _ | .buildSlice .. | .makeSlice .. | .slice .. | .panic _ | .defer _ | .makeMap .. | .mapUpdate .. | .range .. | .next .. | .entry .. => false
 | .call c => match c.callee with
   | .builtin .append => false
   | .builtin .copy => false
   | .builtin _ => true
   | _ => false
 | _ => true
theorem ef_quiet {op : Op} (h : quietOp op = true) : effA P m ⟨dst, op, ty, pos, after, gd⟩ s ds H KE Kp = pureA P H op s (cQ KE ds H) := by
 cases op <;> simp only [quietOp, Bool.false_eq_true] at h <;> try rfl
 rename_i c
 obtain ⟨cal, args, tys⟩ := c
 cases cal with
 | builtin b => cases b <;> simp only [Bool.false_eq_true] at h <;> rfl
 | value f => simp at h
 | invoke f nm => simp at h
theorem ef_alloc {T : TypeId} : effA P m ⟨dst, .alloc T, ty, pos, after, gd⟩ s ds H KE Kp = allocA P T H (cA KE ds) := rfl
theorem ef_box {T : TypeId} {x : Operand} (h : m dst = false) : effA P m ⟨dst, .box T x, ty, pos, after, gd⟩ s ds H KE Kp = pureA P H (.box T x) s (cQ KE ds H) := by
 simp only [effA, h]; rfl
theorem ef_boxM {T : TypeId} {x : Operand} (h : m dst = true) : effA P m ⟨dst, .box T x, ty, pos, after, gd⟩ s ds H KE Kp = ((opA s x).ok ∧ boxMutA (opA s x).st H (cA KE ds)) := by
 simp only [effA, h]; rfl
theorem ef_buildSlice {T q : Nat} {ps : Array (Nat × Operand)} (h : m dst = false) : effA P m ⟨dst, .buildSlice T q ps, ty, pos, after, gd⟩ s ds H KE Kp = pureA P H (.buildSlice T q ps) s (cQ KE ds H) := by
 simp only [effA, h]; rfl
theorem ef_buildMut {T q : Nat} {ps : Array (Nat × Operand)} (h : m dst = true) : effA P m ⟨dst, .buildSlice T q ps, ty, pos, after, gd⟩ s ds H KE Kp = (partsOk s ps.toList ∧ buildMutA P T q (partsA s ps.toList) H (cA KE ds)) := by
 simp only [effA, h]; rfl
theorem ef_makeSlice {T : TypeId} {x y : Operand} (h : m dst = true) : effA P m ⟨dst, .makeSlice T x y, ty, pos, after, gd⟩ s ds H KE Kp = ((opA s x).ok ∧ (opA s y).ok ∧ makeSliceA P T (opA s x).st (opA s y).st H (cA KE ds)) := by
 simp only [effA, h]; rfl
theorem ef_sliceP {T : TypeId} {x : Operand} {lo hi mx : Option Operand} (h : m dst = false) : effA P m ⟨dst, .slice T x lo hi mx, ty, pos, after, gd⟩ s ds H KE Kp = pureA P H (.slice T x lo hi mx) s (cQ KE ds H) := by
 simp only [effA, h]; rfl
theorem ef_sliceM {T : TypeId} {x y : Operand} (h : m dst = true) : effA P m ⟨dst, .slice T x none (some y) none, ty, pos, after, gd⟩ s ds H KE Kp = ((opA s x).ok ∧ (opA s y).ok ∧ sliceM P T (opA s x).st (opA s y).st H (cA KE ds)) := by
 simp only [effA, h]; rfl
theorem ef_store {T : TypeId} {x y : Operand} : effA P m ⟨dst, .store T x y, ty, pos, after, gd⟩ s ds H KE Kp = ((opA s x).ok ∧ (opA s y).ok ∧ storeA P T (opA s x).st (opA s y).st H (cU KE ds)) := rfl
theorem ef_assign {x : Operand} (h : (m dst && nilSliceOp x) = false) : effA P m ⟨dst, .assign x, ty, pos, after, gd⟩ s ds H KE Kp = pureA P H (.assign x) s (cQ KE ds H) := by
 simp only [effA, h]; rfl
def cPan (Kp : AV → Hp → Prop) (H : Hp) : AV → Prop := fun v => Kp v H
theorem cPan_eq {v : AV} : cPan Kp H v = Kp v H := rfl
theorem ef_panic {x : Operand} : effA P m ⟨dst, .panic x, ty, pos, after, gd⟩ s ds H KE Kp = ((opA s x).ok ∧ panA (opA s x).st (cPan Kp H)) := rfl
def cD (KE : AV → List AD → Hp → Prop) (ds : List AD) (H : Hp) : AD → Prop := fun d => KE (.lit undef) (d :: ds) H
theorem cD_eq {d : AD} : cD KE ds H d = KE (.lit undef) (d :: ds) H := rfl
theorem ef_defer {g : FuncId} {l : List Operand} {ts : Array TypeId} : effA P m ⟨dst, .defer ⟨.value (.func g), l.toArray, ts⟩, ty, pos, after, gd⟩ s ds H KE Kp =
  (okAll (opsA s l) ∧ KE (.lit undef) (.call g (stAll (opsA s l)) :: ds) H) := rfl
/-- Deferring a function in a slot. -/
def deferV (x : AV) (us : List AV) (ok : Prop) (K : AD → Prop) : Prop := match x with
 | .func (.func g) [] caps => ok ∧ K (.call g (us ++ caps))
 | _ => False
theorem ef_deferT {t : Nat} {l : List Operand} {ts : Array TypeId} : effA P m ⟨dst, .defer ⟨.value (.tmp t), l.toArray, ts⟩, ty, pos, after, gd⟩ s ds H KE Kp =
  deferV (opA s (.tmp t)) (stAll (opsA s l)) (okAll (opsA s l)) (cD KE ds H) := by
 show deferA s ⟨.value (.tmp t), l.toArray, ts⟩ (cD KE ds H) = _
 unfold deferA deferV
 all_goals (try dsimp only)
 all_goals (generalize opA s (.tmp t) = x; cases x with | func f a b => (cases f <;> cases a <;> rfl) | _ => rfl)
theorem ef_append {x y : Operand} {T T' : TypeId} : effA P m ⟨dst, .call ⟨.builtin .append, #[x, y], #[T, T']⟩, ty, pos, after, gd⟩ s ds H KE Kp =
  ((opA s x).ok ∧ (opA s y).ok ∧ appendA P T T' (opA s x).st (opA s y).st H (cA KE ds)) := rfl
def nM (KE : AV → List AD → Hp → Prop) (ds : List AD) (H : Hp) : Prop := ∀ id, H id = none → KE (.map id) ds (H.set id (.raw (.map #[] 0)))
theorem ef_makeMap {T : TypeId} : effA P m ⟨dst, .makeMap T none, ty, pos, after, gd⟩ s ds H KE Kp = nM KE ds H := rfl
theorem ef_mapUpdate {T : TypeId} {x y z : Operand} : effA P m ⟨dst, .mapUpdate T x y z, ty, pos, after, gd⟩ s ds H KE Kp =
  ((opA s x).ok ∧ (opA s y).ok ∧ (opA s z).ok ∧ mapUpA P T (opA s x).st (opA s y).st (opA s z).st H (cU KE ds)) := rfl
theorem ef_range {T : TypeId} {x : Operand} : effA P m ⟨dst, .range T x, ty, pos, after, gd⟩ s ds H KE Kp = ((opA s x).ok ∧ rangeA P T (opA s x).st H (cA KE ds)) := rfl
theorem ef_next {x : Operand} {b : Bool} : effA P m ⟨dst, .next x b, ty, pos, after, gd⟩ s ds H KE Kp = ((opA s x).ok ∧ nextA (opA s x).st b H (cA KE ds)) := rfl
theorem ef_entry {x : Operand} : effA P m ⟨dst, .entry x, ty, pos, after, gd⟩ s ds H KE Kp = ((opA s x).ok ∧ entryA (opA s x).st H (cA KE ds)) := rfl
theorem ef_copy {x y : Operand} {T T' : TypeId} : effA P m ⟨dst, .call ⟨.builtin .copy, #[x, y], #[T, T']⟩, ty, pos, after, gd⟩ s ds H KE Kp =
  ((opA s x).ok ∧ (opA s y).ok ∧ copyA P T (opA s x).st (opA s y).st H (cA KE ds)) := rfl
theorem ef_call {f : Operand} {l : List Operand} {ts : Array TypeId} : effA P m ⟨dst, .call ⟨.value f, l.toArray, ts⟩, ty, pos, after, gd⟩ s ds H KE Kp =
  ((opA s f).ok ∧ okAll (opsA s l) ∧ CallK P (opA s f).st (stAll (opsA s l)) H (cA KE ds) Kp) := rfl
theorem ef_invoke {x : Operand} {nm : String} {l : List Operand} {ts : Array TypeId} : effA P m ⟨dst, .call ⟨.invoke x nm, l.toArray, ts⟩, ty, pos, after, gd⟩ s ds H KE Kp =
  ((opA s x).ok ∧ okAll (opsA s l) ∧ CallK P (.func (.method nm) [] []) ((opA s x).st :: stAll (opsA s l)) H (cA KE ds) Kp) := rfl
theorem cv_call {f : Operand} {l : List Operand} {ts : Array TypeId} {v : AV} : callV P s (.call ⟨.value f, l.toArray, ts⟩) H v = ((opA s f).ok ∧ okAll (opsA s l) ∧ PTri P (opA s f).st (stAll (opsA s l)) H v) := rfl
theorem cv_invoke {x : Operand} {nm : String} {l : List Operand} {ts : Array TypeId} {v : AV} : callV P s (.call ⟨.invoke x nm, l.toArray, ts⟩) H v = ((opA s x).ok ∧ okAll (opsA s l) ∧ PTri P (.func (.method nm) [] []) ((opA s x).st :: stAll (opsA s l)) H v) := rfl
end ops
def qE (r : Option Nat) (P : Program) (m : Option Tmp → Bool) (n : Nat) (dst : Option Tmp) (all rest tail : List Oper) (k : List It) (s : Fr) (ds : List AD) (H : Hp) (Q : Post) : Prop → AV → Prop :=
 fun p v => p ∧ VS r P m n (.quiet all rest tail :: k) (put s dst v) ds H Q
def qG (r : Option Nat) (P : Program) (m : Option Tmp → Bool) (n : Nat) (g : Bool) (dst : Option Tmp) (all rest tail : List Oper) (k : List It) (s : Fr) (ds : List AD) (H : Hp) (Q : Post) : Prop → AV → Prop :=
 fun p v => (g = true → p) ∧ VS r P m n (.quiet all rest tail :: k) (put s dst (.under g v)) ds H Q
theorem qE_eq {dst : Option Tmp} {all rest tail : List Oper} {p : Prop} {v : AV} : qE r P m n dst all rest tail k s ds H Q p v = (p ∧ VS r P m n (.quiet all rest tail :: k) (put s dst v) ds H Q) := rfl
theorem qG_eq {g : Bool} {dst : Option Tmp} {all rest tail : List Oper} {p : Prop} {v : AV} : qG r P m n g dst all rest tail k s ds H Q p v = ((g = true → p) ∧ VS r P m n (.quiet all rest tail :: k) (put s dst (.under g v)) ds H Q) := rfl
/-- A call among quiet operations: met by hand. -/
def QCall (r : Option Nat) (P : Program) (m : Option Tmp → Bool) (n : Nat) (o : Op) (dst : Option Tmp) (all rest tail : List Oper) (k : List It) (s : Fr) (ds : List AD) (H : Hp) (Q : Post) : Prop :=
 ∃ v, callV P s o H v ∧ VS r P m n (.quiet all rest tail :: k) (put s dst v) ds H Q
def QGCall (r : Option Nat) (P : Program) (m : Option Tmp → Bool) (n : Nat) (g : Bool) (o : Op) (dst : Option Tmp) (all rest tail : List Oper) (k : List It) (s : Fr) (ds : List AD) (H : Hp) (Q : Post) : Prop :=
 ∃ v, (g = true → callV P s o H v) ∧ VS r P m n (.quiet all rest tail :: k) (put s dst (.under g v)) ds H Q
theorem VS_quiet_nil {all tail : List Oper} : VS r P m n (.quiet all [] tail :: k) s ds H Q = VS r P m n (.ops all tail :: k) s ds H Q := rfl
theorem VS_quiet {all rest tail : List Oper} {dst : Option Tmp} {op : Op} {ty : TypeId} {pos : String} {after : Array Edge} (hc : isCall op = false) :
  VS r P m n (.quiet all (⟨dst, op, ty, pos, after, none⟩ :: rest) tail :: k) s ds H Q = (dstOk n dst ∧ pureA P H op s (qE r P m n dst all rest tail k s ds H Q)) := by
 show (dstOk n dst ∧ _) = _
 congr 1
 show (match isCall op with | false => _ | true => _) = _
 rw [hc]; rfl
theorem VS_quiet_call {all rest tail : List Oper} {dst : Option Tmp} {op : Op} {ty : TypeId} {pos : String} {after : Array Edge} (hc : isCall op = true) :
  VS r P m n (.quiet all (⟨dst, op, ty, pos, after, none⟩ :: rest) tail :: k) s ds H Q = (dstOk n dst ∧ QCall r P m n op dst all rest tail k s ds H Q) := by
 show (dstOk n dst ∧ _) = _
 congr 1
 show (match isCall op with | false => _ | true => _) = _
 rw [hc]; rfl
def QGdV (r : Option Nat) (P : Program) (m : Option Tmp → Bool) (n : Nat) (g : AV) (w : Bool) (op : Op) (dst : Option Tmp) (all rest tail : List Oper) (k : List It) (s : Fr) (ds : List AD) (H : Hp) (Q : Post) : Prop := match wantG g w with
 | some g => match isCall op with
   | false => pureA P H op s (qG r P m n g dst all rest tail k s ds H Q)
   | true => QGCall r P m n g op dst all rest tail k s ds H Q
 | none => False
theorem VS_quietG {all rest tail : List Oper} {dst : Option Tmp} {op : Op} {ty : TypeId} {pos : String} {after : Array Edge} {j : Nat} {w : Bool} :
  VS r P m n (.quiet all (⟨dst, op, ty, pos, after, some (j, w)⟩ :: rest) tail :: k) s ds H Q = (dstOk n dst ∧ QGdV r P m n (guardV all s j) w op dst all rest tail k s ds H Q) := rfl
theorem QGdV_quiet {b w : Bool} {dst : Option Tmp} {op : Op} {all rest tail : List Oper} (hc : isCall op = false) :
  QGdV r P m n (.lit (.bool b)) w op dst all rest tail k s ds H Q = pureA P H op s (qG r P m n (want w b) dst all rest tail k s ds H Q) := by
 simp only [QGdV, wantG, hc]
theorem QGdV_quiet2 {c b w : Bool} {dst : Option Tmp} {op : Op} {all rest tail : List Oper} (hc : isCall op = false) :
  QGdV r P m n (.under c (.lit (.bool b))) w op dst all rest tail k s ds H Q = pureA P H op s (qG r P m n (c && want w b) dst all rest tail k s ds H Q) := by
 simp only [QGdV, wantG, hc]
theorem QGdV_call {b w : Bool} {dst : Option Tmp} {op : Op} {all rest tail : List Oper} (hc : isCall op = true) :
  QGdV r P m n (.lit (.bool b)) w op dst all rest tail k s ds H Q = QGCall r P m n (want w b) op dst all rest tail k s ds H Q := by
 simp only [QGdV, wantG, hc]
theorem QGdV_call2 {c b w : Bool} {dst : Option Tmp} {op : Op} {all rest tail : List Oper} (hc : isCall op = true) :
  QGdV r P m n (.under c (.lit (.bool b))) w op dst all rest tail k s ds H Q = QGCall r P m n (c && want w b) op dst all rest tail k s ds H Q := by
 simp only [QGdV, wantG, hc]
theorem qcall {op : Op} {dst : Option Tmp} {all rest tail : List Oper} (v : AV) (h : callV P s op H v) (h' : VS r P m n (.quiet all rest tail :: k) (put s dst v) ds H Q) : QCall r P m n op dst all rest tail k s ds H Q := ⟨v, h, h'⟩
theorem qgcall {g : Bool} {op : Op} {dst : Option Tmp} {all rest tail : List Oper} (v : AV) (h : g = true → callV P s op H v) (h' : VS r P m n (.quiet all rest tail :: k) (put s dst (.under g v)) ds H Q) :
  QGCall r P m n g op dst all rest tail k s ds H Q := ⟨v, h, h'⟩

/-- A region whose order is open: met by hand, with the number of its quiet operations. -/
theorem vs_drawR {id : Nat} {l : List Oper} (q : Nat) (hr : RQ r l) (hok : drawOk P l.toArray q = true) (h : VS r P m n (.quiet l (l.take q) (l.drop q) :: k) s ds H Q) : VS r P m n (.code (.region id l.toArray true) :: k) s ds H Q := by
 show WPS r P n (.region id l.toArray true) s ds H (TK r P m n k Q)
 exact wps_draw q (RQ_iff.1 hr) hok (by rw [List.toList_toArray]; exact h)
theorem vs_draw {id : Nat} {l : List Oper} (q : Nat) (hok : drawOk P l.toArray q = true) (h : VS none P m n (.quiet l (l.take q) (l.drop q) :: k) s ds H Q) : VS none P m n (.code (.region id l.toArray true) :: k) s ds H Q :=
 vs_drawR q trivial hok h

theorem VX_exit_ef {i : Nat} {all wl : List Oper} {kp : List Nat} {o : Oper} : VX r P m n (.ef all wl kp o :: k) (.exit i) s ds H Q = VX r P m n k (.exit i) s ds H Q := rfl
theorem VX_exit_quiet {i : Nat} {a b c : List Oper} : VX r P m n (.quiet a b c :: k) (.exit i) s ds H Q = VX r P m n k (.exit i) s ds H Q := rfl
def cF (r : Option Nat) (P : Program) (m : Option Tmp → Bool) (n : Nat) (all : List Oper) (kp : List Nat) (dst : Option Tmp) (k : List It) (s : Fr) (Q : Post) : AV → List AD → Hp → Prop :=
 fun v ds' H' => vcRs P n all H' s (pickO all kp) ∧ VS r P m n k (put s dst v) ds' H' Q
def cW (r : Option Nat) (P : Program) (m : Option Tmp → Bool) (n : Nat) (all : List Oper) (k : List It) (s : Fr) (ds : List AD) (Q : Post) : AV → Hp → Prop := fun v H => VX r P m n k (.pan v) (wipe all s) ds H Q
theorem cF_eq {all : List Oper} {kp : List Nat} {dst : Option Tmp} {v : AV} : cF r P m n all kp dst k s Q v ds H = (vcRs P n all H s (pickO all kp) ∧ VS r P m n k (put s dst v) ds H Q) := rfl
theorem cW_eq {all : List Oper} {v : AV} : cW r P m n all k s ds Q v H = VX r P m n k (.pan v) (wipe all s) ds H Q := rfl
theorem VS_ef {all wl : List Oper} {kp : List Nat} {dst : Option Tmp} {op : Op} {ty : TypeId} {pos : String} {after : Array Edge} :
  VS r P m n (.ef all wl kp ⟨dst, op, ty, pos, after, none⟩ :: k) s ds H Q = (dstOk n dst ∧ effA P m ⟨dst, op, ty, pos, after, none⟩ s ds H (cF r P m n all kp dst k s Q) (cW r P m n wl k s ds Q)) := by
 show vcE P m n all kp _ s ds H _ _ = _
 simp only [vcE, true_and]; rfl
def expand (all : List Oper) (pre last : List Nat) : List Stg → List It → List It
 | [], k => .quiet all (pickO all last) [] :: k
 | (st, kp, e) :: r, k => .quiet all (pickO all st) [] :: .ef all (pickO all (pre ++ st)) kp (opAt all e) :: expand all (pre ++ st) last r k
theorem expand_nil {all : List Oper} {pre last : List Nat} : expand all pre last [] k = .quiet all (pickO all last) [] :: k := rfl
theorem expand_cons {all : List Oper} {pre last st kp : List Nat} {e : Nat} {l : List Stg} : expand all pre last ((st, kp, e) :: l) k = .quiet all (pickO all st) [] :: .ef all (pickO all (pre ++ st)) kp (opAt all e) :: expand all (pre ++ st) last l k := rfl
theorem pickO_nil {all : List Oper} : pickO all [] = [] := rfl
theorem pickO_cons {all : List Oper} {i : Nat} {l : List Nat} : pickO all (i :: l) = opAt all i :: pickO all l := rfl
theorem opAt_zero {o : Oper} {l : List Oper} : opAt (o :: l) 0 = o := rfl
theorem opAt_succ {o : Oper} {l : List Oper} {i : Nat} : opAt (o :: l) (i + 1) = opAt l i := rfl
theorem vcD_expand {all : List Oper} {last : List Nat} : ∀ (st : List Stg) {pre : List Nat} {s : Fr} {ds : List AD} {H : Hp}, vcD P m n all pre st last s ds H (TK r P m n k Q) = VS r P m n (expand all pre last st k) s ds H Q
 | [], pre, s, ds, H => by simp only [vcD]; rfl
 | (st, kp, e) :: l, pre, s, ds, H => by
   simp only [vcD, vcD_expand l]
   show _ = vcQ P n all H (pickO all st) s fun sF => vcOps P m n all [] sF ds H (TK r P m n (.ef all (pickO all (pre ++ st)) kp (opAt all e) :: expand all (pre ++ st) last l k) Q)
   congr 1
   funext s'
   show _ = vcE P m n all kp (opAt all e) s' ds H _ _
   congr 1
   funext v H'
   show TK r P m n k Q (.pan v) (wipe (pickO all (pre ++ st)) s') ds H' = TK r P m n (expand all (pre ++ st) last l k) Q (.pan v) (wipe (pickO all (pre ++ st)) s') ds H'
   have : ∀ (l : List Stg) (pre' : List Nat) (f : Fr), TK r P m n (expand all pre' last l k) Q (.pan v) f ds H' = TK r P m n k Q (.pan v) f ds H' := by
    intro l
    induction l with
    | nil => intros; rfl
    | cons x l ih => obtain ⟨st, kp, e⟩ := x; intro pre' f; exact ih _ f
   exact (this l _ _).symm
/-- sg: the stage of each operation; the stages; the operations of the last stage. -/
theorem vs_draw2R {id : Nat} {l : List Oper} (sg : List Nat) (stages : List Stg) (last : List Nat) (hr : RQ r l) (hok : draw2Ok P l.toArray sg stages last = true) (h : VS r P m n (expand l [] last stages k) s ds H Q) :
  VS r P m n (.code (.region id l.toArray true) :: k) s ds H Q := by
 show WPS r P n (.region id l.toArray true) s ds H (TK r P m n k Q)
 refine wps_draw2 (mm := m) sg stages last (RQ_iff.1 hr) hok ?_
 rw [List.toList_toArray, vcD_expand]; exact h
theorem vs_draw2 {id : Nat} {l : List Oper} (sg : List Nat) (stages : List Stg) (last : List Nat) (hok : draw2Ok P l.toArray sg stages last = true) (h : VS none P m n (expand l [] last stages k) s ds H Q) :
  VS none P m n (.code (.region id l.toArray true) :: k) s ds H Q := vs_draw2R sg stages last trivial hok h
theorem vcRs_nil {all : List Oper} : vcRs P n all H s [] = True := rfl
theorem vcRs_cons {all l : List Oper} {o : Oper} : vcRs P n all H s (o :: l) = (vcR1 P n all H s o ∧ vcRs P n all H s l) := rfl
def cR (s : Fr) (dst : Option Tmp) : Prop → AV → Prop := fun p v => p ∧ dstIs s dst v
theorem cR_eq {dst : Option Tmp} {p : Prop} {v : AV} : cR s dst p v = (p ∧ dstIs s dst v) := rfl
def cRG (s : Fr) (dst : Option Tmp) (g : Bool) : Prop → AV → Prop := fun p v => (g = true → p) ∧ dstIs s dst (.under g v)
theorem cRG_eq {dst : Option Tmp} {g : Bool} {p : Prop} {v : AV} : cRG s dst g p v = ((g = true → p) ∧ dstIs s dst (.under g v)) := rfl
theorem dstIs_some {d : Tmp} {v : AV} : dstIs s (some d) v = (s d = v) := rfl
theorem dstIs_none {v : AV} : dstIs s none v = True := rfl
/-- A call that is made anew: met by hand. -/
def RCall (P : Program) (H : Hp) (s : Fr) (op : Op) (dst : Option Tmp) : Prop := ∃ v, callV P s op H v ∧ dstIs s dst v
def RGCall (P : Program) (H : Hp) (s : Fr) (g : Bool) (op : Op) (dst : Option Tmp) : Prop := ∃ v, (g = true → callV P s op H v) ∧ dstIs s dst (.under g v)
def RGd (P : Program) (H : Hp) (s : Fr) (g : AV) (w : Bool) (op : Op) (dst : Option Tmp) : Prop := match wantG g w with
 | some g => match isCall op with
   | false => pureA P H op s (cRG s dst g)
   | true => RGCall P H s g op dst
 | none => False
theorem vcR1_quiet {all : List Oper} {dst : Option Tmp} {op : Op} {ty : TypeId} {pos : String} {after : Array Edge} (hc : isCall op = false) :
  vcR1 P n all H s ⟨dst, op, ty, pos, after, none⟩ = (dstOk n dst ∧ pureA P H op s (cR s dst)) := by
 simp only [vcR1, hc]; rfl
theorem vcR1_call {all : List Oper} {dst : Option Tmp} {op : Op} {ty : TypeId} {pos : String} {after : Array Edge} (hc : isCall op = true) :
  vcR1 P n all H s ⟨dst, op, ty, pos, after, none⟩ = (dstOk n dst ∧ RCall P H s op dst) := by
 simp only [vcR1, hc]; rfl
theorem vcR1_G {all : List Oper} {dst : Option Tmp} {op : Op} {ty : TypeId} {pos : String} {after : Array Edge} {j : Nat} {w : Bool} :
  vcR1 P n all H s ⟨dst, op, ty, pos, after, some (j, w)⟩ = (dstOk n dst ∧ RGd P H s (guardV all s j) w op dst) := rfl
theorem RGd_quiet {b w : Bool} {dst : Option Tmp} {op : Op} (hc : isCall op = false) : RGd P H s (.lit (.bool b)) w op dst = pureA P H op s (cRG s dst (want w b)) := by
 simp only [RGd, wantG, hc]
theorem RGd_quiet2 {c b w : Bool} {dst : Option Tmp} {op : Op} (hc : isCall op = false) : RGd P H s (.under c (.lit (.bool b))) w op dst = pureA P H op s (cRG s dst (c && want w b)) := by
 simp only [RGd, wantG, hc]
theorem RGd_call {b w : Bool} {dst : Option Tmp} {op : Op} (hc : isCall op = true) : RGd P H s (.lit (.bool b)) w op dst = RGCall P H s (want w b) op dst := by
 simp only [RGd, wantG, hc]
theorem RGd_call2 {c b w : Bool} {dst : Option Tmp} {op : Op} (hc : isCall op = true) : RGd P H s (.under c (.lit (.bool b))) w op dst = RGCall P H s (c && want w b) op dst := by
 simp only [RGd, wantG, hc]
def wipeB : List Oper → Nat → Bool
 | [], _ => false
 | o :: l, t => (o.dst == some t) || wipeB l t
theorem wipe_eq {all : List Oper} {t : Nat} : wipe all s t = if wipeB all t = true then .any else s t := by
 have : ∀ l : List Oper, l.any (fun o => o.dst == some t) = wipeB l t := fun l => by
  induction l with
  | nil => rfl
  | cons o l ih => rw [List.any_cons, ih, wipeB]
 simp only [wipe, this]
theorem wipeB_nil {t : Nat} : wipeB [] t = false := rfl
theorem wipeB_none {t : Nat} {op : Op} {ty : TypeId} {pos : String} {after : Array Edge} {g : Option (Nat × Bool)} {l : List Oper} : wipeB (⟨none, op, ty, pos, after, g⟩ :: l) t = wipeB l t := by
 simp [wipeB]
theorem wipeB_some {t d : Nat} {op : Op} {ty : TypeId} {pos : String} {after : Array Edge} {g : Option (Nat × Bool)} {l : List Oper} : wipeB (⟨some d, op, ty, pos, after, g⟩ :: l) t = (decide (d = t) || wipeB l t) := by
 show ((some d == some t) || _) = _
 have : (some d == some t) = decide (d = t) := by by_cases h : d = t <;> simp [h]
 rw [this]

/-- What is asked at a round's end. -/
def LoopQ {σ : Type} (r : Option Nat) (P : Program) (m : Option Tmp → Bool) (n : Nat) (inv : σ → Prop) (fr : σ → List (Nat × AV)) (hp : σ → Hp) (μ : σ → Nat) (ds : List AD) (k : List It) (Q : Post) (x : σ) : Post := fun e s' ds' H' => match e with
 | .normal => Ent s' ds' H' fun s2 ds2 H2 => ∃ x', inv x' ∧ μ x' < μ x ∧ s2 = Fr.of (fr x') ∧ ds2 = ds ∧ H2 = hp x'
 | e => VX r P m n k e s' ds' H' Q

section
variable {σ : Type} {inv : σ → Prop} {fr : σ → List (Nat × AV)} {hp : σ → Hp} {μ : σ → Nat} {x : σ}
theorem LoopQ_exit {i : Nat} {ds' : List AD} : LoopQ r P m n inv fr hp μ ds k Q x (.exit i) s ds' H = VX r P m n k (.exit i) s ds' H Q := rfl
theorem LoopQ_ret {ds' : List AD} : LoopQ r P m n inv fr hp μ ds k Q x .ret s ds' H = VX r P m n k .ret s ds' H Q := rfl
theorem LoopQ_pan {v : AV} {ds' : List AD} : LoopQ r P m n inv fr hp μ ds k Q x (.pan v) s ds' H = VX r P m n k (.pan v) s ds' H Q := rfl
end
theorem vs_loop {c : Code} {σ : Type} (inv : σ → Prop) (fr : σ → List (Nat × AV)) (hp : σ → Hp) (μ : σ → Nat) (x0 : σ) (h0 : inv x0) (hs : Slots s (fr x0)) (hH : HSub H (hp x0))
  (round : ∀ x, inv x → VS r P m n [.code c] (Fr.of (fr x)) ds (hp x) (LoopQ r P m n inv fr hp μ ds k Q x)) : VS r P m n (.code (.loop c) :: k) s ds H Q := by
 show WPS r P n (.loop c) s ds H (TK r P m n k Q)
 refine wps_loop inv fr hp μ (Ent.of (fr x0) hs hH ⟨x0, h0, rfl, rfl, rfl⟩) fun x hx => ?_
 exact (vcC_sound c (round x hx)).mono fun e s ds H h => by cases e <;> exact h

/-- A round's end: the next state is told. -/
theorem loop_next {σ : Type} {inv : σ → Prop} {fr : σ → List (Nat × AV)} {hp : σ → Hp} {μ : σ → Nat} {x : σ} (x' : σ) (h : inv x') (hμ : μ x' < μ x) (hs : Slots s (fr x')) (hH : HSub H (hp x')) :
  LoopQ r P m n inv fr hp μ ds k Q x .normal s ds H := Ent.of (fr x') hs hH ⟨x', h, hμ, rfl, rfl, rfl⟩

theorem tri_v {f : FuncId} {fn : Func} {c : Code} {caps args : List AV} {R : Res → Hp → Prop} (m : Option Tmp → Bool) (hf : P.funcs[f]? = some fn) (hname : (fn.name == "runtime.NumGoroutine") = false)
  (hb : fn.body = some c) (hlen : (args ++ caps).length ≤ fn.ntmps) (hbody : VS none P m fn.ntmps [.code c] (argFr (args ++ caps)) [] H (FnPost P fn R)) : Tri P (.func (.func f) [] caps) args H R :=
 tri_go m hf hname hb hlen hbody
theorem tri_v0 {f : FuncId} {fn : Func} {c : Code} {caps args : List AV} {R : Res → Hp → Prop} (m : Option Tmp → Bool) (hf : P.funcs[f]? = some fn) (hname : (fn.name == "runtime.NumGoroutine") = false)
  (hb : fn.body = some c) (hlen : (args ++ caps).length ≤ fn.ntmps) (hbody : VS none P m fn.ntmps [.code c] (argFr (args ++ caps)) [] H (FnPost0 P fn R)) : Tri P (.func (.func f) [] caps) args H R :=
 tri_go0 m hf hname hb hlen hbody

end
end Go.V
end
section
set_option linter.unusedVariables false
namespace Go.V
set_option linter.unusedSectionVars false
variable [Inhabited GivT]
def mset (l : List Nat) : Option Tmp → Bool := fun d => match d with
 | some d => l.contains d
 | none => false
theorem mset_some (l : List Nat) (d : Nat) : mset l (some d) = l.contains d := rfl
theorem mset_none (l : List Nat) : mset l none = false := rfl

def kAgg (K : Prop → AV → Prop) : List AV → Prop := fun cs => K True (.agg cs)
theorem kAgg_eq {K : Prop → AV → Prop} {cs : List AV} : kAgg K cs = K True (.agg cs) := rfl
theorem buildA_eq {P : Program} {T : TypeId} {ps : List (Nat × AV)} {K : Prop → AV → Prop} : buildA P T ps K = match zeroT P T with
 | some z => match arT P T with
   | some (_, es, _) => okParts ps ∧ fillR es ps (z.map .lit) (kAgg K)
   | none => bT P T = true ∧ okParts ps ∧ fillA P T ps (z.map .lit) (kAgg K)
 | none => False := rfl
def kBox (K : Hp → Prop) (H : Hp) (id st n : Nat) : (Nat → List AV) → Prop := fun f => K (H.set id (.box st n f))
def kRow (K : Hp → Prop) (H : Hp) (id st n : Nat) : (Nat → List AV) → Prop := fun f => K (H.set id (.row st n f))
theorem kBox_eq {K : Hp → Prop} {H : Hp} {id st n : Nat} {f : Nat → List AV} : kBox K H id st n f = K (H.set id (.box st n f)) := rfl
theorem kRow_eq {K : Hp → Prop} {H : Hp} {id st n : Nat} {f : Nat → List AV} : kRow K H id st n f = K (H.set id (.row st n f)) := rfl
theorem storeA_eq {P : Program} {T : TypeId} {id g st i j : Nat} {y : AV} {H : Hp} {K : Hp → Prop} : storeA P T (.ref id g st i j) y H K = match H id with
 | some (.box st' n f) => g = 0 ∧ st' = st ∧ storeObj P T n st f i j y (kBox K H id st n)
 | some (.row st' n f) => g = n ∧ st' = st ∧ storeObj P T n st f i j y (kRow K H id st n)
 | _ => False := rfl

end Go.V
end
section
set_option linter.unusedVariables false
namespace Go.V
set_option linter.unusedSectionVars false
variable [Inhabited GivT]
theorem isC_move (x : Operand) : isCall (.move x) = false := (rfl)
theorem qu_move (x : Operand) : quietOp (.move x) = true := (rfl)
theorem isC_assign (x : Operand) : isCall (.assign x) = false := (rfl)
theorem isC_pick (c a b : Operand) : isCall (.pick c a b) = false := (rfl)
theorem qu_pick (c a b : Operand) : quietOp (.pick c a b) = true := (rfl)
theorem isC_alloc (T : TypeId) : isCall (.alloc T) = false := (rfl)
theorem isC_box (T : TypeId) (x : Operand) : isCall (.box T x) = false := (rfl)
theorem isC_build (T : TypeId) (ps : Array (Nat × Operand)) : isCall (.build T ps) = false := (rfl)
theorem qu_build (T : TypeId) (ps : Array (Nat × Operand)) : quietOp (.build T ps) = true := (rfl)
theorem isC_buildSlice (T n : Nat) (ps : Array (Nat × Operand)) : isCall (.buildSlice T n ps) = false := (rfl)
theorem isC_insert (T : TypeId) (m k v : Operand) : isCall (.insert T m k v) = false := (rfl)
theorem qu_insert (T : TypeId) (m k v : Operand) : quietOp (.insert T m k v) = true := (rfl)
theorem isC_load (T : TypeId) (x : Operand) : isCall (.load T x) = false := (rfl)
theorem qu_load (T : TypeId) (x : Operand) : quietOp (.load T x) = true := (rfl)
theorem isC_store (T : TypeId) (x y : Operand) : isCall (.store T x y) = false := (rfl)
theorem isC_ready (g : Nat) : isCall (.ready g) = false := (rfl)
theorem qu_ready (g : Nat) : quietOp (.ready g) = true := (rfl)
theorem isC_waits (g : Nat) : isCall (.waits g) = false := (rfl)
theorem qu_waits (g : Nat) : quietOp (.waits g) = true := (rfl)
theorem isC_nilCheck (x : Operand) : isCall (.nilCheck x) = false := (rfl)
theorem qu_nilCheck (x : Operand) : quietOp (.nilCheck x) = true := (rfl)
theorem isC_binOp (o : BinOp) (T : TypeId) (x y : Operand) (T2 : TypeId) : isCall (.binOp o T x y T2) = false := (rfl)
theorem qu_binOp (o : BinOp) (T : TypeId) (x y : Operand) (T2 : TypeId) : quietOp (.binOp o T x y T2) = true := (rfl)
theorem isC_unOp (o : UnOp) (T : TypeId) (x : Operand) : isCall (.unOp o T x) = false := (rfl)
theorem qu_unOp (o : UnOp) (T : TypeId) (x : Operand) : quietOp (.unOp o T x) = true := (rfl)
theorem isC_convert (S T : TypeId) (x : Operand) : isCall (.convert S T x) = false := (rfl)
theorem qu_convert (S T : TypeId) (x : Operand) : quietOp (.convert S T x) = true := (rfl)
theorem isC_makeInterface (T : TypeId) (x : Operand) : isCall (.makeInterface T x) = false := (rfl)
theorem qu_makeInterface (T : TypeId) (x : Operand) : quietOp (.makeInterface T x) = true := (rfl)
theorem isC_makeFunc (fn : Fn) (a b : Array Operand) : isCall (.makeFunc fn a b) = false := (rfl)
theorem qu_makeFunc (fn : Fn) (a b : Array Operand) : quietOp (.makeFunc fn a b) = true := (rfl)
theorem isC_makeMap (T : TypeId) (r : Option Operand) : isCall (.makeMap T r) = false := (rfl)
theorem isC_slice (T : TypeId) (x : Operand) (l h m : Option Operand) : isCall (.slice T x l h m) = false := (rfl)
theorem isC_fieldAddr (T : TypeId) (x : Operand) (f : Nat) : isCall (.fieldAddr T x f) = false := (rfl)
theorem qu_fieldAddr (T : TypeId) (x : Operand) (f : Nat) : quietOp (.fieldAddr T x f) = true := (rfl)
theorem isC_field (T : TypeId) (x : Operand) (f : Nat) : isCall (.field T x f) = false := (rfl)
theorem qu_field (T : TypeId) (x : Operand) (f : Nat) : quietOp (.field T x f) = true := (rfl)
theorem isC_indexAddr (T : TypeId) (x y : Operand) : isCall (.indexAddr T x y) = false := (rfl)
theorem qu_indexAddr (T : TypeId) (x y : Operand) : quietOp (.indexAddr T x y) = true := (rfl)
theorem isC_index (T : TypeId) (x y : Operand) : isCall (.index T x y) = false := (rfl)
theorem qu_index (T : TypeId) (x y : Operand) : quietOp (.index T x y) = true := (rfl)
theorem isC_lookup (T : TypeId) (x y : Operand) (c : Bool) : isCall (.lookup T x y c) = false := (rfl)
theorem qu_lookup (T : TypeId) (x y : Operand) (c : Bool) : quietOp (.lookup T x y c) = true := (rfl)
theorem isC_mapUpdate (T : TypeId) (x y z : Operand) : isCall (.mapUpdate T x y z) = false := (rfl)
theorem isC_typeAssert (x : Operand) (S T : TypeId) (c : Bool) : isCall (.typeAssert x S T c) = false := (rfl)
theorem qu_typeAssert (x : Operand) (S T : TypeId) (c : Bool) : quietOp (.typeAssert x S T c) = true := (rfl)
theorem isC_extract (x : Operand) (i : Nat) : isCall (.extract x i) = false := (rfl)
theorem qu_extract (x : Operand) (i : Nat) : quietOp (.extract x i) = true := (rfl)
theorem isC_defer (c : Call) : isCall (.defer c) = false := (rfl)
theorem isC_range (T : TypeId) (x : Operand) : isCall (.range T x) = false := (rfl)
theorem isC_next (x : Operand) (b : Bool) : isCall (.next x b) = false := (rfl)
theorem isC_entry (x : Operand) : isCall (.entry x) = false := (rfl)
theorem isC_panic (x : Operand) : isCall (.panic x) = false := (rfl)
theorem isC_makeSlice (T : TypeId) (a b : Operand) : isCall (.makeSlice T a b) = false := (rfl)
theorem isC_mapEntry (T : TypeId) (a b : Operand) : isCall (.mapEntry T a b) = false := (rfl)
theorem qu_mapEntry (T : TypeId) (a b : Operand) : quietOp (.mapEntry T a b) = true := (rfl)
theorem isC_entryStore (T : TypeId) (a b c : Operand) : isCall (.entryStore T a b c) = false := (rfl)
theorem qu_entryStore (T : TypeId) (a b c : Operand) : quietOp (.entryStore T a b c) = true := (rfl)
theorem isC_builtin (b : Builtin) (args : Array Operand) (ts : Array TypeId) : isCall (.call ⟨.builtin b, args, ts⟩) = false := (rfl)
theorem isC_value (f : Operand) (args : Array Operand) (ts : Array TypeId) : isCall (.call ⟨.value f, args, ts⟩) = true := (rfl)
theorem isC_invoke (f : Operand) (n : String) (args : Array Operand) (ts : Array TypeId) : isCall (.call ⟨.invoke f n, args, ts⟩) = true := (rfl)
theorem qu_blen (args : Array Operand) (ts : Array TypeId) : quietOp (.call ⟨.builtin .len, args, ts⟩) = true := (rfl)
theorem qu_bmax (args : Array Operand) (ts : Array TypeId) : quietOp (.call ⟨.builtin .max, args, ts⟩) = true := (rfl)
theorem qu_bmin (args : Array Operand) (ts : Array TypeId) : quietOp (.call ⟨.builtin .min, args, ts⟩) = true := (rfl)
theorem Slots_nil (s : Fr) : Slots s [] = True := (rfl)
theorem Slots_cons (s : Fr) (i : Nat) (v : AV) (l : List (Nat × AV)) : Slots s ((i, v) :: l) = (AV.Le (s i) v ∧ Slots s l) := (rfl)
theorem AVLe_refl (v : AV) : AV.Le v v = True := eq_true fun _ _ h => h
theorem AVLe_any (v : AV) : AV.Le v .any = True := eq_true fun _ _ _ => .any _
theorem condD {r : Option Nat} {P : Program} {m : Option Tmp → Bool} {n : Nat} {k : List It} {s : Fr} {ds : List AD} {H : Hp} {Q : Post} {x y : Code} {p : Prop} [Decidable p]
  (h1 : p → VS r P m n (.code x :: k) s ds H Q) (h2 : ¬ p → VS r P m n (.code y :: k) s ds H Q) : CondV r P m n (.lit (.bool (decide p))) x y k s ds H Q :=
 condV (fun e => h1 (of_decide_eq_true e)) (fun e => h2 (of_decide_eq_false e))
theorem HSub_refl (H : Hp) : Go.V.HSub H H = True := eq_true fun i o h => ⟨o, h, rfl, fun _ _ h => h⟩
def nilA (P : Program) (T : TypeId) (H : Hp) (KE : AV → List AD → Hp → Prop) (ds : List AD) : Prop := match elT P T with
 | some (st, _) => ∀ id, H id = none → KE (.sl id st 0) ds (H.set id (.row st 0 fun _ => []))
 | none => False
theorem ef_nil {P : Program} {m : Option Tmp → Bool} {dst : Option Tmp} {ty : TypeId} {pos : String} {after : Array Edge} {gd : Option (Nat × Bool)} {s : Fr} {ds : List AD} {H : Hp} {KE : AV → List AD → Hp → Prop} {Kp : AV → Hp → Prop}
  (h : m dst = true) : effA P m ⟨dst, .assign (.const (.slice none 0 0)), ty, pos, after, gd⟩ s ds H KE Kp = nilA P ty H KE ds := by
 have h2 : (m dst && nilSliceOp (.const (.slice none 0 0))) = true := by rw [h]; rfl
 simp only [effA, h2, nilA]
 all_goals (rcases elT P ty with _ | ⟨a, b⟩ <;> rfl)
theorem HSub_set {H : Hp} {id : Nat} {o o' : Obj} (h : Obj.Le o o') : Go.V.HSub (H.set id o) (H.set id o') := fun i x hi => by
 by_cases e : i = id
 ·subst e; rw [Hp.set_same] at hi ⊢; cases hi; exact ⟨o, rfl, h⟩
 ·rw [Hp.set_ne _ _ e] at hi ⊢; exact ⟨x, hi, .refl _⟩
theorem ret0 {P : Program} {fn : Func} {R : Res → Hp → Prop} {s : Fr} {ds : List AD} {H : Hp} (h : FnPost0 P fn R .ret s ds H) : FnPost P fn R .ret s ds H := Ent.ret h
end Go.V
end
section
set_option linter.unusedVariables false
namespace Go.V
set_option linter.unusedSectionVars false
variable [Inhabited GivT]
def fldsOk (P : Program) : Nat → List Field → Bool
 | _, [] => true
 | o, f :: r => f.name != "_" && intT P f.type == some .i64 && szT P f.type == some (1, false) && f.offset == o && fldsOk P (o + 1) r

theorem CellsAre.ext {S : St} {c : Array Value} {st n : Nat} {f g : Nat → List AV} (h : ∀ i, i < n → f i = g i) (k : CellsAre S c st n f) : CellsAre S c st n g :=
 ⟨k.1, fun i hi => h i hi ▸ k.2.1 i hi, fun i j hi hj => h i hi ▸ k.2.2 i j hi hj⟩
theorem row_ext {st n : Nat} {f g : Nat → List AV} (h : ∀ i, i < n → f i = g i) : Obj.Le (.row st n f) (.row st n g) := by
 refine ⟨rfl, fun S i k => ⟨k.1, k.2.imp (fun x => x) ?_⟩⟩
 rintro ⟨b, c, e, h1, h2, h3, h4⟩
 exact ⟨b, c, e, h1, h2, h3, h4.ext h⟩
theorem box_ext {st n : Nat} {f g : Nat → List AV} (h : ∀ i, i < n → f i = g i) : Obj.Le (.box st n f) (.box st n g) := by
 refine ⟨rfl, fun S i k => ?_⟩
 obtain ⟨b, c, e, h1, h2, h3, h4⟩ := k
 exact ⟨b, c, e, h1, h2, h3, h4.ext h⟩
theorem AVLe_nil (a : Option Addr) (c st : Nat) (f : Nat → List AV) : AV.Le (.lit (.slice a 0 c)) (.rsl 0 st f) = True := eq_true fun S v h => by cases h; exact .rsl0

theorem updF_one (i : Nat) (f : Nat → List AV) (c : List AV) : updF 1 i f c = fun _ => c := (rfl)

/-- The abstract heap may hold more than is told. -/
def dropR (R : Res → Hp → Prop) : Res → Hp → Prop := fun r H => ∃ H', Go.V.HSub H H' ∧ R r H'
theorem Tri.drop {P : Program} {fv : AV} {args : List AV} {H : Hp} {R : Res → Hp → Prop} (h : Tri P fv args H (dropR R)) : Tri P fv args H R := by
 intro S vf vs hH hf ha
 obtain ⟨nx, h1, h2⟩ := h S vf vs hH hf ha
 have ho : ∀ e w, Out S (dropR R) e w → Out S R e w := fun e w ⟨S', r, H', a, b, c, d, H2, e2, e3⟩ => ⟨S', r, H2, a, b, c.sub e2, d, e3⟩
 refine ⟨nx, h1, ?_⟩
 cases nx <;> simp only [NextOk] at h2 ⊢
 ·exact Calls.mono h2 ho
 ·exact h2.mono ho
theorem tri_vs {P : Program} {m : Option Tmp → Bool} {H : Hp} {f : FuncId} {fn : Func} {c : Code} {caps args : List AV} {R : Res → Hp → Prop} (hf : P.funcs[f]? = some fn) (hname : (fn.name == "runtime.NumGoroutine") = false)
  (hb : fn.body = some c) (hlen : (args ++ caps).length ≤ fn.ntmps) (hbody : VS none P m fn.ntmps [.code c] (argFr (args ++ caps)) [] H (FnPost P fn (dropR R))) : Tri P (.func (.func f) [] caps) args H R :=
 Tri.drop (tri_v m hf hname hb hlen hbody)
theorem dropR_pure {r r' : Res} {H0 H : Hp} (e : r = r') (h : Go.V.HSub H0 H) : dropR (fun r H' => r = r' ∧ H' = H) r H0 := ⟨H, h, e, rfl⟩

end Go.V
end
section
set_option linter.unusedVariables false
set_option linter.unusedSimpArgs false
namespace Go.V
set_option linter.unusedSectionVars false
variable [Inhabited GivT]
/-- A type of errors: a number, or a struct of one number. -/
structure RefT where
 T : TypeId
 wr : Bool

/-- The panic of a refusal. -/
abbrev refusal (T : RefT) (c : Int) : Value := match T with
 | ⟨T, false⟩ => .iface T (.int .i64 c)
 | ⟨T, true⟩ => .iface T (.agg #[.int .i64 c])
abbrev refA (T : RefT) (c : Int) : AV := match T with
 | ⟨T, false⟩ => .iface T (.lit (.int .i64 c))
 | ⟨T, true⟩ => .iface T (.agg [.lit (.int .i64 c)])

theorem refA_inv {S : St} {T : RefT} {c : Int} {cv : Value} (h : VRel S (refA T c) cv) : cv = refusal T c := by
 obtain ⟨T, wr⟩ := T
 cases wr
 ·cases h with
  | iface hv => cases hv; rfl
 ·cases h with
  | iface hv =>
    cases hv with
    | @agg _ vs hn hv =>
      have h0 := hv 0 (by simp)
      have e : vs = #[vs.getD 0 undef] := by
       apply Array.ext
       ·simpa using hn
       ·intro i h1 h2
        have : i = 0 := by simp at h2; omega
        subst this
        simp [Array.getD_eq_getD_getElem?, h1]
      rw [e]
      simp only [List.getD_cons_zero] at h0
      have := h0.lit_inv
      rw [this]

/-- What the deferred function g does: with a panic below it writes its number. -/
structure AnsOk (P : Program) (g : FuncId) (T : RefT) : Prop where
 calm : ∀ (H : Hp) (id : Nat) (f : Nat → List AV) (S : St) (vs : Array Value), H id = some (.box 1 1 f) → HRel S H → VRels S [.ref id 0 1 0 0] vs.toList →
  CallsDIn Fence.wide 0 P g vs .returning S.w fun e u w => (∃ v, e = .returned v) ∧ u = .returning ∧ ∃ S', S'.w = w ∧ Le S S' ∧ HRel S' H
 turn : ∀ (H : Hp) (id : Nat) (f : Nat → List AV) (c : Int) (S : St) (vs : Array Value), H id = some (.box 1 1 f) → HRel S H → VRels S [.ref id 0 1 0 0] vs.toList →
  CallsDIn Fence.wide 0 P g vs (.panicking [{ v := refusal T c, recovered := false }]) S.w fun e u w => (∃ v, e = .returned v) ∧ u = .panicking [{ v := refusal T c, recovered := true }] ∧
   ∃ S', S'.w = w ∧ Le S S' ∧ HRel S' (H.set id (.box 1 1 fun _ => [.lit (.int .i64 c)]))
 enters : ∀ (vs : Array Value) (w : World), (callFunc g vs).run P w = .ok (.enter g vs) w

def FnPostA (P : Program) (fn : Func) (g : FuncId) (T : RefT) (R : Res → Hp → Prop) : Post := fun x s ds H => match x with
 | .normal => Ent s ds H fun s ds H => ∃ id f, ds = [.call g [.ref id 0 1 0 0]] ∧ H id = some (.box 1 1 f) ∧ resA P fn.results.toList s H fun vs => R (.ret (retA vs)) H
 | .ret => Ent s ds H fun s ds H => ∃ id f, ds = [.call g [.ref id 0 1 0 0]] ∧ H id = some (.box 1 1 f) ∧ resA P fn.results.toList s H fun vs => R (.ret (retA vs)) H
 | .pan v => ∃ c id f, v = refA T c ∧ ds = [.call g [.ref id 0 1 0 0]] ∧ H id = some (.box 1 1 f) ∧
   resA P fn.results.toList s (H.set id (.box 1 1 fun _ => [.lit (.int .i64 c)])) fun vs => R (.ret (retA vs)) (H.set id (.box 1 1 fun _ => [.lit (.int .i64 c)]))
 | .exit _ => False

theorem body_callsA {P : Program} {f g : FuncId} {T : RefT} {fn : Func} {c : Code} {args : List AV} {H : Hp} {R : Res → Hp → Prop} (hg : AnsOk P g T) (hf : P.funcs[f]? = some fn) (hb : fn.body = some c) (hlen : args.length ≤ fn.ntmps)
  (hbody : WPS none P fn.ntmps c (argFr args) [] H (FnPostA P fn g T R)) {S : St} {vs : Array Value} (hH : HRel S H) (ha : VRels S args vs.toList) : Calls P f vs S.w (Out S R) := by
 have hsz : vs.size = args.length := ha.size.1
 refine callsIn_wide (n := 0) |>.1 (callsIn_of_wp_defers hf hb trivial ?_ rfl)
 have h := hbody S { tmps := vs ++ Array.replicate (fn.ntmps - vs.size) undef, defers := [] } (by simp; omega) hH (argFr_rel ha) .nil
 refine wpIn_mono h ?_
 rintro e a w ⟨S', x, s, ds, H', rfl, hle, hH', hF, hD, hn, hx, hq⟩
 have ret : (Ent s ds H' fun s ds H => ∃ id f, ds = [.call g [.ref id 0 1 0 0]] ∧ H id = some (.box 1 1 f) ∧ resA P fn.results.toList s H fun vs => R (.ret (retA vs)) H) →
   LeavesIn Fence.wide 0 P fn a.tmps (Out S R) a.defers .returning S'.w := by
  intro hq
  obtain ⟨S2, s2, ds2, H2, hw, hle2, hH2, hF2, hD2, id, bf, hds, hbox, hres⟩ := hq S' a hH' hF hD
  subst hds
  rw [← hw]
  cases hdf : a.defers with
  | nil => rw [hdf] at hD2; cases hD2
  | cons d df =>
    rw [hdf] at hD2
    cases hD2 with
    | @call _ _ dv du _ _ hav hrest =>
      have := hrest.nil_inv
      subst this
      refine ⟨by simp, by simp [Fence.wide], .func g, du, g, dv ++ du, rfl, by simpa [invoke] using hg.enters (dv ++ du) S2.w, fun _ _ => trivial, ?_⟩
      refine (hg.calm H2 id bf S2 (dv ++ du) hbox hH2 hav).mono ?_
      rintro e u w2 ⟨⟨v, rfl⟩, rfl, S3, rfl, hle3, hH3⟩
      obtain ⟨vs2, v2, k, hv, hrun⟩ := results_sound hH3 (hF2.mono hle3) hres
      exact ⟨v2, hrun, S3, .ret (retA vs2), H2, rfl, (hle.trans hle2).trans hle3, hH3, hv, k⟩
 cases e with
 | normal => cases x <;> simp [XRel] at hx; exact ret hq
 | ret => cases x <;> simp [XRel] at hx; exact ret hq
 | exit i => cases x <;> simp [XRel] at hx; exact hq.elim
 | goto l => cases x <;> simp [XRel] at hx
 | outgrown => cases x <;> simp [XRel] at hx
 | panic ch =>
   cases x with
   | pan v =>
     obtain ⟨cv, hch, hv⟩ := hx
     subst hch
     obtain ⟨n, id, bf, rfl, hds, hbox, hres⟩ := hq
     subst hds
     have hcv : cv = refusal T n := refA_inv hv
     subst hcv
     show LeavesIn Fence.wide 0 P fn a.tmps (Out S R) a.defers (.panicking _) S'.w
     cases hdf : a.defers with
     | nil => rw [hdf] at hD; cases hD
     | cons d df =>
       rw [hdf] at hD
       cases hD with
       | @call _ _ dv du _ _ hav hrest =>
         have := hrest.nil_inv
         subst this
         refine ⟨by simp, by simp [Fence.wide], .func g, du, g, dv ++ du, rfl, by simpa [invoke] using hg.enters (dv ++ du) S'.w, fun _ _ => trivial, ?_⟩
         refine (hg.turn H' id bf n S' (dv ++ du) hbox hH' hav).mono ?_
         rintro e u w2 ⟨⟨v, rfl⟩, rfl, S3, rfl, hle3, hH3⟩
         obtain ⟨vs2, v2, k, hv2, hrun⟩ := results_sound hH3 (hF.mono hle3) hres
         exact ⟨v2, hrun, S3, .ret (retA vs2), _, rfl, hle.trans hle3, hH3, hv2, k⟩
   | _ => simp [XRel] at hx


theorem tri_a {P : Program} {g : FuncId} {T : RefT} {m : Option Tmp → Bool} {H : Hp} {f : FuncId} {fn : Func} {c : Code} {caps args : List AV} {R : Res → Hp → Prop} (hg : AnsOk P g T)
  (hf : P.funcs[f]? = some fn) (hname : (fn.name == "runtime.NumGoroutine") = false)
  (hb : fn.body = some c) (hlen : (args ++ caps).length ≤ fn.ntmps) (hbody : VS none P m fn.ntmps [.code c] (argFr (args ++ caps)) [] H (FnPostA P fn g T R)) : Tri P (.func (.func f) [] caps) args H R := by
 intro S vf vs hH hvf ha
 cases hvf with
 | @func _ _ _ ws us hn hm h h' =>
   have hws : ws = #[] := by simpa using hn
   subst hws
   refine ⟨.enter f (vs.toArray ++ us), ?_, ?_⟩
   ·have hcf : (callFunc f (vs.toArray ++ us)).run P S.w = .ok (.enter f (vs.toArray ++ us)) S.w := by
     simp only [callFunc, Sem.run_bind, run_program, Result.andThen_ok, hf, hname, hb]
     simp
    simp only [Deferred.ofValue, Sem.run_bind, Sem.run_pure, Result.andThen_ok, invoke]
    have e : (#[] : Array Value) ++ vs.toArray = vs.toArray := by simp
    rw [e]
    exact hcf
   ·refine body_callsA hg hf hb hlen (vcC_sound c hbody) hH ?_
    refine ⟨by simp [ha.1, hm], fun k hk => ?_⟩
    simp only [List.getD, Array.toList_append]
    by_cases hk' : k < args.length
    ·rw [List.getElem?_append_left hk', List.getElem?_append_left (by rw [ha.1]; exact hk')]
     exact ha.2 k hk'
    ·have e1 := ha.1
     simp only [List.length_append] at hk
     rw [List.getElem?_append_right (by omega), List.getElem?_append_right (by omega), e1]
     have := h' (k - args.length) (by omega)
     simpa [List.getD, Array.getD_eq_getD_getElem?] using this

end Go.V
end
section
set_option linter.unusedVariables false
set_option linter.unusedSimpArgs false
namespace Go.V
set_option linter.unusedSectionVars false
variable [Inhabited GivT]
/-- A method of a dynamic type is this function. -/
def methT (P : Program) (T : TypeId) (nm : String) (f : FuncId) : Prop := ∀ (v : Value) (args : Array Value) (w : World), (callMethod (.iface T v) nm args).run P w = (callFunc f (#[v] ++ args)).run P w

/-- A map whose entries are kept to a relation, opened. -/
theorem Tri.unpack {P : Program} {fv : AV} {args : List AV} {H : Hp} {R : Res → Hp → Prop} {id : Nat} {F : Value → Value → Prop} (ho : H id = some (.memo F))
  (h : ∀ es ck, (∀ x ∈ es.toList, F x.key x.val) → (es.toList.Pairwise fun x y => x.key ≠ y.key) → Tri P fv args (H.set id (.raw (.map es ck))) R) : Tri P fv args H R := by
 intro S vf vs hH hvf ha
 obtain ⟨b, es, ck, hl, hb, hni, h4, h5⟩ := hH.obj id _ ho
 refine h es ck h4 h5 S vf vs ?_ hvf ha
 refine ⟨fun i hi => ⟨?_, (hH.fresh i hi).2⟩, hH.immlt, fun i o hi => ?_, fun i j o o' x hi hj hx hy => ?_, hH.giv⟩
 ·by_cases e : i = id
  ·subst e; rw [(hH.fresh i hi).1] at ho; cases ho
  ·rw [Hp.set_ne _ _ e]; exact (hH.fresh i hi).1
 ·by_cases e : i = id
  ·subst e; rw [Hp.set_same] at hi; cases hi
   exact ⟨b, hl, hb, (fun c e fz x => by cases x), hni⟩
  ·rw [Hp.set_ne _ _ e] at hi; exact hH.obj i o hi
 ·have back : ∀ (k : Nat) (q : Obj), (H.set id (.raw (.map es ck))) k = some q → ∃ q', H k = some q' ∧ q'.gen = q.gen := fun k q hk => by
   by_cases e : k = id
   ·subst e; rw [Hp.set_same] at hk; cases hk; exact ⟨_, ho, rfl⟩
   ·rw [Hp.set_ne _ _ e] at hk; exact ⟨q, hk, rfl⟩
  obtain ⟨q, h1, h2⟩ := back i o hi
  obtain ⟨q', h1', h2'⟩ := back j o' hj
  exact hH.inj i j q q' x h1 h1' (by rw [h2]; exact hx) (by rw [h2']; exact hy)

end Go.V
end
section
set_option linter.unusedVariables false
set_option linter.unusedSimpArgs false
namespace Go.V
set_option linter.unusedSectionVars false
variable [Inhabited GivT]
def keyFs (P : Program) (g : TypeId → Option Nat) : List Field → Nat → Option Nat
 | [], o => some o
 | f :: r, o => if f.offset = o ∧ f.name ≠ "_" then match g f.type with
   | some k => keyFs P g r (o + k)
   | none => none
   else none
def keyI (P : Program) : Nat → TypeId → Option Nat
 | 0, _ => none
 | d + 1, T => match P.underlying T with
   | some (.int .i64) => if P.cellsOf T = 1 then some 1 else none
   | some (.struct fs) => match keyFs P (keyI P d) fs.toList 0 with
     | some n => if P.cellsOf T = n then some n else none
     | none => none
   | _ => none

theorem keyFs_spec {P : Program} {D : Nat} {g : TypeId → Option Nat} {l : List Int}
  (hg : ∀ T n, g T = some n → P.cellsOf T = n ∧ ∀ o, o + n ≤ l.length → P.keyLits D T (((l.map (Value.int .i64)).drop o).take n) = some (((l.drop o).take n).map (Lit.int .i64))) :
  ∀ (fs : List Field) (o : Nat), keyFs P g fs o = some l.length → o ≤ l.length →
    (∀ f ∈ fs, f.name ≠ "_") ∧ ∃ Ls, fs.mapM (fun f => P.keyLits D f.type (((l.map (Value.int .i64)).drop f.offset).take (P.cellsOf f.type))) = some Ls ∧ Ls.flatten = (l.drop o).map (Lit.int .i64)
 | [], o, h, ho => by
   simp only [keyFs, Option.some.injEq] at h
   exact ⟨by simp, [], by simp, by rw [List.drop_eq_nil_of_le (by omega)]; rfl⟩
 | f :: r, o, h, ho => by
   simp only [keyFs] at h
   split at h
   case isFalse => cases h
   case isTrue hc =>
    obtain ⟨h1, h2⟩ := hc
    split at h
    case h_2 => cases h
    case h_1 k hk =>
     obtain ⟨hc, hv⟩ := hg _ _ hk
     have hle : ∀ (r : List Field) (o : Nat), keyFs P g r o = some l.length → o ≤ l.length := by
      intro r
      induction r with
      | nil => intro o h; simp only [keyFs, Option.some.injEq] at h; omega
      | cons f r ih =>
        intro o h
        simp only [keyFs] at h
        split at h
        ·split at h
         ·have := ih _ h; omega
         ·cases h
        ·cases h
     have ho2 := hle r (o + k) h
     obtain ⟨hn, Ls, hm, hfl⟩ := keyFs_spec hg r (o + k) h ho2
     refine ⟨fun f' hf' => ?_, ((l.drop o).take k).map (Lit.int .i64) :: Ls, ?_, ?_⟩
     ·rcases List.mem_cons.1 hf' with rfl | hf'
      ·exact h2
      ·exact hn f' hf'
     ·rw [List.mapM_cons, h1, hc, hv o ho2, hm]; rfl
     ·rw [List.flatten_cons, hfl, ← List.map_append, ← List.drop_drop]
      congr 1
      exact List.take_append_drop k (l.drop o)

theorem wf_i64 {a : Int} (h : InR .i64 a) : (Lit.int .i64 a).wf = true := by
 simp only [InR_i64] at h
 simp [Lit.wf, IntKind.min, IntKind.max, IntKind.signed, IntKind.bits]
 omega

end Go.V
end
section
set_option linter.unusedVariables false
set_option linter.unusedSimpArgs false
namespace Go.V
set_option linter.unusedSectionVars false
variable [Inhabited GivT]
theorem putObj_rel {S : St} {H : Hp} {id b : Nat} {o o' : Obj} {go ob : Go.Obj} (hH : HRel S H) (ho : H id = some o) (hg : o.gen = 0) (hg' : o'.gen = 0) (hl : S.loc id 0 = .blk b) (hb : S.w.heap[b]? = some go)
  (hnc : ∀ c e fz, go ≠ .cells c e fz) (hok : Le S { S with w := S.w.putObj b ob } → OkObj { S with w := S.w.putObj b ob } id o') :
  Le S { S with w := S.w.putObj b ob } ∧ HRel { S with w := S.w.putObj b ob } (H.set id o') := by
 have hchg : Chg S id o (S.w.putObj b ob) := by
  refine ⟨rfl, rfl, rfl, by simp, fun k hk hne => ?_, fun k c0 e0 fz0 hk h0 => ?_⟩
  ·rw [hg] at hne
   exact World.putObj_heap_other fun e => hne (by rw [e]; exact hl)
  ·rw [hg] at hk
   rw [hl] at hk; cases hk
   rw [hb] at h0; cases h0
   exact absurd rfl (hnc _ _ _)
 have hloc : S.loc id 0 = .unk ∨ S.loc id 0 = .blk b := .inr hl
 have hle := hchg.le (g := 0) (l := .blk b) hH ho hloc
 rw [St.chg_same hl] at hle
 refine ⟨hle, ?_⟩
 have hH' := hchg.hrel (g := 0) (l := .blk b) (o' := o') hH ho hloc (by rw [St.chg_same hl]; exact hok hle)
  (fun q hq => by rw [St.chg_same hl, hg'] at hq; rw [hg]; exact .inl hq)
 rw [St.chg_same hl] at hH'
 exact hH'

def popM : List AD → Hp → (List AD → Hp → Prop) → Prop
 | .mark did :: ds, H, K => H did = some (.raw (.deferred (some []))) ∧ popM ds (H.set did (.raw (.deferred none))) K
 | [], H, K => K [] H
 | .call f a :: ds, H, K => K (.call f a :: ds) H
theorem popM_nil {H : Hp} {K : List AD → Hp → Prop} : popM [] H K = K [] H := rfl
theorem popM_call {H : Hp} {K : List AD → Hp → Prop} {f : FuncId} {a : List AV} {ds : List AD} : popM (.call f a :: ds) H K = K (.call f a :: ds) H := rfl
theorem popM_mark {H : Hp} {K : List AD → Hp → Prop} {did : Nat} {ds : List AD} :
  popM (.mark did :: ds) H K = (H did = some (.raw (.deferred (some []))) ∧ popM ds (H.set did (.raw (.deferred none))) K) := rfl

theorem pop_sound {P : Program} : ∀ (ds : List AD) {S : St} {H : Hp} {df : List Deferred} {K : List AD → Hp → Prop}, popM ds H K → HRel S H → DRel S ds df →
  ∃ S' df' ds' H', Le S S' ∧ HRel S' H' ∧ DRel S' ds' df' ∧ K ds' H' ∧
    ∀ (F : Fence) (n : Nat) (fn : Func) (tmps : Array Value) (R : Ending → World → Prop) (u : FrameMode), u ≠ .run → LeavesInM F n P fn tmps R df' u S'.w → LeavesInM F n P fn tmps R df u S.w
 | [], S, H, df, K, h, hH, hD => ⟨S, df, [], H, Le.refl S, hH, hD, h, fun _ _ _ _ _ _ _ x => x⟩
 | .call f a :: ds, S, H, df, K, h, hH, hD => ⟨S, df, _, H, Le.refl S, hH, hD, h, fun _ _ _ _ _ _ _ x => x⟩
 | .mark did :: ds, S, H, df, K, h, hH, hD => by
   obtain ⟨ho, h⟩ := h
   cases hD with
   | @mark _ D _ df0 hl hD =>
     obtain ⟨b, hl', hb, hnc, hni⟩ := hH.obj did _ ho
     rw [hl] at hl'; cases hl'
     obtain ⟨hle, hH'⟩ := putObj_rel (ob := .deferred none) (o' := .raw (.deferred none)) hH ho rfl rfl hl hb hnc (fun hle => ⟨D, hl, by
      show (S.w.putObj D _).heap[D]? = _
      exact World.putObj_heap_same (lt_of_heap hb), (fun c e fz x => by cases x), hni⟩)
     obtain ⟨S', df', ds', H', l1, hH2, hD2, hk, hl2⟩ := pop_sound (P := P) ds h hH' (hD.mono hle)
     refine ⟨S', df', ds', H', hle.trans l1, hH2, hD2, hk, fun F n fn tmps R u hu x => ?_⟩
     exact ⟨hu, .inl ⟨D, _, rfl, run_takeDeferred hb, hl2 F n fn tmps R u hu x⟩⟩

def kRet (P : Program) (fn : Func) (s : Fr) (R : Res → Hp → Prop) : List AD → Hp → Prop := fun ds H => ds = [] ∧ resA P fn.results.toList s H fun vs => R (.ret (retA vs)) H
theorem kRet_eq {P : Program} {fn : Func} {s : Fr} {R : Res → Hp → Prop} {ds : List AD} {H : Hp} : kRet P fn s R ds H = (ds = [] ∧ resA P fn.results.toList s H fun vs => R (.ret (retA vs)) H) := rfl
def kPan (v : AV) (R : Res → Hp → Prop) : List AD → Hp → Prop := fun ds H => ds = [] ∧ R (.pan v) H
theorem kPan_eq {v : AV} {R : Res → Hp → Prop} {ds : List AD} {H : Hp} : kPan v R ds H = (ds = [] ∧ R (.pan v) H) := rfl

/-- A function's end, where marks are among the deferred calls. -/
def FnPostM (P : Program) (fn : Func) (R : Res → Hp → Prop) : Post := fun x s ds H => match x with
 | .normal => popM ds H (kRet P fn s R)
 | .ret => popM ds H (kRet P fn s R)
 | .pan v => popM ds H (kPan v R)
 | .exit _ => False
section
variable {P : Program} {fn : Func} {R : Res → Hp → Prop} {s : Fr} {ds : List AD} {H : Hp}
theorem FnPostM_normal : FnPostM P fn R .normal s ds H = popM ds H (kRet P fn s R) := rfl
theorem FnPostM_ret : FnPostM P fn R .ret s ds H = popM ds H (kRet P fn s R) := rfl
theorem FnPostM_pan {v : AV} : FnPostM P fn R (.pan v) s ds H = popM ds H (kPan v R) := rfl
theorem FnPostM_exit {i : Nat} : FnPostM P fn R (.exit i) s ds H = False := rfl
end
theorem body_callsM {P : Program} {f : FuncId} {fn : Func} {c : Code} {args : List AV} {H : Hp} {R : Res → Hp → Prop} (hf : P.funcs[f]? = some fn) (hb : fn.body = some c) (hlen : args.length ≤ fn.ntmps)
  (hbody : WPS none P fn.ntmps c (argFr args) [] H (FnPostM P fn R)) {S : St} {vs : Array Value} (hH : HRel S H) (ha : VRels S args vs.toList) : Calls P f vs S.w (Out S R) := by
 have hsz : vs.size = args.length := ha.size.1
 refine callsIn_wide (n := 0) |>.1 (callsIn_of_wp_marks hf hb trivial ?_ rfl)
 have h := hbody S { tmps := vs ++ Array.replicate (fn.ntmps - vs.size) undef, defers := [] } (by simp; omega) hH (argFr_rel ha) .nil
 refine wpIn_mono h ?_
 rintro e a w ⟨S', x, s, ds, H', rfl, hle, hH', hF, hD, hn, hx, hq⟩
 have ret : popM ds H' (kRet P fn s R) → LeavesInM Fence.wide 0 P fn a.tmps (Out S R) a.defers .returning S'.w := by
  intro hq
  obtain ⟨S2, df2, ds2, H2, hle2, hH2, hD2, ⟨hds, hres⟩, hfin⟩ := pop_sound (P := P) ds hq hH' hD
  subst hds
  have hn := hD2.nil_inv
  subst hn
  refine hfin _ _ _ _ _ _ (by simp) ?_
  obtain ⟨vs2, v2, k, hv, hrun⟩ := results_sound hH2 (hF.mono hle2) hres
  exact ⟨v2, hrun, S2, .ret (retA vs2), H2, rfl, hle.trans hle2, hH2, hv, k⟩
 cases e with
 | normal => cases x <;> simp [XRel] at hx; exact ret hq
 | ret => cases x <;> simp [XRel] at hx; exact ret hq
 | exit i => cases x <;> simp [XRel] at hx; exact hq.elim
 | goto l => cases x <;> simp [XRel] at hx
 | outgrown => cases x <;> simp [XRel] at hx
 | panic ch =>
   cases x with
   | pan v =>
     obtain ⟨S2, df2, ds2, H2, hle2, hH2, hD2, ⟨hds, hR⟩, hfin⟩ := pop_sound (P := P) ds hq hH' hD
     subst hds
     have hn := hD2.nil_inv
     subst hn
     refine hfin _ _ _ _ _ _ (by simp) ?_
     exact ⟨S2, .pan v, H2, rfl, hle.trans hle2, hH2, hx.mono hle2, hR⟩
   | _ => simp [XRel] at hx

def kRetA (P : Program) (fn : Func) (g : FuncId) (s : Fr) (R : Res → Hp → Prop) : List AD → Hp → Prop := fun ds H =>
 ∃ id f, ds = [.call g [.ref id 0 1 0 0]] ∧ H id = some (.box 1 1 f) ∧ resA P fn.results.toList s H fun vs => R (.ret (retA vs)) H
theorem kRetA_eq {P : Program} {fn : Func} {g : FuncId} {s : Fr} {R : Res → Hp → Prop} {ds : List AD} {H : Hp} : kRetA P fn g s R ds H =
 ∃ id f, ds = [.call g [.ref id 0 1 0 0]] ∧ H id = some (.box 1 1 f) ∧ resA P fn.results.toList s H fun vs => R (.ret (retA vs)) H := rfl
def kPanA (P : Program) (fn : Func) (g : FuncId) (T : RefT) (v : AV) (s : Fr) (R : Res → Hp → Prop) : List AD → Hp → Prop := fun ds H =>
 ∃ c id f, v = refA T c ∧ ds = [.call g [.ref id 0 1 0 0]] ∧ H id = some (.box 1 1 f) ∧
     resA P fn.results.toList s (H.set id (.box 1 1 fun _ => [.lit (.int .i64 c)])) fun vs => R (.ret (retA vs)) (H.set id (.box 1 1 fun _ => [.lit (.int .i64 c)]))
theorem kPanA_eq {P : Program} {fn : Func} {g : FuncId} {T : RefT} {v : AV} {s : Fr} {R : Res → Hp → Prop} {ds : List AD} {H : Hp} : kPanA P fn g T v s R ds H =
 ∃ c id f, v = refA T c ∧ ds = [.call g [.ref id 0 1 0 0]] ∧ H id = some (.box 1 1 f) ∧
     resA P fn.results.toList s (H.set id (.box 1 1 fun _ => [.lit (.int .i64 c)])) fun vs => R (.ret (retA vs)) (H.set id (.box 1 1 fun _ => [.lit (.int .i64 c)])) := rfl

def FnPostAM (P : Program) (fn : Func) (g : FuncId) (T : RefT) (R : Res → Hp → Prop) : Post := fun x s ds H => match x with
 | .normal => popM ds H (kRetA P fn g s R)
 | .ret => popM ds H (kRetA P fn g s R)
 | .pan v => popM ds H (kPanA P fn g T v s R)
 | .exit _ => False
section
variable {P : Program} {fn : Func} {g : FuncId} {T : RefT} {R : Res → Hp → Prop} {s : Fr} {ds : List AD} {H : Hp}
theorem FnPostAM_normal : FnPostAM P fn g T R .normal s ds H = popM ds H (kRetA P fn g s R) := rfl
theorem FnPostAM_ret : FnPostAM P fn g T R .ret s ds H = popM ds H (kRetA P fn g s R) := rfl
theorem FnPostAM_pan {v : AV} : FnPostAM P fn g T R (.pan v) s ds H = popM ds H (kPanA P fn g T v s R) := rfl
theorem FnPostAM_exit {i : Nat} : FnPostAM P fn g T R (.exit i) s ds H = False := rfl
end
theorem body_callsAM {P : Program} {f g : FuncId} {T : RefT} {fn : Func} {c : Code} {args : List AV} {H : Hp} {R : Res → Hp → Prop} (hg : AnsOk P g T) (hf : P.funcs[f]? = some fn) (hb : fn.body = some c) (hlen : args.length ≤ fn.ntmps)
  (hbody : WPS none P fn.ntmps c (argFr args) [] H (FnPostAM P fn g T R)) {S : St} {vs : Array Value} (hH : HRel S H) (ha : VRels S args vs.toList) : Calls P f vs S.w (Out S R) := by
 have hsz : vs.size = args.length := ha.size.1
 refine callsIn_wide (n := 0) |>.1 (callsIn_of_wp_marks hf hb trivial ?_ rfl)
 have h := hbody S { tmps := vs ++ Array.replicate (fn.ntmps - vs.size) undef, defers := [] } (by simp; omega) hH (argFr_rel ha) .nil
 refine wpIn_mono h ?_
 rintro e a w ⟨S', x, s, ds, H', rfl, hle, hH', hF, hD, hn, hx, hq⟩
 have ret : popM ds H' (kRetA P fn g s R) → LeavesInM Fence.wide 0 P fn a.tmps (Out S R) a.defers .returning S'.w := by
  intro hq
  obtain ⟨S2, df2, ds2, H2, hle2, hH2, hD2, ⟨id, bf, hds, hbox, hres⟩, hfin⟩ := pop_sound (P := P) ds hq hH' hD
  subst hds
  refine hfin _ _ _ _ _ _ (by simp) ?_
  cases hD2 with
  | @call _ _ dv du _ _ hav hrest =>
    have := hrest.nil_inv
    subst this
    refine ⟨by simp, .inr ⟨by simp [Fence.wide], .func g, du, g, dv ++ du, rfl, by simpa [invoke] using hg.enters (dv ++ du) S2.w, fun _ _ => trivial, ?_⟩⟩
    refine (hg.calm H2 id bf S2 (dv ++ du) hbox hH2 hav).mono ?_
    rintro e u w2 ⟨⟨v, rfl⟩, rfl, S3, rfl, hle3, hH3⟩
    obtain ⟨vs2, v2, k, hv, hrun⟩ := results_sound hH3 (hF.mono (hle2.trans hle3)) hres
    exact ⟨v2, hrun, S3, .ret (retA vs2), H2, rfl, (hle.trans hle2).trans hle3, hH3, hv, k⟩
 cases e with
 | normal => cases x <;> simp [XRel] at hx; exact ret hq
 | ret => cases x <;> simp [XRel] at hx; exact ret hq
 | exit i => cases x <;> simp [XRel] at hx; exact hq.elim
 | goto l => cases x <;> simp [XRel] at hx
 | outgrown => cases x <;> simp [XRel] at hx
 | panic ch =>
   cases x with
   | pan v =>
     obtain ⟨cv, hch, hv⟩ := hx
     subst hch
     obtain ⟨S2, df2, ds2, H2, hle2, hH2, hD2, ⟨n, id, bf, rfl, hds, hbox, hres⟩, hfin⟩ := pop_sound (P := P) ds hq hH' hD
     subst hds
     have hcv : cv = refusal T n := refA_inv hv
     subst hcv
     refine hfin _ _ _ _ _ _ (by simp) ?_
     cases hD2 with
     | @call _ _ dv du _ _ hav hrest =>
       have := hrest.nil_inv
       subst this
       refine ⟨by simp, .inr ⟨by simp [Fence.wide], .func g, du, g, dv ++ du, rfl, by simpa [invoke] using hg.enters (dv ++ du) S2.w, fun _ _ => trivial, ?_⟩⟩
       refine (hg.turn H2 id bf n S2 (dv ++ du) hbox hH2 hav).mono ?_
       rintro e u w2 ⟨⟨v, rfl⟩, rfl, S3, rfl, hle3, hH3⟩
       obtain ⟨vs2, v2, k, hv2, hrun⟩ := results_sound hH3 (hF.mono (hle2.trans hle3)) hres
       exact ⟨v2, hrun, S3, .ret (retA vs2), _, rfl, (hle.trans hle2).trans hle3, hH3, hv2, k⟩
   | _ => simp [XRel] at hx

end Go.V
end
section
set_option linter.unusedVariables false
set_option linter.unusedSimpArgs false
namespace Go.V
set_option linter.unusedSectionVars false
variable [Inhabited GivT]
/-- What a pending jump does. -/
def jumpQ : Option Code → (XE → Prop) → Prop
 | none, K => K .normal
 | some .ret, K => K .ret
 | some (.exit i), K => K (.exit i)
 | _, _ => False
theorem wps_range {P : Program} {n : Nat} {g : Operand} {ps : Array Tmp} {assign body : Code} {s : Fr} {ds : List AD} {H : Hp} {Q : Post} {f : FuncId} {fn : Func} {c : Code} {caps : List AV}
  (hg : (opA s g).ok) (hgv : (opA s g).st = .func (.func f) [] caps) (hf : P.funcs[f]? = some fn) (hname : (fn.name == "runtime.NumGoroutine") = false) (hb : fn.body = some c)
  (h : ∀ lid did l, H lid = none → H did = none → lid ≠ did →
   CallK P (.func (.func f) [] caps) [.func (.yield l) [] []] ((H.set did (.raw (.deferred (some [])))).set lid (.loop l n s ps assign body .ready none did))
    (fun _ H' => ∃ st pend, H' lid = some (.loop l n s ps assign body st pend did) ∧ st ≠ .busy ∧ jumpQ pend fun x => Q x s (.mark did :: ds) (H'.set lid (.loop l n s ps assign body .exhausted pend did)))
    (fun v H' => Q (.pan v) s (.mark did :: ds) H')) : WPS none P n (.rangeFunc g ps assign body) s ds H Q := by
 intro S a hn hH hF hD
 refine wpIn_rangeFunc fun fn0 _ => ?_
 have hround : (FW none).round = none := rfl
 let l := S.w.heap.size + 1
 have run1 := run_enterLoop_outer (P := P) (w := S.w) fn0 a.tmps ps assign body
 let S1 := S.lay (.deferred (some []))
 have le1 : Le S S1 := St.lay_le hH _
 have loc1 : S1.loc S.next 0 = .blk S.w.heap.size := by simp [S1, St.lay]
 have H1 : HRel S1 (H.set S.next (.raw (.deferred (some [])))) := by
  refine hH.lay _ _ rfl ⟨S.w.heap.size, loc1, heap_alloc _ _, (fun c e fz x => by cases x), fun x => ?_⟩
  have := hH.immlt _ x; omega
 let rec0 : Go.Obj := .loop { state := .ready, pending := none, fn := fn0, tmps := a.tmps, params := ps, assign, body, defers := S.w.heap.size }
 let S2 := S1.lay rec0
 have le2 : Le S1 S2 := St.lay_le H1 _
 have hsz1 : S1.w.heap.size = S.w.heap.size + 1 := World.size_alloc _ _
 have loc2 : S2.loc S1.next 0 = .blk l := by simp [S2, St.lay, l, hsz1]
 have H2 : HRel S2 ((H.set S.next (.raw (.deferred (some [])))).set S1.next (.loop l n s ps assign body .ready none S.next)) := by
  refine H1.lay _ _ rfl ⟨loc2, fun x => ?_, fn0, a.tmps, S.w.heap.size, ?_, hn, (hF.mono (le1.trans le2)), le2.locBlk loc1⟩
  ·have := H1.immlt _ x; omega
  ·have := heap_alloc S1.w rec0
   rw [hsz1] at this
   exact this
 have hne : S1.next ≠ S.next := by simp [S1, St.lay]
 have hfresh2 : H S1.next = none := (hH.fresh _ (by simp [S1, St.lay])).1
 obtain ⟨R, hT, hR⟩ := h S1.next S.next l hfresh2 (hH.fresh _ (Nat.le_refl _)).1 hne
 have hv : VRel S2 (.func (.func f) [] caps) (a.eval g) := hgv ▸ ((opA_rel (hF.mono (le1.trans le2)) g).strip hg)
 obtain ⟨nx, e1, e2⟩ := hT S2 (a.eval g) [.func (.yield l) #[] #[]] H2 hv ⟨rfl, fun k hk => by
  have : k = 0 := by simp at hk; omega
  subst this
  exact .func rfl rfl (fun k hk => absurd hk (by simp)) (fun k hk => absurd hk (by simp))⟩
 generalize hgx : a.eval g = gv at hv e1
 cases hv with
 | @func _ _ _ ws us hn' hm hw hu =>
   have hws : ws = #[] := by simpa using hn'
   subst hws
   have hcf : ∀ (vs : Array Value) w, (callFunc f vs).run P w = .ok (.enter f vs) w := fun vs w => by
    simp only [callFunc, Sem.run_bind, run_program, Result.andThen_ok, hf, hname, hb]
    simp
   refine ⟨l, [{ target := .collected S.w.heap.size, args := #[] }], S2.w, { target := .fn (.func f) us, args := #[.func (.yield l) #[] #[]] }, S2.w, f, #[.func (.yield l) #[] #[]] ++ us, S2.w, ?_, ?_, fun _ _ => trivial, ?_, fun x => by simp [Fence.wide] at x, ?_⟩
   ·exact run1
   ·have : a.eval (.const (.func (.yield l) #[] #[])) = .func (.yield l) #[] #[] := rfl
    simp [resolve, hgx, Deferred.ofValue, this]
   ·simp [invoke, hcf]
   ·have hnx : nx = .enter f (#[.func (.yield l) #[] #[]] ++ us) := by
     simp only [Deferred.ofValue, Sem.run_bind, Sem.run_pure, Result.andThen_ok, invoke, hcf] at e1
     have : (#[] : Array Value) ++ [Value.func (.yield l) #[] #[]].toArray ++ us = #[.func (.yield l) #[] #[]] ++ us := by simp
     rw [this] at e1
     injection e1 with e1 _
     exact e1.symm
    subst hnx
    refine (callsIn_wide (n := 0)).2 (Calls.mono e2 ?_)
    rintro e w ⟨S', r', H', rfl, hle, hH', hrr, hr⟩
    have hk := hR r' H' hr
    have hle' := (le1.trans le2).trans hle
    have hD' : DRel S' (.mark S.next :: ds) ([{ target := .collected S.w.heap.size, args := #[] }] ++ a.defers) := .mark (hle.locBlk (le2.locBlk loc1)) (hD.mono hle')
    have hF' : FRel S' s { a with defers := [{ target := .collected S.w.heap.size, args := #[] }] ++ a.defers } := hF.mono hle'
    cases e with
    | returned v =>
      cases r' with
      | pan av => exact hrr.elim
      | ret av =>
        obtain ⟨st, pend, ho, hst, hj⟩ := hk
        obtain ⟨hl, hni, fn1, tmps1, D1, hheap, htm, hfr, hd1⟩ := hH'.obj _ _ ho
        obtain ⟨hle3, hH3⟩ := putObj_rel (ob := .loop { state := .exhausted, pending := pend, fn := fn1, tmps := tmps1, params := ps, assign, body, defers := D1 }) (o' := .loop l n s ps assign body .exhausted pend S.next) hH' ho rfl rfl hl hheap
         (fun c e fz x => by cases x) (fun hle3 => ⟨hl, hni, fn1, tmps1, D1, World.putObj_heap_same (lt_of_heap hheap), htm, hfr.mono hle3, hd1⟩)
        refine ⟨pend, _, run_endLoop hheap hst, ?_⟩
        have lift : ∀ x e, XRel { S' with w := S'.w.putObj l (.loop { state := .exhausted, pending := pend, fn := fn1, tmps := tmps1, params := ps, assign, body, defers := D1 }) } e x →
          Q x s (.mark S.next :: ds) (H'.set S1.next (.loop l n s ps assign body .exhausted pend S.next)) →
          Lift S n Q e { a with defers := [{ target := .collected S.w.heap.size, args := #[] }] ++ a.defers } (S'.w.putObj l (.loop { state := .exhausted, pending := pend, fn := fn1, tmps := tmps1, params := ps, assign, body, defers := D1 })) :=
         fun x e hx hq => ⟨_, x, s, _, _, rfl, hle'.trans hle3, hH3, hF'.mono hle3, hD'.mono hle3, hn, hx, hq⟩
        cases pend with
        | none => exact lift .normal _ trivial hj
        | some cc =>
          cases cc <;> simp only [jumpQ] at hj
          case ret => exact wpIn_ret (lift .ret _ trivial hj)
          case exit i => exact wpIn_exit (lift (.exit i) _ rfl hj)
    | panicked ch =>
      cases r' with
      | ret av => exact hrr.elim
      | pan av => exact ⟨S', .pan av, s, _, H', rfl, hle', hH', hF', hD', hn, hrr, hk⟩
    | outgrown => cases r' <;> exact hrr.elim

/-- Yield's arguments in the parameters. -/
def putAll : Fr → List Tmp → List AV → Fr
 | s, t :: ps, v :: vs => putAll (put s (some t) v) ps vs
 | s, _, _ => s
theorem putAll_nil {s : Fr} {vs : List AV} : putAll s [] vs = s := by cases vs <;> rfl
theorem putAll_cons {s : Fr} {t : Tmp} {ps : List Tmp} {v : AV} {vs : List AV} : putAll s (t :: ps) (v :: vs) = putAll (put s (some t) v) ps vs := rfl

theorem putAll_rel {S : St} : ∀ (ps : List Tmp) (avs : List AV) (vs : List Value) (s : Fr) (tmps : Array Value), VRels S avs vs → avs.length = ps.length → (∀ t ∈ ps, t < tmps.size) → FRel S s { tmps, defers := [] } →
  FRel S (putAll s ps avs) { tmps := (ps.zip vs).foldl (fun tmps (t, a) => tmps.setIfInBounds t a) tmps, defers := [] } ∧ ((ps.zip vs).foldl (fun tmps (t, a) => tmps.setIfInBounds t a) tmps).size = tmps.size
 | [], avs, vs, s, tmps, _, _, _, hF => by simp [putAll_nil]; exact hF
 | t :: ps, [], vs, s, tmps, _, hl, _, _ => by simp at hl
 | t :: ps, av :: avs, [], s, tmps, hr, _, _, _ => by have := hr.1; simp at this
 | t :: ps, av :: avs, v :: vs, s, tmps, hr, hl, ht, hF => by
   have hr' : VRels S avs vs := ⟨by simpa using hr.1, fun k hk => by simpa using hr.2 (k + 1) (by simpa using hk)⟩
   have hv : VRel S av v := by simpa using hr.2 0 (by simp)
   have htt := ht t (by simp)
   have hF' : FRel S (put s (some t) av) { tmps := tmps.setIfInBounds t v, defers := [] } := by
    intro u
    simp only [put]
    by_cases e : u = t
    ·subst e
     rw [if_pos rfl]
     simpa [Array.getD_eq_getD_getElem?, htt] using hv
    ·rw [if_neg e]
     have := hF u
     simpa [Array.getD_eq_getD_getElem?, Array.getElem?_setIfInBounds_ne (show t ≠ u from fun h => e h.symm)] using this
   have := putAll_rel ps avs vs (put s (some t) av) (tmps.setIfInBounds t v) hr' (by simpa using hl) (fun u hu => by simpa using ht u (by simp [hu])) hF'
   simpa [putAll] using this

/-- What is asked at a round's end. -/
def RoundQ (lid l n : Nat) (s0 : Fr) (ps : Array Tmp) (assign body : Code) (did : Nat) (R : Res → Hp → Prop) : Post := fun x s ds H => match x with
 | .normal => ∃ st pd, H lid = some (.loop l n s0 ps assign body st pd did) ∧ R (.ret (.lit (.bool true))) (H.set lid (.loop l n s0 ps assign body .ready none did))
 | .ret => ∃ st pd, H lid = some (.loop l n s0 ps assign body st pd did) ∧ R (.ret (.lit (.bool false))) (H.set lid (.loop l n s0 ps assign body .done (some .ret) did))
 | .exit i => ∃ st pd, H lid = some (.loop l n s0 ps assign body st pd did) ∧ R (.ret (.lit (.bool false))) (H.set lid (.loop l n s0 ps assign body .done (some (.exit i)) did))
 | .pan _ => False

theorem tri_yield {P : Program} {lid l n : Nat} {s : Fr} {ps : Array Tmp} {assign body : Code} {did : Nat} {H : Hp} {args : List AV} {R : Res → Hp → Prop}
  (ho : H lid = some (.loop l n s ps assign body .ready none did)) (hlen : args.length = ps.size) (hps : ∀ t ∈ ps.toList, t < n)
  (h : WPS (some l) P n assign (putAll s ps.toList args) [] H (fun x s' ds' H' => x = .normal ∧ H' lid = some (.loop l n s ps assign body .ready none did) ∧
   WPS (some l) P n body s' ds' (H'.set lid (.loop l n s ps assign body .busy none did)) (RoundQ lid l n s ps assign body did R))) :
  Tri P (.func (.yield l) [] []) args H R := by
 intro S vf vs hH hvf ha
 cases hvf with
 | @func _ _ _ ws us hn hm hw hu =>
   have hws : ws = #[] := by simpa using hn
   have hus : us = #[] := by simpa using hm
   subst hws hus
   obtain ⟨hl, hni, fn1, tmps1, D1, hheap, htm, hfr, hd1⟩ := hH.obj _ _ ho
   have hvs : vs.toArray.size = ps.size := by simp; rw [ha.1, hlen]
   refine ⟨_, by
    simp only [Deferred.ofValue, Sem.run_bind, Sem.run_pure, Result.andThen_ok, invoke]
    have e : (#[] : Array Value) ++ vs.toArray = vs.toArray := by simp
    rw [e]
    exact run_yield hheap hvs, ?_⟩
   show RoundIn Fence.wide 0 P l fn1 _ assign body S.w (Out S R)
   refine roundIn_of_wpIn trivial ?_
   have hfold : (ps.zip vs.toArray).foldl (fun tmps (t, a) => tmps.setIfInBounds t a) tmps1 = (ps.toList.zip vs).foldl (fun tmps (t, a) => tmps.setIfInBounds t a) tmps1 := by
    rw [← Array.foldl_toList]; simp
   obtain ⟨hF, hsz⟩ := putAll_rel ps.toList args vs s tmps1 ha (by simpa using hlen) (fun t ht => by rw [htm]; exact hps t ht) hfr
   simp only
   rw [hfold]
   refine wpIn_mono (h S _ (hsz.trans htm) hH hF .nil) ?_
   rintro e a1 w1 ⟨S1, x1, s1, ds1, H1, rfl, hle1, hH1, hF1, hD1, hn1, hx1, hxn, ho1, hbody⟩
   subst hxn
   cases e <;> simp only [XRel] at hx1
   obtain ⟨hl1, hni1, fn2, tmps2, D2, hheap1, htm1, hfr1, hd2⟩ := hH1.obj _ _ ho1
   obtain ⟨hle2, hH2⟩ := putObj_rel (ob := .loop { state := .busy, pending := none, fn := fn2, tmps := tmps2, params := ps, assign, body, defers := D2 }) (o' := .loop l n s ps assign body .busy none did) hH1 ho1 rfl rfl hl1 hheap1
    (fun c e fz x => by cases x) (fun hle3 => ⟨hl1, hni1, fn2, tmps2, D2, World.putObj_heap_same (lt_of_heap hheap1), htm1, hfr1.mono hle3, hd2⟩)
   refine ⟨_, run_beginRound hheap1 rfl, ?_⟩
   refine wpIn_mono (hbody _ a1 hn1 hH2 (hF1.mono hle2) (hD1.mono hle2)) ?_
   rintro e a2 w2 ⟨S2, x2, s2, ds2, H3, rfl, hle3, hH3, hF3, hD3, hn3, hx2, hq⟩
   have fin : ∀ (jump : Option Code), (∃ st pd, H3 lid = some (.loop l n s ps assign body st pd did) ∧ R (.ret (.lit (.bool jump.isNone))) (H3.set lid (.loop l n s ps assign body (if jump.isNone then .ready else .done) jump did))) →
     ∃ v w', (Instr.endRound l jump).run P S2.w = .ok v w' ∧ Out S R (.returned v) w' := by
    rintro jump ⟨st, pd, ho3, hr⟩
    obtain ⟨hl3, hni3, fn3, tmps3, D3, hheap3, htm3, hfr3, hd3⟩ := hH3.obj _ _ ho3
    obtain ⟨hle4, hH4⟩ := putObj_rel (ob := .loop { state := if jump.isNone then .ready else .done, pending := jump, fn := fn3, tmps := tmps3, params := ps, assign, body, defers := D3 }) (o' := .loop l n s ps assign body (if jump.isNone then .ready else .done) jump did) hH3 ho3 rfl rfl hl3 hheap3
     (fun c e fz x => by cases x) (fun hle5 => ⟨hl3, hni3, fn3, tmps3, D3, World.putObj_heap_same (lt_of_heap hheap3), htm3, hfr3.mono hle5, hd3⟩)
    exact ⟨_, _, run_endRound jump hheap3, _, .ret (.lit (.bool jump.isNone)), _, rfl, ((hle1.trans hle2).trans hle3).trans hle4, hH4, VRel.lit _, hr⟩
   cases e with
   | normal => cases x2 <;> simp [XRel] at hx2; exact fin none hq
   | ret => cases x2 <;> simp [XRel] at hx2; exact fin (some .ret) hq
   | exit i =>
     cases x2 <;> simp [XRel] at hx2
     subst hx2
     exact fin (some (.exit i)) hq
   | goto t => cases x2 <;> simp [XRel] at hx2
   | outgrown => cases x2 <;> simp [XRel] at hx2
   | panic ch =>
     cases x2 with
     | pan v => exact hq.elim
     | _ => simp [XRel] at hx2

end Go.V
end
section
set_option linter.unusedVariables false
set_option linter.unusedSimpArgs false
namespace Go.V
set_option linter.unusedSectionVars false
variable [Inhabited GivT]
/-- yield, called with one after another of a list, as long as it says true. -/
def Iter (P : Program) (y : AV) (Pre : Hp → Prop) : List (List AV) → Hp → (Hp → Prop) → Prop
 | [], H, K => K H
 | x :: l, H, K => Pre H ∧ Tri P y x H fun r H' => (r = .ret (.lit (.bool true)) ∧ Iter P y Pre l H' K) ∨ (r = .ret (.lit (.bool false)) ∧ K H')
theorem HSub.reset {A B : Hp} {i : Nat} {o o' : Obj} (h : Go.V.HSub A (B.set i o)) : Go.V.HSub (A.set i o') (B.set i o') := by
 intro j x hx
 by_cases e : j = i
 ·subst e; rw [Hp.set_same] at hx ⊢; cases hx; exact ⟨_, rfl, .refl _⟩
 ·rw [Hp.set_ne _ _ e] at hx ⊢
  exact h j x (by rw [Hp.set_ne _ _ e]; exact hx)

section
variable {P : Program} {m : Option Tmp → Bool} {n : Nat} {k : List It} {s : Fr} {ds : List AD} {H : Hp} {Q : Post}
/-- What is asked at a round's end. -/
def RndQ (P : Program) (m : Option Tmp → Bool) (n : Nat) (k : List It) (Q : Post) (nx : Hp) (s : Fr) (ds : List AD) (lid did : Nat) (lo : LoopState → Option Code → Obj) : Post := fun x s' ds' H' => match x with
 | .normal => (∃ st pd, H' lid = some (lo st pd)) ∧ Go.V.HSub H' ((nx.set did (.raw (.deferred (some [])))).set lid (lo .busy none))
 | .ret => (∃ st pd, H' lid = some (lo st pd)) ∧ VX none P m n k .ret s (.mark did :: ds) (H'.set lid (lo .exhausted (some .ret))) Q
 | .exit j => (∃ st pd, H' lid = some (lo st pd)) ∧ VX none P m n k (.exit j) s (.mark did :: ds) (H'.set lid (lo .exhausted (some (.exit j)))) Q
 | .pan _ => False
theorem RndQ_normal {nx : Hp} {s' : Fr} {ds' : List AD} {lid did : Nat} {lo : LoopState → Option Code → Obj} :
  RndQ P m n k Q nx s ds lid did lo .normal s' ds' H = ((∃ st pd, H lid = some (lo st pd)) ∧ Go.V.HSub H ((nx.set did (.raw (.deferred (some [])))).set lid (lo .busy none))) := rfl
theorem RndQ_ret {nx : Hp} {s' : Fr} {ds' : List AD} {lid did : Nat} {lo : LoopState → Option Code → Obj} :
  RndQ P m n k Q nx s ds lid did lo .ret s' ds' H = ((∃ st pd, H lid = some (lo st pd)) ∧ VX none P m n k .ret s (.mark did :: ds) (H.set lid (lo .exhausted (some .ret))) Q) := rfl
theorem RndQ_exit {nx : Hp} {s' : Fr} {ds' : List AD} {lid did j : Nat} {lo : LoopState → Option Code → Obj} :
  RndQ P m n k Q nx s ds lid did lo (.exit j) s' ds' H = ((∃ st pd, H lid = some (lo st pd)) ∧ VX none P m n k (.exit j) s (.mark did :: ds) (H.set lid (lo .exhausted (some (.exit j)))) Q) := rfl

def AsgQ (P : Program) (m : Option Tmp → Bool) (n : Nat) (l : Nat) (body : Code) (k : List It) (Q : Post) (nx : Hp) (s : Fr) (ds : List AD) (lid did : Nat) (lo : LoopState → Option Code → Obj) : Post := fun x s' ds' H' => match x with
 | .normal => H' lid = some (lo .ready none) ∧ VS (some l) P m n [.code body] s' ds' (H'.set lid (lo .busy none)) (RndQ P m n k Q nx s ds lid did lo)
 | _ => False
theorem AsgQ_normal {l : Nat} {body : Code} {nx : Hp} {s' : Fr} {ds' : List AD} {lid did : Nat} {lo : LoopState → Option Code → Obj} :
  AsgQ P m n l body k Q nx s ds lid did lo .normal s' ds' H = (H lid = some (lo .ready none) ∧ VS (some l) P m n [.code body] s' ds' (H.set lid (lo .busy none)) (RndQ P m n k Q nx s ds lid did lo)) := rfl

end
end Go.V
end
section
set_option linter.unusedVariables false
set_option linter.unusedSimpArgs false
namespace Go.V
set_option linter.unusedSectionVars false
variable [Inhabited GivT]
theorem Hp.set_none {H : Hp} {i : Nat} {o : Obj} {j : Nat} : ((H.set i o) j = none) = ((¬ j = i ∧ ¬ i = j) ∧ H j = none) := by
 simp only [Hp.set]
 apply propext
 by_cases e : j = i
 ·rw [if_pos e]; exact ⟨fun h => (by cases h), fun h => absurd e h.1.1⟩
 ·rw [if_neg e]; exact ⟨fun h => ⟨⟨e, fun x => e x.symm⟩, h⟩, fun h => h.2⟩
theorem ite_none {i j : Nat} {o : Obj} {x : Option Obj} : ((if j = i then some o else x) = none) = ((¬ j = i ∧ ¬ i = j) ∧ x = none) := by
 apply propext
 by_cases e : j = i
 ·rw [if_pos e]; exact ⟨fun h => (by cases h), fun h => absurd e h.1.1⟩
 ·rw [if_neg e]; exact ⟨fun h => ⟨⟨e, fun x => e x.symm⟩, h⟩, fun h => h.2⟩
theorem HSub_put {A B : Hp} {i : Nat} {o o' : Obj} (h : A i = some o') (hle : Obj.Le o' o) (k : Go.V.HSub A B) : Go.V.HSub A (B.set i o) := by
 intro j x hx
 by_cases e : j = i
 ·subst e; rw [Hp.set_same] at hx; cases hx; exact ⟨o', h, hle⟩
 ·rw [Hp.set_ne _ _ e] at hx; exact k j x hx
theorem HSub_put_eq {A B : Hp} {i : Nat} {o : Obj} (h : A i = some o) (k : Go.V.HSub A B) : Go.V.HSub A (B.set i o) := HSub_put h (.refl _) k
theorem HSub_drop2 {A B : Hp} {i : Nat} {o : Obj} (h : B i = none) (k : Go.V.HSub A B) : Go.V.HSub (A.set i o) B := by
 intro j x hx
 have e : j ≠ i := fun e => by rw [e, h] at hx; cases hx
 obtain ⟨y, h1, h2⟩ := k j x hx
 exact ⟨y, by rw [Hp.set_ne _ _ e]; exact h1, h2⟩
theorem HSub_keep {A B : Hp} {i : Nat} {o o' : Obj} (h : B i = some o') (hle : Obj.Le o o') (k : Go.V.HSub A B) : Go.V.HSub (A.set i o) B := by
 intro j x hx
 by_cases e : j = i
 ·subst e; rw [h] at hx; cases hx; exact ⟨o, Hp.set_same _ _ _, hle⟩
 ·obtain ⟨y, h1, h2⟩ := k j x hx
  exact ⟨y, by rw [Hp.set_ne _ _ e]; exact h1, h2⟩
theorem HSub_keep_eq {A B : Hp} {i : Nat} {o : Obj} (h : B i = some o) (k : Go.V.HSub A B) : Go.V.HSub (A.set i o) B := HSub_keep h (.refl _) k
theorem HSub_rfl {H : Hp} : Go.V.HSub H H := HSub.refl H

/-- A call of which all is told by what comes back. -/
theorem callK {P : Program} {fv : AV} {args : List AV} {H : Hp} {K Kp : AV → Hp → Prop} {R : Res → Hp → Prop} (h : Tri P fv args H R) (k : ∀ r H', R r H' → match r with | .ret v => K v H' | .pan v => Kp v H') : CallK P fv args H K Kp := ⟨R, h, k⟩

end Go.V
end
section
set_option linter.unusedVariables false
set_option linter.unusedSimpArgs false
namespace Go.V
set_option linter.unusedSectionVars false
variable [Inhabited GivT]
section
variable {r : Option Nat} {P : Program} {m : Option Tmp → Bool} {n : Nat} {k : List It} {s : Fr} {ds : List AD} {H : Hp} {Q : Post}
def LoopD {σ : Type} (r : Option Nat) (P : Program) (m : Option Tmp → Bool) (n : Nat) (inv : σ → Prop) (fr : σ → List (Nat × AV)) (dsf : σ → List AD) (hp : σ → Hp) (μ : σ → Nat) (k : List It) (Q : Post) (x : σ) : Post := fun e s' ds' H' => match e with
 | .normal => Ent s' ds' H' fun s2 ds2 H2 => ∃ x', inv x' ∧ μ x' < μ x ∧ s2 = Fr.of (fr x') ∧ ds2 = dsf x' ∧ H2 = hp x'
 | e => VX r P m n k e s' ds' H' Q
section
variable {σ : Type} {inv : σ → Prop} {fr : σ → List (Nat × AV)} {dsf : σ → List AD} {hp : σ → Hp} {μ : σ → Nat} {x : σ}
theorem LoopD_exit {i : Nat} {ds' : List AD} : LoopD r P m n inv fr dsf hp μ k Q x (.exit i) s ds' H = VX r P m n k (.exit i) s ds' H Q := rfl
theorem LoopD_ret {ds' : List AD} : LoopD r P m n inv fr dsf hp μ k Q x .ret s ds' H = VX r P m n k .ret s ds' H Q := rfl
theorem LoopD_pan {v : AV} {ds' : List AD} : LoopD r P m n inv fr dsf hp μ k Q x (.pan v) s ds' H = VX r P m n k (.pan v) s ds' H Q := rfl
end
end
abbrev dfO : Obj := .raw (.deferred (some []))

/-- A heap with marks' blocks over another one. -/
structure Mk (H : Hp) (l : List Nat) (G : Hp) : Prop where
 nodup : l.Nodup
 at' : ∀ d ∈ l, G d = some dfO
 base : ∀ d ∈ l, H d = none
 sub : Go.V.HSub G H
theorem Mk.nil (H : Hp) : Mk H [] H := ⟨List.nodup_nil, fun d h => absurd h (by simp), fun d h => absurd h (by simp), HSub.refl H⟩
theorem Mk.no {H G : Hp} {l : List Nat} (h : Mk H l G) {d : Nat} (hd : G d = none) : H d = none := by
 cases e : H d with
 | none => rfl
 | some o => obtain ⟨o', h1, _⟩ := h.sub d o e; rw [hd] at h1; cases h1
theorem Mk.cons {H G : Hp} {l : List Nat} (h : Mk H l G) {d : Nat} (hd : G d = none) : Mk H (d :: l) (G.set d dfO) := by
 have hne : ∀ x ∈ l, x ≠ d := fun x hx e => by rw [← e, h.at' x hx] at hd; cases hd
 refine ⟨List.nodup_cons.2 ⟨fun hm => hne d hm rfl, h.nodup⟩, fun x hx => ?_, fun x hx => ?_, HSub_drop2 (h.no hd) h.sub⟩
 ·by_cases e : x = d
  ·subst e; exact Hp.set_same _ _ _
  ·rw [Hp.set_ne _ _ e]
   exact h.at' x ((List.mem_cons.1 hx).resolve_left e)
 ·rcases List.mem_cons.1 hx with rfl | hx
  ·exact h.no hd
  ·exact h.base x hx

end Go.V
end
section
set_option linter.unusedVariables false
set_option linter.unusedSimpArgs false
namespace Go.V
set_option linter.unusedSectionVars false
variable [Inhabited GivT]
/-- What is known where code is cut in two. -/
def CutQ (l : List (Nat × AV)) (ds0 : List AD) (H0 : Hp) : Post := fun x s ds H => match x with
 | .normal => Slots s l ∧ ds = ds0 ∧ HSub H H0
 | _ => False
theorem CutQ_normal {l : List (Nat × AV)} {ds0 ds : List AD} {H0 H : Hp} {s : Fr} : CutQ l ds0 H0 .normal s ds H = (Slots s l ∧ ds = ds0 ∧ HSub H H0) := rfl
theorem wps_cut {r : Option Nat} {P : Program} {m : Option Tmp → Bool} {n : Nat} {a b : Code} {s : Fr} {ds : List AD} {H : Hp} {Q : Post} (l : List (Nat × AV)) (H0 : Hp) (ds0 : List AD)
  (h1 : VS r P m n [.code a] s ds H (CutQ l ds0 H0)) (h2 : WPS r P n b (Fr.of l) ds0 H0 Q) : WPS r P n (.seq a b) s ds H Q := by
 refine wps_seq ((vcC_sound a h1).mono fun x s' ds' H' hq => ?_)
 cases x with
 | normal =>
   obtain ⟨q1, rfl, q3⟩ := hq
   exact wps_ent (Ent.of l q1 q3 h2)
 | _ => exact hq.elim
theorem wps_vs {r : Option Nat} {P : Program} {m : Option Tmp → Bool} {n : Nat} {c : Code} {s : Fr} {ds : List AD} {H : Hp} {Q : Post} (h : VS r P m n [.code c] s ds H Q) : WPS r P n c s ds H Q := vcC_sound c h
theorem tri_w0 {P : Program} {f : FuncId} {fn : Func} {c : Code} {caps args : List AV} {H : Hp} {R : Res → Hp → Prop} (hf : P.funcs[f]? = some fn) (hname : (fn.name == "runtime.NumGoroutine") = false)
  (hb : fn.body = some c) (hlen : (args ++ caps).length ≤ fn.ntmps) (hbody : WPS none P fn.ntmps c (argFr (args ++ caps)) [] H (FnPost0 P fn R)) : Tri P (.func (.func f) [] caps) args H R :=
 tri_func hf hname hb hlen (hbody.mono fun x s ds H h => by
  cases x with
  | normal => exact .ret h
  | ret => exact .ret h
  | pan v => exact h
  | exit i => exact h)

end Go.V
end
section
set_option linter.unusedVariables false
set_option linter.unusedSimpArgs false
namespace Go.V
set_option linter.unusedSectionVars false
variable [Inhabited GivT]
section
variable {P : Program} {m : Option Tmp → Bool} {n : Nat} {k : List It} {s : Fr} {ds : List AD} {H : Hp} {Q : Post}
def RndS (P : Program) (m : Option Tmp → Bool) (n : Nat) (k : List It) (Q : Post) (NX : Hp → Prop) (s : Fr) (ds : List AD) (lid did : Nat) (lo : LoopState → Option Code → Obj) : Post := fun x s' ds' H' => match x with
 | .normal => (∃ st pd, H' lid = some (lo st pd)) ∧ ∃ nx, NX nx ∧ Go.V.HSub H' ((nx.set did (.raw (.deferred (some [])))).set lid (lo .busy none))
 | .ret => (∃ st pd, H' lid = some (lo st pd)) ∧ VX none P m n k .ret s (.mark did :: ds) (H'.set lid (lo .exhausted (some .ret))) Q
 | .exit j => (∃ st pd, H' lid = some (lo st pd)) ∧ VX none P m n k (.exit j) s (.mark did :: ds) (H'.set lid (lo .exhausted (some (.exit j)))) Q
 | .pan _ => False
variable {NX : Hp → Prop} {s' : Fr} {ds' : List AD} {lid did : Nat} {lo : LoopState → Option Code → Obj}
theorem RndS_normal : RndS P m n k Q NX s ds lid did lo .normal s' ds' H = ((∃ st pd, H lid = some (lo st pd)) ∧ ∃ nx, NX nx ∧ Go.V.HSub H ((nx.set did (.raw (.deferred (some [])))).set lid (lo .busy none))) := rfl
theorem RndS_ret : RndS P m n k Q NX s ds lid did lo .ret s' ds' H = ((∃ st pd, H lid = some (lo st pd)) ∧ VX none P m n k .ret s (.mark did :: ds) (H.set lid (lo .exhausted (some .ret))) Q) := rfl
theorem RndS_exit {j : Nat} : RndS P m n k Q NX s ds lid did lo (.exit j) s' ds' H = ((∃ st pd, H lid = some (lo st pd)) ∧ VX none P m n k (.exit j) s (.mark did :: ds) (H.set lid (lo .exhausted (some (.exit j)))) Q) := rfl
def AsgS (P : Program) (m : Option Tmp → Bool) (n : Nat) (l : Nat) (body : Code) (k : List It) (Q : Post) (NX : Hp → Prop) (s : Fr) (ds : List AD) (lid did : Nat) (lo : LoopState → Option Code → Obj) : Post := fun x s' ds' H' => match x with
 | .normal => H' lid = some (lo .ready none) ∧ VS (some l) P m n [.code body] s' ds' (H'.set lid (lo .busy none)) (RndS P m n k Q NX s ds lid did lo)
 | _ => False
theorem AsgS_normal {l : Nat} {body : Code} : AsgS P m n l body k Q NX s ds lid did lo .normal s' ds' H = (H lid = some (lo .ready none) ∧ VS (some l) P m n [.code body] s' ds' (H.set lid (lo .busy none)) (RndS P m n k Q NX s ds lid did lo)) := rfl

end
open Classical in
noncomputable def updV (f : Value → Option Value) (key v : Value) : Value → Option Value := fun k => if k = key then some v else f k
theorem updV_same (f : Value → Option Value) (key v : Value) : updV f key v key = some v := by simp [updV]
theorem updV_ne (f : Value → Option Value) {key k : Value} (v : Value) (h : k ≠ key) : updV f key v k = f k := by simp [updV, h]
structure MapIs (f : Value → Option Value) (es : Array MapEntry) : Prop where
 apart : es.toList.Pairwise fun x y => x.key ≠ y.key
 here : ∀ e ∈ es.toList, f e.key = some e.val
 all : ∀ k v, f k = some v → ∃ e ∈ es.toList, e.key = k ∧ e.val = v
theorem MapIs.empty : MapIs (fun _ => none) #[] := ⟨by simp, fun e h => by simp at h, fun k v h => by cases h⟩

theorem MapIs.find {P : Program} {T kt et : TypeId} {f : Value → Option Value} {es : Array MapEntry} {key : Value} (h : MapIs f es) (hu : P.underlying T = some (.map kt et)) (K : Maps.Keyed P kt) (hk : ∃ l, keyOf P kt key = some l)
  (hes : ∀ k v, f k = some v → ∃ l, keyOf P kt k = some l) :
  ∃ o, (∀ em, FoundAt P T em es key o) ∧ KeyOkay P T es key o ∧ (∀ z, gotV z o = (f key).getD z) ∧ o.isSome = (f key).isSome ∧
    ∀ v ck, MapIs (updV f key v) (updM es key v ck o) := by
 obtain ⟨o, h1, h2, h3⟩ := found_of hu K hk (fun e he => hes _ _ (h.here e he)) h.apart
 rcases h3 with ⟨rfl, h3⟩ | ⟨j, e, rfl, h4, h5⟩
 ·have hn : f key = none := by
   cases hf : f key with
   | none => rfl
   | some v => obtain ⟨e, he, h5, _⟩ := h.all key v hf; exact absurd h5 (h3 e he)
  refine ⟨none, h1, ⟨h1 false, h2, fun i v h => by cases h⟩, fun z => by rw [hn]; rfl, by rw [hn]; rfl, fun v ck => ?_⟩
  refine ⟨?_, fun e he => ?_, fun k w hk => ?_⟩
  ·simp only [updM, Array.toList_push, List.pairwise_append]
   exact ⟨h.apart, by simp, fun a ha b hb => by simp at hb; subst hb; exact h3 a ha⟩
  ·simp only [updM, Array.toList_push, List.mem_append, List.mem_singleton] at he
   rcases he with he | rfl
   ·rw [updV_ne _ _ (h3 e he)]; exact h.here e he
   ·exact updV_same _ _ _
  ·simp only [updM, Array.toList_push, List.mem_append, List.mem_singleton]
   by_cases ek : k = key
   ·subst ek; rw [updV_same] at hk; cases hk; exact ⟨_, .inr rfl, rfl, rfl⟩
   ·rw [updV_ne _ _ ek] at hk
    obtain ⟨e, he, h6, h7⟩ := h.all k w hk; exact ⟨e, .inl he, h6, h7⟩
 ·have hmem : e ∈ es.toList := by
   have := List.mem_of_getElem? (l := es.toList) (i := j) (a := e) (by simpa using h4)
   exact this
  have hs : f key = some e.val := by rw [← h5]; exact h.here e hmem
  refine ⟨some (j, e.val), h1, ⟨h1 false, h2, fun i v hi => by cases hi; rw [h4]; simp [h5]⟩, fun z => by rw [hs]; rfl, by rw [hs]; rfl, fun v ck => ?_⟩
  have hj : j < es.size := (Array.getElem?_eq_some_iff.1 h4).1
  have hl : (updM es key v ck (some (j, e.val))).toList = es.toList.set j { e with key := key, val := v } := by
   simp only [updM]
   apply List.ext_getElem?
   intro q
   rw [Array.getElem?_toList, Array.getElem?_modify, List.getElem?_set]
   by_cases hq : j = q
   ·subst hq
    have : j < es.toList.length := by simpa using hj
    simp [h4, hj, (Array.getElem?_eq_some_iff.1 h4).2]
   ·simp [hq]
  have huniq : ∀ x ∈ es.toList, x.key = key → x = e := by
   intro x hx hxk
   obtain ⟨q, hq⟩ := List.getElem?_of_mem hx
   by_cases hqj : q = j
   ·subst hqj
    have : es.toList[q]? = some e := by simpa using h4
    rw [hq] at this; cases this; rfl
   ·exfalso
    obtain ⟨hq1, hq2⟩ := List.getElem?_eq_some_iff.1 hq
    have hj2 : j < es.toList.length := by simpa using hj
    have he2 : es.toList[j] = e := by
     have : es.toList[j]? = some e := by simpa using h4
     rw [List.getElem?_eq_getElem hj2] at this; cases this; rfl
    rcases Nat.lt_or_gt_of_ne hqj with hlt | hgt
    ·have := List.pairwise_iff_getElem.1 h.apart q j hq1 hj2 hlt
     rw [hq2, he2] at this; exact this (hxk.trans h5.symm)
    ·have := List.pairwise_iff_getElem.1 h.apart j q hj2 hq1 hgt
     rw [hq2, he2] at this; exact this (h5.trans hxk.symm)
  refine ⟨?_, fun x hx => ?_, fun k w hk => ?_⟩
  ·rw [hl]
   rw [List.pairwise_iff_getElem]
   intro a b ha hb hab
   have ha' : a < es.toList.length := by simpa using ha
   have hb' : b < es.toList.length := by simpa using hb
   have hold := List.pairwise_iff_getElem.1 h.apart a b ha' hb' hab
   have he2 : ∀ (hj2 : j < es.toList.length), es.toList[j] = e := fun hj2 => by
    have : es.toList[j]? = some e := by simpa using h4
    rw [List.getElem?_eq_getElem hj2] at this; cases this; rfl
   rw [List.getElem_set, List.getElem_set]
   split <;> split
   ·omega
   ·rename_i e1 _; subst e1; rw [he2, h5] at hold; exact hold
   ·rename_i _ e1; subst e1; rw [he2, h5] at hold; exact hold
   ·exact hold
  ·rw [hl] at hx
   obtain ⟨q, hq⟩ := List.getElem?_of_mem hx
   by_cases hqj : j = q
   ·subst hqj
    have hj2 : j < es.toList.length := by simpa using hj
    rw [List.getElem?_set_self hj2] at hq
    cases hq
    exact updV_same _ _ _
   ·rw [List.getElem?_set_ne hqj] at hq
    have hx' := List.mem_of_getElem? hq
    have hxk : x.key ≠ key := by
     intro hxk
     have hxe := huniq x hx' hxk
     subst hxe
     have hj2 : j < es.toList.length := by simpa using hj
     have he2 : es.toList[j] = x := by
      have : es.toList[j]? = some x := by simpa using h4
      rw [List.getElem?_eq_getElem hj2] at this; cases this; rfl
     obtain ⟨hq1, hq2⟩ := List.getElem?_eq_some_iff.1 hq
     rcases Nat.lt_or_gt_of_ne hqj with hlt | hgt
     ·have := List.pairwise_iff_getElem.1 h.apart j q hj2 hq1 hlt
      rw [hq2, he2] at this; exact this rfl
     ·have := List.pairwise_iff_getElem.1 h.apart q j hq1 hj2 hgt
      rw [hq2, he2] at this; exact this rfl
    rw [updV_ne _ _ hxk]; exact h.here x hx'
  ·rw [hl]
   by_cases ek : k = key
   ·subst ek; rw [updV_same] at hk; cases hk
    exact ⟨_, List.mem_set (by simpa using hj) _, rfl, rfl⟩
   ·rw [updV_ne _ _ ek] at hk
    obtain ⟨x, hx, h6, h7⟩ := h.all k w hk
    refine ⟨x, ?_, h6, h7⟩
    obtain ⟨q, hq⟩ := List.getElem?_of_mem hx
    have hqj : j ≠ q := by
     rintro rfl
     have : es.toList[j]? = some e := by simpa using h4
     rw [this] at hq; cases hq
     exact ek (h6.symm.trans h5)
    exact List.mem_of_getElem? (i := q) (by rw [List.getElem?_set_ne hqj]; exact hq)

end Go.V
end
