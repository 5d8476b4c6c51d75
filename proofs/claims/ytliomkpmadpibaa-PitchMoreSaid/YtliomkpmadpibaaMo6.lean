/- WHAT IS PROVED: the given statement of this claim. Conditions: none beyond the given row. -/
import Derived.Test.YtliomkpmadpibaaRows
import Derived.ChangeVars
import Derived.Test.YtliomkpmadpibaaMo5
section
set_option linter.unusedVariables false
set_option linter.unusedSimpArgs false
set_option maxRecDepth 100000
namespace Go.Proofs.Ytliomkpmadpibaa
open Go.V Go.ChangeShapes Go.WideShapes Go.ChangeAt Go.RowKit
theorem pitch_cells : cellsT Try.prog 9 25 = some [.int .i64, .int .i64, .int .i64, .sl [.int .i64], .sl [.int .i64, .int .i64, .int .i64]] := by kernel_rfl
theorem ints_of {av : AV} (h : CKA (.sl [.int .i64]) av) : ∃ l : List Int, l.length ≤ maxLen ∧ AV.Le av (intsAV l) := by
  obtain ⟨l, h1, h2⟩ := told_slice (α := Int) (fun z => [i64 z]) 0 (fun cs hcs => by
    obtain ⟨z, hz, _⟩ := told_int 0 hcs rfl
    exact ⟨z, rfl, fun j hj => by
      match j, hj with
      | 0, _ => rw [hz]; exact AV.Le.refl _⟩) h
  exact ⟨l, h1, h2⟩
theorem pots_of {av : AV} (h : CKA (.sl [.int .i64, .int .i64, .int .i64]) av) : ∃ l : List Po, l.length ≤ maxLen ∧ AV.Le av (psAV l) := by
  obtain ⟨l, h1, h2⟩ := told_slice (α := Po) Po.cs po0 (fun cs hcs => by
    obtain ⟨a, ha, _⟩ := told_int 0 hcs rfl
    obtain ⟨b, hb, _⟩ := told_int 1 hcs rfl
    obtain ⟨c, hc, _⟩ := told_int 2 hcs rfl
    exact ⟨⟨a, b, c⟩, rfl, fun j hj => by
      match j, hj with
      | 0, _ => rw [ha]; exact AV.Le.refl _
      | 1, _ => rw [hb]; exact AV.Le.refl _
      | 2, _ => rw [hc]; exact AV.Le.refl _⟩) h
  exact ⟨l, h1, h2⟩
theorem pitch_rel {H : Type} {enc : TypeId × Value → H} {W : World} {sp : Nat → Bool} {held : Bool} {v : Value} {d : DataW H} {ps : List MemPlace}
    {base : Nat} (hv : Value.okWide Try.prog W .any base 25 v) (h : DataW.Trod enc Try.prog W 0 sp held 25 v d ps) : ∃ p : Pt, True ∧ VRel (st0 W) p.av v := by
  obtain ⟨cs, hcs, hv⟩ := trod_agg pitch_cells (by decide) h
  obtain ⟨hr, h0, _⟩ := told_int 0 hcs rfl
  obtain ⟨fro, h1, _⟩ := told_int 1 hcs rfl
  obtain ⟨per, h2, _⟩ := told_int 2 hcs rfl
  obtain ⟨fs, l3, h3⟩ := ints_of (hcs.2 3 _ rfl)
  obtain ⟨ps, l4, h4⟩ := pots_of (hcs.2 4 _ rfl)
  refine ⟨⟨hr, fro, per, fs, ps⟩, trivial, AV.Le.aggD (cs := cs) hcs.1.symm (fun j hj => ?_) _ _ hv⟩
  have hj5 : j < 5 := by have := hcs.1; simp at this; omega
  match j, hj5 with
  | 0, _ => rw [h0]; exact AV.Le.refl _
  | 1, _ => rw [h1]; exact AV.Le.refl _
  | 2, _ => rw [h2]; exact AV.Le.refl _
  | 3, _ => exact h3
  | 4, _ => exact h4
theorem Try.own : ownKnob Try.prog.godebug = none := by kernel_rfl
theorem u4 : Try.prog.underlying 4 = some .bool := by kernel_rfl
theorem u5 : Try.prog.underlying 5 = some (.int .u8) := by kernel_rfl
theorem u46 : Try.prog.underlying 46 = some (.slice 5) := by kernel_rfl
theorem wf_u8 {n : Int} (h : (Lit.int .u8 n).wf = true) : 0 ≤ n ∧ n ≤ 255 := by
  simp [Lit.wf, IntKind.min, IntKind.max, IntKind.signed, IntKind.bits] at h
  omega
def iz : Value → Int
  | .int _ n => n
  | _ => 0
theorem by_rel {H : Type} {enc : TypeId × Value → H} {W : World} {sp : Nat → Bool} {held : Bool} {v : Value} {d : DataW H} {ps : List MemPlace} {base : Nat}
    (hv : Value.okWide Try.prog W .any base 46 v) (h : DataW.Trod enc Try.prog W 0 sp held 46 v d ps) : ∃ (N : Nat) (b : Nat → Int), (N < 2 ^ 63 ∧ ∀ i, i < N → 0 ≤ b i ∧ b i ≤ 255) ∧ VRel (st0 W) (.rsl N 1 (byF b)) v := by
  obtain ⟨a, len, cap, rfl⟩ := okWide_slice u46 hv
  obtain ⟨fuel, h⟩ := h
  obtain ⟨n, g, hn, hl, hr⟩ := trod_slice_rel (d := 4) (e := 5) (ks := [.int .u8]) u46 (by decide +kernel) (by decide +kernel) (by decide) (show DataW.trod enc Try.prog W 0 sp held fuel 46 [.slice a len cap] = some (d, ps) from h)
  have key : ∀ i, i < n → ∃ z : Int, g i = [.int .u8 z] ∧ 0 ≤ z ∧ z ≤ 255 := fun i hi => by
    obtain ⟨h1, h2⟩ := hl i hi
    match hg : g i, h1 with
    | [x], _ =>
      obtain ⟨z, rfl, hz⟩ := h2 0 (.int .u8) x rfl (by rw [hg]; rfl)
      refine ⟨z, rfl, ?_⟩
      simp [Lit.wf, IntKind.min, IntKind.max, IntKind.signed, IntKind.bits] at hz
      omega
  have hm : maxLen < 2 ^ 63 := by decide
  refine ⟨n, fun i => iz ((g i).getD 0 undef), ⟨by omega, fun i hi => ?_⟩, AV.Le.rsl (fun i hi => ?_) _ _ hr⟩
  · obtain ⟨z, e, hz⟩ := key i hi
    simp only [e]; exact hz
  · obtain ⟨z, e, hz⟩ := key i hi
    simp only [e]; simp only [byF, e]; rfl
end Go.Proofs.Ytliomkpmadpibaa
end
section
set_option linter.unusedVariables false
set_option linter.unusedSimpArgs false
set_option maxRecDepth 100000
namespace Go.Proofs.Ytliomkpmadpibaa
open Go.V Go.ChangeShapes Go.WideShapes Go.ChangeAt Go.RowKit
theorem pitchMore_lifted (os : Os) (started : os.Started) (H : Type) (enc : TypeId × Value → H) :
    ReturnsInHanded {} Try.checked os 11 .any (Rows.pitchMoreSpec.pre6 enc Try.prog Try.f11 Rows.pitchMoreRow.domain false) (Rows.pitchMoreSpec.post enc Try.prog Try.f11 false true false false) := by
  refine returnsInHanded_of_change (C := Try.checked) Try.own started (by kernel_rfl) Try.func11
    (ChangeSpec.witness6 (enc := enc) (C := Try.checked) false ⟨#[], #[.agg #[.int .i64 0, .int .i64 0, .int .i64 0, .slice none 0 0, .slice none 0 0], .slice none 0 0, .int .u8 0, .int .u8 0, .int .u8 0], []⟩ 8 (by kernel_rfl) (by kernel_rfl) (by kernel_rfl) (by kernel_rfl)) ?_
  intro W base args ds gs before hval hW hcnd _
  have hW' := hW
  obtain ⟨p, q, hA, hV, rfl, hfz, hnd⟩ := hW
  obtain ⟨rfl, rfl⟩ := trodVars_none hV
  rw [show Try.f11.params.toList = [25, 46, 5, 5, 5] from by kernel_rfl] at hA
  obtain ⟨v0, v1, v2, v3, v4, d0, d1, d2, d3, d4, p0, p1, p2, p3, p4, rfl, rfl, rfl, h0, h1, h2, h3, h4⟩ := trodAll_five hA
  have hval : ∀ (j : Nat) t v, Try.f11.params[j]? = some t → (#[v0, v1, v2, v3, v4] : Array Value)[j]? = some v → Value.okWide Try.prog W .any base t v := hval
  rw [show Try.f11.params = #[25, 46, 5, 5, 5] from by kernel_rfl] at hval
  obtain ⟨x0, b0, r0⟩ := pitch_rel (hval 0 25 v0 rfl rfl) h0
  obtain ⟨N1, x1, b1, r1⟩ := by_rel (hval 1 46 v1 rfl rfl) h1
  obtain ⟨x2, rfl, rfl, rfl, w2⟩ := open_int u5 (hval 2 5 v2 rfl rfl) h2
  obtain ⟨x3, rfl, rfl, rfl, w3⟩ := open_int u5 (hval 3 5 v3 rfl rfl) h3
  obtain ⟨x4, rfl, rfl, rfl, w4⟩ := open_int u5 (hval 4 5 v4 rfl rfl) h4
  refine (law_calls (W := W) (args := #[v0, v1, .int .u8 x2, .int .u8 x3, .int .u8 x4]) Try.func11 (by kernel_rfl) rfl (Tri.mono (more_law x0 N1 x1 x2 x3 x4 H0 b1 (wf_u8 w2) (wf_u8 w3) (wf_u8 w4)) ?_) (fun p hp => by cases hp) ⟨rfl, fun k hk => match k, hk with | 0, _ => r0 | 1, _ => r1 | 2, _ => .lit _ | 3, _ => .lit _ | 4, _ => .lit _⟩).mono fun e W' he => ?_
  · rintro r H' ⟨rfl, _⟩; rfl
  · obtain ⟨rfl, hh, ho, hp⟩ := he
    exact ⟨_, rfl, law_post (d := 6) rfl (tb := 4) (by kernel_rfl) u4 (by decide +kernel) hW' rfl hh ho hp⟩

theorem pitchMore_holds : Rows.PitchMoreSaid :=
  OpenClaim.holds_of_wide (p := Try.pinned) (s := Rows.pitchMoreSpec) (c := Rows.pitchMoreRow) 11 Try.f11 rfl rfl rfl rfl rfl rfl rfl ⟨rfl, rfl, rfl, rfl, rfl⟩ rfl rfl rfl rfl rfl (by kernel_rfl) Try.func11 (by kernel_rfl)
    (of_decide_eq_true (by kernel_rfl)) (by unfold Func.isWrapper; first | (rw [if_pos (by decide +kernel)]; kernel_rfl) | (rw [if_neg (by decide +kernel)]; exact ⟨rfl, rfl⟩))
    (fun os started H enc _ => pitchMore_lifted os started H enc)

end Go.Proofs.Ytliomkpmadpibaa
end
