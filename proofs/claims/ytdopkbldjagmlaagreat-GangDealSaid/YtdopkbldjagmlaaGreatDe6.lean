/- WHAT IS PROVED: the given statement of this claim. Conditions: none beyond the given row. -/
import Derived.Test.YtdopkbldjagmlaaGreatDe5
section
set_option linter.unusedVariables false
set_option linter.unusedSimpArgs false
set_option maxRecDepth 100000
namespace Go.Proofs.YtdopkbldjagmlaaGreat
open Go.V Go.ChangeShapes Go.WideShapes Go.ChangeAt Go.RowKit
theorem gangDeal_lifted (os : Os) (started : os.Started) (H : Type) (enc : TypeId × Value → H) :
  ReturnsInHanded {} Tryz.checked os 6 .any (Rows.gangDealSpec.pre6 enc Tryz.prog Tryz.f6 Rows.gangDealRow.domain false) (Rows.gangDealSpec.post enc Tryz.prog Tryz.f6 false true false false) := by
 refine returnsInHanded_of_change (C := Tryz.checked) Tryz.own started (by kernel_rfl) Tryz.func6
  (ChangeSpec.witness6 (enc := enc) (C := Tryz.checked) false ⟨#[], #[.agg #[.slice none 0 0, .slice none 0 0, .int .i64 0, .int .i64 0, .int .i64 0, .slice none 0 0, .slice none 0 0], .slice none 0 0], []⟩ 8 (by kernel_rfl) (by kernel_rfl) (by kernel_rfl) (by kernel_rfl)) ?_
 intro W base args ds gs before hval hW hcnd _
 have hW' := hW
 obtain ⟨p, q, hA, hV, rfl, hfz, hnd⟩ := hW
 obtain ⟨rfl, rfl⟩ := trodVars_none hV
 rw [show Tryz.f6.params.toList = [29, 50] from by kernel_rfl] at hA
 obtain ⟨v0, v1, d0, d1, p0, p1, rfl, rfl, rfl, h0, h1⟩ := trodAll_two hA
 have hval : ∀ (j : Nat) t v, Tryz.f6.params[j]? = some t → (#[v0, v1] : Array Value)[j]? = some v → Value.okWide Tryz.prog W .any base t v := hval
 rw [show Tryz.f6.params = #[29, 50] from by kernel_rfl] at hval
 obtain ⟨x0, b0, r0⟩ := gang_rel (hval 0 29 v0 rfl rfl) h0
 obtain ⟨N1, x1, b1, r1⟩ := by_rel (hval 1 50 v1 rfl rfl) h1
 refine (law_calls (W := W) (args := #[v0, v1]) Tryz.func6 (by kernel_rfl) rfl (Tri.mono (deal_law x0 N1 x1 H0 b1) ?_) (fun p hp => by cases hp) ⟨rfl, fun k hk => match k, hk with | 0, _ => r0 | 1, _ => r1⟩).mono fun e W' he => ?_
 ·rintro r H' ⟨rfl, _⟩; rfl
 ·obtain ⟨rfl, hh, ho, hp⟩ := he
  exact ⟨_, rfl, law_post (d := 6) rfl (tb := 4) (by kernel_rfl) u4 (by decide +kernel) hW' rfl hh ho hp⟩

theorem gangDeal_holds : Rows.GangDealSaid :=
 OpenClaim.holds_of_wide (p := Tryz.pinned) (s := Rows.gangDealSpec) (c := Rows.gangDealRow) 6 Tryz.f6 rfl rfl rfl rfl rfl rfl rfl ⟨rfl, rfl, rfl, rfl, rfl⟩ rfl rfl rfl rfl rfl (by kernel_rfl) Tryz.func6 (by kernel_rfl)
  (of_decide_eq_true (by kernel_rfl)) (by unfold Func.isWrapper; first | (rw [if_pos (by decide +kernel)]; kernel_rfl) | (rw [if_neg (by decide +kernel)]; exact ⟨rfl, rfl⟩))
  (fun os started H enc _ => gangDeal_lifted os started H enc)

end Go.Proofs.YtdopkbldjagmlaaGreat
end
