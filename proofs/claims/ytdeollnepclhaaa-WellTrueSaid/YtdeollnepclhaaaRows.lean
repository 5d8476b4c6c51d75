/-
  No cell of these rows narrows 'for every input' (looked for: loops, veiled, ifaces, maps, wideKeys, modest, calm, conditions, laid).
  DERIVED. THE GIVEN ROWS OF THIS SEAT. 10 by the template 'for every input the law returns true; each argument reads behind the call as it read before'; 0 by the template 'total and deterministic' (their statements: YtdeollnepclhaaaTotals.lean).
  GIVEN WITH THE SEED: the statements are not yours to turn. If you find one false, say at which input.
  Laid BY PROGRAM, IN A SANDBOX (cutbox-rows.mjs): the forced cells as the released guide's own fill.sh prints them over the translation 668c87c1c92c3252… (all of the seat's roots in one cut). By AI agents, Wed Nov 11 2026. No macro, syntax, notation, axiom, sorry.
-/
import Derived.Test.YtdeollnepclhaaaChecked
import GoSem.Claim
import GoSem.ClaimJoined
import GoSem.ClaimMapViews
import Derived.JoinedTies
import Derived.KernelRfl
namespace Go.Proofs.Ytdeollnepclhaaa
/- THE CELL 'sum', in the pinned program and in every row, IS THE sha256 OF THE DUMP (.gsa) THAT YtdeollnepclhaaaProg.lean LOADS. Nothing in Lean hashes anything: it is a label: what it is worth is what the hold of that sum in a sandbox is worth. -/
noncomputable def Try.pinned : Pinned := { name := "ytdeollnepclhaaa", sum := "668c87c1c92c3252ae28a505a09f29e37fab3d88e33ba1f2d0ee086b43450f11", checked := Try.checked }
namespace Rows
def none {H : Type} : Left H := { results := [], args := [] }

/-- 'caulkworkslaw02.WellStands': WHATEVER THE INPUT: true; the input reads as it did. -/
def wellStandsSpec : ChangeSpec := { name := "wellStands", fn := fun _ => fun
  | [d1, d2, d3, d4] => { results := [.lit (.bool true)], args := [d1, d2, d3, d4] }
  | _ => none }
def wellStandsRow : OpenClaim := { program := "ytdeollnepclhaaa", sum := "668c87c1c92c3252ae28a505a09f29e37fab3d88e33ba1f2d0ee086b43450f11", func := "caulkworks/caulkworkslaw02.WellStands", spec := "wellStands", unfollowed := true, recurses := true, plainKeys := false, apart := false }
def WellStandsSaid : Prop := wellStandsRow.holds Try.pinned (OpenSpec.ofChange wellStandsSpec)

/-- ITS FALSE NEIGHBOUR: 'it returns false'. Refute it at one input. -/
def wellStandsWrong : ChangeSpec := { name := "wellStands", fn := fun _ => fun
  | [d1, d2, d3, d4] => { results := [.lit (.bool false)], args := [d1, d2, d3, d4] }
  | _ => none }
def WellStandsWrongFalsely : Prop := wellStandsRow.holds Try.pinned (OpenSpec.ofChange wellStandsWrong)

/-- 'caulkworkslaw02.WellTells': WHATEVER THE INPUT: true; the input reads as it did. -/
def wellTellsSpec : ChangeSpec := { name := "wellTells", fn := fun _ => fun
  | [d1, d2, d3, d4] => { results := [.lit (.bool true)], args := [d1, d2, d3, d4] }
  | _ => none }
def wellTellsRow : OpenClaim := { program := "ytdeollnepclhaaa", sum := "668c87c1c92c3252ae28a505a09f29e37fab3d88e33ba1f2d0ee086b43450f11", func := "caulkworks/caulkworkslaw02.WellTells", spec := "wellTells", unfollowed := true, recurses := true, plainKeys := false, apart := false }
def WellTellsSaid : Prop := wellTellsRow.holds Try.pinned (OpenSpec.ofChange wellTellsSpec)

/-- ITS FALSE NEIGHBOUR: 'it returns false'. Refute it at one input. -/
def wellTellsWrong : ChangeSpec := { name := "wellTells", fn := fun _ => fun
  | [d1, d2, d3, d4] => { results := [.lit (.bool false)], args := [d1, d2, d3, d4] }
  | _ => none }
def WellTellsWrongFalsely : Prop := wellTellsRow.holds Try.pinned (OpenSpec.ofChange wellTellsWrong)

/-- 'caulkworkslaw02.WellProves': WHATEVER THE INPUT: true; the input reads as it did. -/
def wellProvesSpec : ChangeSpec := { name := "wellProves", fn := fun _ => fun
  | [d] => { results := [.lit (.bool true)], args := [d] }
  | _ => none }
def wellProvesRow : OpenClaim := { program := "ytdeollnepclhaaa", sum := "668c87c1c92c3252ae28a505a09f29e37fab3d88e33ba1f2d0ee086b43450f11", func := "caulkworks/caulkworkslaw02.WellProves", spec := "wellProves", unfollowed := true, recurses := true, plainKeys := false, apart := false }
def WellProvesSaid : Prop := wellProvesRow.holds Try.pinned (OpenSpec.ofChange wellProvesSpec)

/-- ITS FALSE NEIGHBOUR: 'it returns false'. Refute it at one input. -/
def wellProvesWrong : ChangeSpec := { name := "wellProves", fn := fun _ => fun
  | [d] => { results := [.lit (.bool false)], args := [d] }
  | _ => none }
def WellProvesWrongFalsely : Prop := wellProvesRow.holds Try.pinned (OpenSpec.ofChange wellProvesWrong)

/-- 'caulkworkslaw02.WellWater': WHATEVER THE INPUT: true; the input reads as it did. -/
def wellWaterSpec : ChangeSpec := { name := "wellWater", fn := fun _ => fun
  | [d1, d2, d3] => { results := [.lit (.bool true)], args := [d1, d2, d3] }
  | _ => none }
def wellWaterRow : OpenClaim := { program := "ytdeollnepclhaaa", sum := "668c87c1c92c3252ae28a505a09f29e37fab3d88e33ba1f2d0ee086b43450f11", func := "caulkworks/caulkworkslaw02.WellWater", spec := "wellWater", unfollowed := true, recurses := true, plainKeys := false, apart := false }
def WellWaterSaid : Prop := wellWaterRow.holds Try.pinned (OpenSpec.ofChange wellWaterSpec)

/-- ITS FALSE NEIGHBOUR: 'it returns false'. Refute it at one input. -/
def wellWaterWrong : ChangeSpec := { name := "wellWater", fn := fun _ => fun
  | [d1, d2, d3] => { results := [.lit (.bool false)], args := [d1, d2, d3] }
  | _ => none }
def WellWaterWrongFalsely : Prop := wellWaterRow.holds Try.pinned (OpenSpec.ofChange wellWaterWrong)

/-- 'caulkworkslaw02.WellTrue': WHATEVER THE INPUT: true; the input reads as it did. -/
def wellTrueSpec : ChangeSpec := { name := "wellTrue", fn := fun _ => fun
  | [d] => { results := [.lit (.bool true)], args := [d] }
  | _ => none }
def wellTrueRow : OpenClaim := { program := "ytdeollnepclhaaa", sum := "668c87c1c92c3252ae28a505a09f29e37fab3d88e33ba1f2d0ee086b43450f11", func := "caulkworks/caulkworkslaw02.WellTrue", spec := "wellTrue", unfollowed := true, recurses := true, plainKeys := false, apart := false }
def WellTrueSaid : Prop := wellTrueRow.holds Try.pinned (OpenSpec.ofChange wellTrueSpec)

/-- ITS FALSE NEIGHBOUR: 'it returns false'. Refute it at one input. -/
def wellTrueWrong : ChangeSpec := { name := "wellTrue", fn := fun _ => fun
  | [d] => { results := [.lit (.bool false)], args := [d] }
  | _ => none }
def WellTrueWrongFalsely : Prop := wellTrueRow.holds Try.pinned (OpenSpec.ofChange wellTrueWrong)

/-- 'caulkworkslaw02.WellEnds': WHATEVER THE INPUT: true; the input reads as it did. -/
def wellEndsSpec : ChangeSpec := { name := "wellEnds", fn := fun _ => fun
  | [d1, d2, d3, d4] => { results := [.lit (.bool true)], args := [d1, d2, d3, d4] }
  | _ => none }
def wellEndsRow : OpenClaim := { program := "ytdeollnepclhaaa", sum := "668c87c1c92c3252ae28a505a09f29e37fab3d88e33ba1f2d0ee086b43450f11", func := "caulkworks/caulkworkslaw02.WellEnds", spec := "wellEnds", unfollowed := true, recurses := true, plainKeys := false, apart := false }
def WellEndsSaid : Prop := wellEndsRow.holds Try.pinned (OpenSpec.ofChange wellEndsSpec)

/-- ITS FALSE NEIGHBOUR: 'it returns false'. Refute it at one input. -/
def wellEndsWrong : ChangeSpec := { name := "wellEnds", fn := fun _ => fun
  | [d1, d2, d3, d4] => { results := [.lit (.bool false)], args := [d1, d2, d3, d4] }
  | _ => none }
def WellEndsWrongFalsely : Prop := wellEndsRow.holds Try.pinned (OpenSpec.ofChange wellEndsWrong)

/-- 'caulkworkslaw02.WellNext': WHATEVER THE INPUT: true; the input reads as it did. -/
def wellNextSpec : ChangeSpec := { name := "wellNext", fn := fun _ => fun
  | [d1, d2, d3] => { results := [.lit (.bool true)], args := [d1, d2, d3] }
  | _ => none }
def wellNextRow : OpenClaim := { program := "ytdeollnepclhaaa", sum := "668c87c1c92c3252ae28a505a09f29e37fab3d88e33ba1f2d0ee086b43450f11", func := "caulkworks/caulkworkslaw02.WellNext", spec := "wellNext", unfollowed := true, recurses := true, plainKeys := false, apart := false }
def WellNextSaid : Prop := wellNextRow.holds Try.pinned (OpenSpec.ofChange wellNextSpec)

/-- ITS FALSE NEIGHBOUR: 'it returns false'. Refute it at one input. -/
def wellNextWrong : ChangeSpec := { name := "wellNext", fn := fun _ => fun
  | [d1, d2, d3] => { results := [.lit (.bool false)], args := [d1, d2, d3] }
  | _ => none }
def WellNextWrongFalsely : Prop := wellNextRow.holds Try.pinned (OpenSpec.ofChange wellNextWrong)

/-- 'caulkworkslaw02.WellClash': WHATEVER THE INPUT: true; the input reads as it did. -/
def wellClashSpec : ChangeSpec := { name := "wellClash", fn := fun _ => fun
  | [d1, d2] => { results := [.lit (.bool true)], args := [d1, d2] }
  | _ => none }
def wellClashRow : OpenClaim := { program := "ytdeollnepclhaaa", sum := "668c87c1c92c3252ae28a505a09f29e37fab3d88e33ba1f2d0ee086b43450f11", func := "caulkworks/caulkworkslaw02.WellClash", spec := "wellClash", unfollowed := true, recurses := true, plainKeys := false, apart := false }
def WellClashSaid : Prop := wellClashRow.holds Try.pinned (OpenSpec.ofChange wellClashSpec)

/-- ITS FALSE NEIGHBOUR: 'it returns false'. Refute it at one input. -/
def wellClashWrong : ChangeSpec := { name := "wellClash", fn := fun _ => fun
  | [d1, d2] => { results := [.lit (.bool false)], args := [d1, d2] }
  | _ => none }
def WellClashWrongFalsely : Prop := wellClashRow.holds Try.pinned (OpenSpec.ofChange wellClashWrong)

/-- 'caulkworkslaw02.WellMore': WHATEVER THE INPUT: true; the input reads as it did. -/
def wellMoreSpec : ChangeSpec := { name := "wellMore", fn := fun _ => fun
  | [d1, d2, d3, d4, d5] => { results := [.lit (.bool true)], args := [d1, d2, d3, d4, d5] }
  | _ => none }
def wellMoreRow : OpenClaim := { program := "ytdeollnepclhaaa", sum := "668c87c1c92c3252ae28a505a09f29e37fab3d88e33ba1f2d0ee086b43450f11", func := "caulkworks/caulkworkslaw02.WellMore", spec := "wellMore", unfollowed := true, recurses := true, plainKeys := false, apart := false }
def WellMoreSaid : Prop := wellMoreRow.holds Try.pinned (OpenSpec.ofChange wellMoreSpec)

/-- ITS FALSE NEIGHBOUR: 'it returns false'. Refute it at one input. -/
def wellMoreWrong : ChangeSpec := { name := "wellMore", fn := fun _ => fun
  | [d1, d2, d3, d4, d5] => { results := [.lit (.bool false)], args := [d1, d2, d3, d4, d5] }
  | _ => none }
def WellMoreWrongFalsely : Prop := wellMoreRow.holds Try.pinned (OpenSpec.ofChange wellMoreWrong)

/-- 'caulkworkslaw02.WellTurned': WHATEVER THE INPUT: true; the input reads as it did. -/
def wellTurnedSpec : ChangeSpec := { name := "wellTurned", fn := fun _ => fun
  | [d1, d2, d3, d4] => { results := [.lit (.bool true)], args := [d1, d2, d3, d4] }
  | _ => none }
def wellTurnedRow : OpenClaim := { program := "ytdeollnepclhaaa", sum := "668c87c1c92c3252ae28a505a09f29e37fab3d88e33ba1f2d0ee086b43450f11", func := "caulkworks/caulkworkslaw02.WellTurned", spec := "wellTurned", unfollowed := true, recurses := true, plainKeys := false, apart := false }
def WellTurnedSaid : Prop := wellTurnedRow.holds Try.pinned (OpenSpec.ofChange wellTurnedSpec)

/-- ITS FALSE NEIGHBOUR: 'it returns false'. Refute it at one input. -/
def wellTurnedWrong : ChangeSpec := { name := "wellTurned", fn := fun _ => fun
  | [d1, d2, d3, d4] => { results := [.lit (.bool false)], args := [d1, d2, d3, d4] }
  | _ => none }
def WellTurnedWrongFalsely : Prop := wellTurnedRow.holds Try.pinned (OpenSpec.ofChange wellTurnedWrong)

/- THE SECOND FORM. 'bulk': how many values and letters a reading holds, each counted each time it is reached (what is shared counts as often as it is met; a slice's spare places count too). A statement '..UptoSaid' is the law's where the arguments, and the package variables that the reading takes, are together of bulk at most 1048576: NARROWER than '..Said'. Prove '..Said' where nothing that the law and all that it calls make is longer than what came in: it says more and counts as full. Else prove '..UptoSaid'. A law counts once. -/
mutual
def uptoBulk {H : Type} : DataW H → Nat
  | .lit (.string bytes) => bytes.length + 1
  | .lit _ => 1
  | .nil => 1
  | .ptr d => uptoBulk d + 1
  | .slice elems spare => uptoBulkAll elems + uptoBulkAll spare + 1
  | .agg parts => uptoBulkAll parts + 1
  | .iface _ d => uptoBulk d + 1
  | .map entries => uptoBulkEntries entries + 1
  | .held _ => 1
def uptoBulkAll {H : Type} : List (DataW H) → Nat
  | [] => 0
  | d :: r => uptoBulk d + uptoBulkAll r
def uptoBulkEntries {H : Type} : List (Lit × DataW H) → Nat
  | [] => 0
  | x :: r => uptoBulkEntry x + uptoBulkEntries r
def uptoBulkEntry {H : Type} : Lit × DataW H → Nat
  | (.string bytes, d) => bytes.length + uptoBulk d + 1
  | (_, d) => uptoBulk d + 1
 end
def uptoSmall : (H : Type) → List (DataW H) → Bool := fun _ ds => decide (uptoBulkAll ds ≤ 1048576)
def OpenSpec.upto (s : _root_.Go.ChangeSpec) : _root_.Go.OpenSpec := { _root_.Go.OpenSpec.ofChange s with cond := some uptoSmall }

/-- 'caulkworkslaw02.WellStands', WHERE WHAT IT READS IS OF BULK AT MOST 1048576: true; the input reads as it did. -/
def wellStandsUptoRow : OpenClaim := { program := "ytdeollnepclhaaa", sum := "668c87c1c92c3252ae28a505a09f29e37fab3d88e33ba1f2d0ee086b43450f11", func := "caulkworks/caulkworkslaw02.WellStands", spec := "wellStands", unfollowed := true, recurses := true, plainKeys := false, apart := false, narrowed := true }
def WellStandsUptoSaid : Prop := wellStandsUptoRow.holds Try.pinned (OpenSpec.upto wellStandsSpec)

/-- 'caulkworkslaw02.WellTells', WHERE WHAT IT READS IS OF BULK AT MOST 1048576: true; the input reads as it did. -/
def wellTellsUptoRow : OpenClaim := { program := "ytdeollnepclhaaa", sum := "668c87c1c92c3252ae28a505a09f29e37fab3d88e33ba1f2d0ee086b43450f11", func := "caulkworks/caulkworkslaw02.WellTells", spec := "wellTells", unfollowed := true, recurses := true, plainKeys := false, apart := false, narrowed := true }
def WellTellsUptoSaid : Prop := wellTellsUptoRow.holds Try.pinned (OpenSpec.upto wellTellsSpec)

/-- 'caulkworkslaw02.WellProves', WHERE WHAT IT READS IS OF BULK AT MOST 1048576: true; the input reads as it did. -/
def wellProvesUptoRow : OpenClaim := { program := "ytdeollnepclhaaa", sum := "668c87c1c92c3252ae28a505a09f29e37fab3d88e33ba1f2d0ee086b43450f11", func := "caulkworks/caulkworkslaw02.WellProves", spec := "wellProves", unfollowed := true, recurses := true, plainKeys := false, apart := false, narrowed := true }
def WellProvesUptoSaid : Prop := wellProvesUptoRow.holds Try.pinned (OpenSpec.upto wellProvesSpec)

/-- 'caulkworkslaw02.WellWater', WHERE WHAT IT READS IS OF BULK AT MOST 1048576: true; the input reads as it did. -/
def wellWaterUptoRow : OpenClaim := { program := "ytdeollnepclhaaa", sum := "668c87c1c92c3252ae28a505a09f29e37fab3d88e33ba1f2d0ee086b43450f11", func := "caulkworks/caulkworkslaw02.WellWater", spec := "wellWater", unfollowed := true, recurses := true, plainKeys := false, apart := false, narrowed := true }
def WellWaterUptoSaid : Prop := wellWaterUptoRow.holds Try.pinned (OpenSpec.upto wellWaterSpec)

/-- 'caulkworkslaw02.WellTrue', WHERE WHAT IT READS IS OF BULK AT MOST 1048576: true; the input reads as it did. -/
def wellTrueUptoRow : OpenClaim := { program := "ytdeollnepclhaaa", sum := "668c87c1c92c3252ae28a505a09f29e37fab3d88e33ba1f2d0ee086b43450f11", func := "caulkworks/caulkworkslaw02.WellTrue", spec := "wellTrue", unfollowed := true, recurses := true, plainKeys := false, apart := false, narrowed := true }
def WellTrueUptoSaid : Prop := wellTrueUptoRow.holds Try.pinned (OpenSpec.upto wellTrueSpec)

/-- 'caulkworkslaw02.WellEnds', WHERE WHAT IT READS IS OF BULK AT MOST 1048576: true; the input reads as it did. -/
def wellEndsUptoRow : OpenClaim := { program := "ytdeollnepclhaaa", sum := "668c87c1c92c3252ae28a505a09f29e37fab3d88e33ba1f2d0ee086b43450f11", func := "caulkworks/caulkworkslaw02.WellEnds", spec := "wellEnds", unfollowed := true, recurses := true, plainKeys := false, apart := false, narrowed := true }
def WellEndsUptoSaid : Prop := wellEndsUptoRow.holds Try.pinned (OpenSpec.upto wellEndsSpec)

/-- 'caulkworkslaw02.WellNext', WHERE WHAT IT READS IS OF BULK AT MOST 1048576: true; the input reads as it did. -/
def wellNextUptoRow : OpenClaim := { program := "ytdeollnepclhaaa", sum := "668c87c1c92c3252ae28a505a09f29e37fab3d88e33ba1f2d0ee086b43450f11", func := "caulkworks/caulkworkslaw02.WellNext", spec := "wellNext", unfollowed := true, recurses := true, plainKeys := false, apart := false, narrowed := true }
def WellNextUptoSaid : Prop := wellNextUptoRow.holds Try.pinned (OpenSpec.upto wellNextSpec)

/-- 'caulkworkslaw02.WellClash', WHERE WHAT IT READS IS OF BULK AT MOST 1048576: true; the input reads as it did. -/
def wellClashUptoRow : OpenClaim := { program := "ytdeollnepclhaaa", sum := "668c87c1c92c3252ae28a505a09f29e37fab3d88e33ba1f2d0ee086b43450f11", func := "caulkworks/caulkworkslaw02.WellClash", spec := "wellClash", unfollowed := true, recurses := true, plainKeys := false, apart := false, narrowed := true }
def WellClashUptoSaid : Prop := wellClashUptoRow.holds Try.pinned (OpenSpec.upto wellClashSpec)

/-- 'caulkworkslaw02.WellMore', WHERE WHAT IT READS IS OF BULK AT MOST 1048576: true; the input reads as it did. -/
def wellMoreUptoRow : OpenClaim := { program := "ytdeollnepclhaaa", sum := "668c87c1c92c3252ae28a505a09f29e37fab3d88e33ba1f2d0ee086b43450f11", func := "caulkworks/caulkworkslaw02.WellMore", spec := "wellMore", unfollowed := true, recurses := true, plainKeys := false, apart := false, narrowed := true }
def WellMoreUptoSaid : Prop := wellMoreUptoRow.holds Try.pinned (OpenSpec.upto wellMoreSpec)

/-- 'caulkworkslaw02.WellTurned', WHERE WHAT IT READS IS OF BULK AT MOST 1048576: true; the input reads as it did. -/
def wellTurnedUptoRow : OpenClaim := { program := "ytdeollnepclhaaa", sum := "668c87c1c92c3252ae28a505a09f29e37fab3d88e33ba1f2d0ee086b43450f11", func := "caulkworks/caulkworkslaw02.WellTurned", spec := "wellTurned", unfollowed := true, recurses := true, plainKeys := false, apart := false, narrowed := true }
def WellTurnedUptoSaid : Prop := wellTurnedUptoRow.holds Try.pinned (OpenSpec.upto wellTurnedSpec)

end Rows
end Go.Proofs.Ytdeollnepclhaaa
