/-
  No cell of these rows narrows 'for every input' (looked for: loops, veiled, ifaces, maps, wideKeys, modest, calm, conditions, laid).
  DERIVED. THE GIVEN ROWS OF THIS SEAT. 10 by the template 'for every input the law returns true; each argument reads behind the call as it read before'; 0 by the template 'total and deterministic' (their statements: YtliomkpmadpibaaTotals.lean).
  GIVEN WITH THE SEED: the statements are not yours to turn. If you find one false, say at which input.
  Laid BY PROGRAM, IN A SANDBOX (cutbox-rows.mjs): the forced cells as the released guide's own fill.sh prints them over the translation e55af724f907d6e5… (all of the seat's roots in one cut). By AI agents, Wed Nov 11 2026. No macro, syntax, notation, axiom, sorry.
-/
import Derived.Test.YtliomkpmadpibaaChecked
import GoSem.Claim
import GoSem.ClaimJoined
import GoSem.ClaimMapViews
import Derived.JoinedTies
import Derived.KernelRfl
namespace Go.Proofs.Ytliomkpmadpibaa
/- THE CELL 'sum', in the pinned program and in every row, IS THE sha256 OF THE DUMP (.gsa) THAT YtliomkpmadpibaaProg.lean LOADS. Nothing in Lean hashes anything: it is a label: what it is worth is what the hold of that sum in a sandbox is worth. -/
noncomputable def Try.pinned : Pinned := { name := "ytliomkpmadpibaa", sum := "e55af724f907d6e57df5b82c4eeb8dd4f456e03ff59679c22880b5a558f8e00a", checked := Try.checked }
namespace Rows
def none {H : Type} : Left H := { results := [], args := [] }

/-- 'caulkworkslaw06.PitchReads': WHATEVER THE INPUT: true; the input reads as it did. -/
def pitchReadsSpec : ChangeSpec := { name := "pitchReads", fn := fun _ => fun
  | [d1, d2, d3, d4, d5] => { results := [.lit (.bool true)], args := [d1, d2, d3, d4, d5] }
  | _ => none }
def pitchReadsRow : OpenClaim := { program := "ytliomkpmadpibaa", sum := "e55af724f907d6e57df5b82c4eeb8dd4f456e03ff59679c22880b5a558f8e00a", func := "caulkworks/caulkworkslaw06.PitchReads", spec := "pitchReads", unfollowed := true, recurses := true, plainKeys := false, apart := false }
def PitchReadsSaid : Prop := pitchReadsRow.holds Try.pinned (OpenSpec.ofChange pitchReadsSpec)

/-- ITS FALSE NEIGHBOUR: 'it returns false'. Refute it at one input. -/
def pitchReadsWrong : ChangeSpec := { name := "pitchReads", fn := fun _ => fun
  | [d1, d2, d3, d4, d5] => { results := [.lit (.bool false)], args := [d1, d2, d3, d4, d5] }
  | _ => none }
def PitchReadsWrongFalsely : Prop := pitchReadsRow.holds Try.pinned (OpenSpec.ofChange pitchReadsWrong)

/-- 'caulkworkslaw06.PitchLooks': WHATEVER THE INPUT: true; the input reads as it did. -/
def pitchLooksSpec : ChangeSpec := { name := "pitchLooks", fn := fun _ => fun
  | [d1, d2] => { results := [.lit (.bool true)], args := [d1, d2] }
  | _ => none }
def pitchLooksRow : OpenClaim := { program := "ytliomkpmadpibaa", sum := "e55af724f907d6e57df5b82c4eeb8dd4f456e03ff59679c22880b5a558f8e00a", func := "caulkworks/caulkworkslaw06.PitchLooks", spec := "pitchLooks", unfollowed := true, recurses := true, plainKeys := false, apart := false }
def PitchLooksSaid : Prop := pitchLooksRow.holds Try.pinned (OpenSpec.ofChange pitchLooksSpec)

/-- ITS FALSE NEIGHBOUR: 'it returns false'. Refute it at one input. -/
def pitchLooksWrong : ChangeSpec := { name := "pitchLooks", fn := fun _ => fun
  | [d1, d2] => { results := [.lit (.bool false)], args := [d1, d2] }
  | _ => none }
def PitchLooksWrongFalsely : Prop := pitchLooksRow.holds Try.pinned (OpenSpec.ofChange pitchLooksWrong)

/-- 'caulkworkslaw06.PitchSets': WHATEVER THE INPUT: true; the input reads as it did. -/
def pitchSetsSpec : ChangeSpec := { name := "pitchSets", fn := fun _ => fun
  | [d] => { results := [.lit (.bool true)], args := [d] }
  | _ => none }
def pitchSetsRow : OpenClaim := { program := "ytliomkpmadpibaa", sum := "e55af724f907d6e57df5b82c4eeb8dd4f456e03ff59679c22880b5a558f8e00a", func := "caulkworks/caulkworkslaw06.PitchSets", spec := "pitchSets", unfollowed := true, recurses := true, plainKeys := false, apart := false }
def PitchSetsSaid : Prop := pitchSetsRow.holds Try.pinned (OpenSpec.ofChange pitchSetsSpec)

/-- ITS FALSE NEIGHBOUR: 'it returns false'. Refute it at one input. -/
def pitchSetsWrong : ChangeSpec := { name := "pitchSets", fn := fun _ => fun
  | [d] => { results := [.lit (.bool false)], args := [d] }
  | _ => none }
def PitchSetsWrongFalsely : Prop := pitchSetsRow.holds Try.pinned (OpenSpec.ofChange pitchSetsWrong)

/-- 'caulkworkslaw06.PitchTrue': WHATEVER THE INPUT: true; the input reads as it did. -/
def pitchTrueSpec : ChangeSpec := { name := "pitchTrue", fn := fun _ => fun
  | [d1, d2, d3] => { results := [.lit (.bool true)], args := [d1, d2, d3] }
  | _ => none }
def pitchTrueRow : OpenClaim := { program := "ytliomkpmadpibaa", sum := "e55af724f907d6e57df5b82c4eeb8dd4f456e03ff59679c22880b5a558f8e00a", func := "caulkworks/caulkworkslaw06.PitchTrue", spec := "pitchTrue", unfollowed := true, recurses := true, plainKeys := false, apart := false }
def PitchTrueSaid : Prop := pitchTrueRow.holds Try.pinned (OpenSpec.ofChange pitchTrueSpec)

/-- ITS FALSE NEIGHBOUR: 'it returns false'. Refute it at one input. -/
def pitchTrueWrong : ChangeSpec := { name := "pitchTrue", fn := fun _ => fun
  | [d1, d2, d3] => { results := [.lit (.bool false)], args := [d1, d2, d3] }
  | _ => none }
def PitchTrueWrongFalsely : Prop := pitchTrueRow.holds Try.pinned (OpenSpec.ofChange pitchTrueWrong)

/-- 'caulkworkslaw06.PitchBest': WHATEVER THE INPUT: true; the input reads as it did. -/
def pitchBestSpec : ChangeSpec := { name := "pitchBest", fn := fun _ => fun
  | [d1, d2] => { results := [.lit (.bool true)], args := [d1, d2] }
  | _ => none }
def pitchBestRow : OpenClaim := { program := "ytliomkpmadpibaa", sum := "e55af724f907d6e57df5b82c4eeb8dd4f456e03ff59679c22880b5a558f8e00a", func := "caulkworks/caulkworkslaw06.PitchBest", spec := "pitchBest", unfollowed := true, recurses := true, plainKeys := false, apart := false }
def PitchBestSaid : Prop := pitchBestRow.holds Try.pinned (OpenSpec.ofChange pitchBestSpec)

/-- ITS FALSE NEIGHBOUR: 'it returns false'. Refute it at one input. -/
def pitchBestWrong : ChangeSpec := { name := "pitchBest", fn := fun _ => fun
  | [d1, d2] => { results := [.lit (.bool false)], args := [d1, d2] }
  | _ => none }
def PitchBestWrongFalsely : Prop := pitchBestRow.holds Try.pinned (OpenSpec.ofChange pitchBestWrong)

/-- 'caulkworkslaw06.PitchCount': WHATEVER THE INPUT: true; the input reads as it did. -/
def pitchCountSpec : ChangeSpec := { name := "pitchCount", fn := fun _ => fun
  | [d1, d2] => { results := [.lit (.bool true)], args := [d1, d2] }
  | _ => none }
def pitchCountRow : OpenClaim := { program := "ytliomkpmadpibaa", sum := "e55af724f907d6e57df5b82c4eeb8dd4f456e03ff59679c22880b5a558f8e00a", func := "caulkworks/caulkworkslaw06.PitchCount", spec := "pitchCount", unfollowed := true, recurses := true, plainKeys := false, apart := false }
def PitchCountSaid : Prop := pitchCountRow.holds Try.pinned (OpenSpec.ofChange pitchCountSpec)

/-- ITS FALSE NEIGHBOUR: 'it returns false'. Refute it at one input. -/
def pitchCountWrong : ChangeSpec := { name := "pitchCount", fn := fun _ => fun
  | [d1, d2] => { results := [.lit (.bool false)], args := [d1, d2] }
  | _ => none }
def PitchCountWrongFalsely : Prop := pitchCountRow.holds Try.pinned (OpenSpec.ofChange pitchCountWrong)

/-- 'caulkworkslaw06.PitchFewest': WHATEVER THE INPUT: true; the input reads as it did. -/
def pitchFewestSpec : ChangeSpec := { name := "pitchFewest", fn := fun _ => fun
  | [d1, d2] => { results := [.lit (.bool true)], args := [d1, d2] }
  | _ => none }
def pitchFewestRow : OpenClaim := { program := "ytliomkpmadpibaa", sum := "e55af724f907d6e57df5b82c4eeb8dd4f456e03ff59679c22880b5a558f8e00a", func := "caulkworks/caulkworkslaw06.PitchFewest", spec := "pitchFewest", unfollowed := true, recurses := true, plainKeys := false, apart := false }
def PitchFewestSaid : Prop := pitchFewestRow.holds Try.pinned (OpenSpec.ofChange pitchFewestSpec)

/-- ITS FALSE NEIGHBOUR: 'it returns false'. Refute it at one input. -/
def pitchFewestWrong : ChangeSpec := { name := "pitchFewest", fn := fun _ => fun
  | [d1, d2] => { results := [.lit (.bool false)], args := [d1, d2] }
  | _ => none }
def PitchFewestWrongFalsely : Prop := pitchFewestRow.holds Try.pinned (OpenSpec.ofChange pitchFewestWrong)

/-- 'caulkworkslaw06.PitchClash': WHATEVER THE INPUT: true; the input reads as it did. -/
def pitchClashSpec : ChangeSpec := { name := "pitchClash", fn := fun _ => fun
  | [d1, d2] => { results := [.lit (.bool true)], args := [d1, d2] }
  | _ => none }
def pitchClashRow : OpenClaim := { program := "ytliomkpmadpibaa", sum := "e55af724f907d6e57df5b82c4eeb8dd4f456e03ff59679c22880b5a558f8e00a", func := "caulkworks/caulkworkslaw06.PitchClash", spec := "pitchClash", unfollowed := true, recurses := true, plainKeys := false, apart := false }
def PitchClashSaid : Prop := pitchClashRow.holds Try.pinned (OpenSpec.ofChange pitchClashSpec)

/-- ITS FALSE NEIGHBOUR: 'it returns false'. Refute it at one input. -/
def pitchClashWrong : ChangeSpec := { name := "pitchClash", fn := fun _ => fun
  | [d1, d2] => { results := [.lit (.bool false)], args := [d1, d2] }
  | _ => none }
def PitchClashWrongFalsely : Prop := pitchClashRow.holds Try.pinned (OpenSpec.ofChange pitchClashWrong)

/-- 'caulkworkslaw06.PitchMore': WHATEVER THE INPUT: true; the input reads as it did. -/
def pitchMoreSpec : ChangeSpec := { name := "pitchMore", fn := fun _ => fun
  | [d1, d2, d3, d4, d5] => { results := [.lit (.bool true)], args := [d1, d2, d3, d4, d5] }
  | _ => none }
def pitchMoreRow : OpenClaim := { program := "ytliomkpmadpibaa", sum := "e55af724f907d6e57df5b82c4eeb8dd4f456e03ff59679c22880b5a558f8e00a", func := "caulkworks/caulkworkslaw06.PitchMore", spec := "pitchMore", unfollowed := true, recurses := true, plainKeys := false, apart := false }
def PitchMoreSaid : Prop := pitchMoreRow.holds Try.pinned (OpenSpec.ofChange pitchMoreSpec)

/-- ITS FALSE NEIGHBOUR: 'it returns false'. Refute it at one input. -/
def pitchMoreWrong : ChangeSpec := { name := "pitchMore", fn := fun _ => fun
  | [d1, d2, d3, d4, d5] => { results := [.lit (.bool false)], args := [d1, d2, d3, d4, d5] }
  | _ => none }
def PitchMoreWrongFalsely : Prop := pitchMoreRow.holds Try.pinned (OpenSpec.ofChange pitchMoreWrong)

/-- 'caulkworkslaw06.PitchTurned': WHATEVER THE INPUT: true; the input reads as it did. -/
def pitchTurnedSpec : ChangeSpec := { name := "pitchTurned", fn := fun _ => fun
  | [d1, d2] => { results := [.lit (.bool true)], args := [d1, d2] }
  | _ => none }
def pitchTurnedRow : OpenClaim := { program := "ytliomkpmadpibaa", sum := "e55af724f907d6e57df5b82c4eeb8dd4f456e03ff59679c22880b5a558f8e00a", func := "caulkworks/caulkworkslaw06.PitchTurned", spec := "pitchTurned", unfollowed := true, recurses := true, plainKeys := false, apart := false }
def PitchTurnedSaid : Prop := pitchTurnedRow.holds Try.pinned (OpenSpec.ofChange pitchTurnedSpec)

/-- ITS FALSE NEIGHBOUR: 'it returns false'. Refute it at one input. -/
def pitchTurnedWrong : ChangeSpec := { name := "pitchTurned", fn := fun _ => fun
  | [d1, d2] => { results := [.lit (.bool false)], args := [d1, d2] }
  | _ => none }
def PitchTurnedWrongFalsely : Prop := pitchTurnedRow.holds Try.pinned (OpenSpec.ofChange pitchTurnedWrong)

/- THE SECOND FORM. 'bulk': how many values and letters a reading holds, each counted each time it is reached (what is shared counts as often as it is met; a slice's spare places count too). A statement '..UptoSaid' is the law's where the arguments, and the package variables that the reading takes, are together of bulk at most 1048576: NARROWER than '..Said'. Prove '..Said' where nothing that the law and all that it calls make is longer than what came in: it says more and counts as full. Else prove '..UptoSaid'. A law counts once. -/
mutual
def uptoBulk {H : Type} : DataW H → Nat
  | .lit (.string bytes) => bytes.length + 1
  | .lit _ => 1
  | .nil => 1
  | .ptr d => uptoBulk d + 1
  | .slice elems spare => uptoBulkAll elems + uptoBulkAll spare + 1
  | .agg parts => uptoBulkAll parts + 1
  | .iface _ d => uptoBulk d + 1
  | .map entries => uptoBulkEntries entries + 1
  | .held _ => 1
def uptoBulkAll {H : Type} : List (DataW H) → Nat
  | [] => 0
  | d :: r => uptoBulk d + uptoBulkAll r
def uptoBulkEntries {H : Type} : List (Lit × DataW H) → Nat
  | [] => 0
  | x :: r => uptoBulkEntry x + uptoBulkEntries r
def uptoBulkEntry {H : Type} : Lit × DataW H → Nat
  | (.string bytes, d) => bytes.length + uptoBulk d + 1
  | (_, d) => uptoBulk d + 1
 end
def uptoSmall : (H : Type) → List (DataW H) → Bool := fun _ ds => decide (uptoBulkAll ds ≤ 1048576)
def OpenSpec.upto (s : _root_.Go.ChangeSpec) : _root_.Go.OpenSpec := { _root_.Go.OpenSpec.ofChange s with cond := some uptoSmall }

/-- 'caulkworkslaw06.PitchReads', WHERE WHAT IT READS IS OF BULK AT MOST 1048576: true; the input reads as it did. -/
def pitchReadsUptoRow : OpenClaim := { program := "ytliomkpmadpibaa", sum := "e55af724f907d6e57df5b82c4eeb8dd4f456e03ff59679c22880b5a558f8e00a", func := "caulkworks/caulkworkslaw06.PitchReads", spec := "pitchReads", unfollowed := true, recurses := true, plainKeys := false, apart := false, narrowed := true }
def PitchReadsUptoSaid : Prop := pitchReadsUptoRow.holds Try.pinned (OpenSpec.upto pitchReadsSpec)

/-- 'caulkworkslaw06.PitchLooks', WHERE WHAT IT READS IS OF BULK AT MOST 1048576: true; the input reads as it did. -/
def pitchLooksUptoRow : OpenClaim := { program := "ytliomkpmadpibaa", sum := "e55af724f907d6e57df5b82c4eeb8dd4f456e03ff59679c22880b5a558f8e00a", func := "caulkworks/caulkworkslaw06.PitchLooks", spec := "pitchLooks", unfollowed := true, recurses := true, plainKeys := false, apart := false, narrowed := true }
def PitchLooksUptoSaid : Prop := pitchLooksUptoRow.holds Try.pinned (OpenSpec.upto pitchLooksSpec)

/-- 'caulkworkslaw06.PitchSets', WHERE WHAT IT READS IS OF BULK AT MOST 1048576: true; the input reads as it did. -/
def pitchSetsUptoRow : OpenClaim := { program := "ytliomkpmadpibaa", sum := "e55af724f907d6e57df5b82c4eeb8dd4f456e03ff59679c22880b5a558f8e00a", func := "caulkworks/caulkworkslaw06.PitchSets", spec := "pitchSets", unfollowed := true, recurses := true, plainKeys := false, apart := false, narrowed := true }
def PitchSetsUptoSaid : Prop := pitchSetsUptoRow.holds Try.pinned (OpenSpec.upto pitchSetsSpec)

/-- 'caulkworkslaw06.PitchTrue', WHERE WHAT IT READS IS OF BULK AT MOST 1048576: true; the input reads as it did. -/
def pitchTrueUptoRow : OpenClaim := { program := "ytliomkpmadpibaa", sum := "e55af724f907d6e57df5b82c4eeb8dd4f456e03ff59679c22880b5a558f8e00a", func := "caulkworks/caulkworkslaw06.PitchTrue", spec := "pitchTrue", unfollowed := true, recurses := true, plainKeys := false, apart := false, narrowed := true }
def PitchTrueUptoSaid : Prop := pitchTrueUptoRow.holds Try.pinned (OpenSpec.upto pitchTrueSpec)

/-- 'caulkworkslaw06.PitchBest', WHERE WHAT IT READS IS OF BULK AT MOST 1048576: true; the input reads as it did. -/
def pitchBestUptoRow : OpenClaim := { program := "ytliomkpmadpibaa", sum := "e55af724f907d6e57df5b82c4eeb8dd4f456e03ff59679c22880b5a558f8e00a", func := "caulkworks/caulkworkslaw06.PitchBest", spec := "pitchBest", unfollowed := true, recurses := true, plainKeys := false, apart := false, narrowed := true }
def PitchBestUptoSaid : Prop := pitchBestUptoRow.holds Try.pinned (OpenSpec.upto pitchBestSpec)

/-- 'caulkworkslaw06.PitchCount', WHERE WHAT IT READS IS OF BULK AT MOST 1048576: true; the input reads as it did. -/
def pitchCountUptoRow : OpenClaim := { program := "ytliomkpmadpibaa", sum := "e55af724f907d6e57df5b82c4eeb8dd4f456e03ff59679c22880b5a558f8e00a", func := "caulkworks/caulkworkslaw06.PitchCount", spec := "pitchCount", unfollowed := true, recurses := true, plainKeys := false, apart := false, narrowed := true }
def PitchCountUptoSaid : Prop := pitchCountUptoRow.holds Try.pinned (OpenSpec.upto pitchCountSpec)

/-- 'caulkworkslaw06.PitchFewest', WHERE WHAT IT READS IS OF BULK AT MOST 1048576: true; the input reads as it did. -/
def pitchFewestUptoRow : OpenClaim := { program := "ytliomkpmadpibaa", sum := "e55af724f907d6e57df5b82c4eeb8dd4f456e03ff59679c22880b5a558f8e00a", func := "caulkworks/caulkworkslaw06.PitchFewest", spec := "pitchFewest", unfollowed := true, recurses := true, plainKeys := false, apart := false, narrowed := true }
def PitchFewestUptoSaid : Prop := pitchFewestUptoRow.holds Try.pinned (OpenSpec.upto pitchFewestSpec)

/-- 'caulkworkslaw06.PitchClash', WHERE WHAT IT READS IS OF BULK AT MOST 1048576: true; the input reads as it did. -/
def pitchClashUptoRow : OpenClaim := { program := "ytliomkpmadpibaa", sum := "e55af724f907d6e57df5b82c4eeb8dd4f456e03ff59679c22880b5a558f8e00a", func := "caulkworks/caulkworkslaw06.PitchClash", spec := "pitchClash", unfollowed := true, recurses := true, plainKeys := false, apart := false, narrowed := true }
def PitchClashUptoSaid : Prop := pitchClashUptoRow.holds Try.pinned (OpenSpec.upto pitchClashSpec)

/-- 'caulkworkslaw06.PitchMore', WHERE WHAT IT READS IS OF BULK AT MOST 1048576: true; the input reads as it did. -/
def pitchMoreUptoRow : OpenClaim := { program := "ytliomkpmadpibaa", sum := "e55af724f907d6e57df5b82c4eeb8dd4f456e03ff59679c22880b5a558f8e00a", func := "caulkworks/caulkworkslaw06.PitchMore", spec := "pitchMore", unfollowed := true, recurses := true, plainKeys := false, apart := false, narrowed := true }
def PitchMoreUptoSaid : Prop := pitchMoreUptoRow.holds Try.pinned (OpenSpec.upto pitchMoreSpec)

/-- 'caulkworkslaw06.PitchTurned', WHERE WHAT IT READS IS OF BULK AT MOST 1048576: true; the input reads as it did. -/
def pitchTurnedUptoRow : OpenClaim := { program := "ytliomkpmadpibaa", sum := "e55af724f907d6e57df5b82c4eeb8dd4f456e03ff59679c22880b5a558f8e00a", func := "caulkworks/caulkworkslaw06.PitchTurned", spec := "pitchTurned", unfollowed := true, recurses := true, plainKeys := false, apart := false, narrowed := true }
def PitchTurnedUptoSaid : Prop := pitchTurnedUptoRow.holds Try.pinned (OpenSpec.upto pitchTurnedSpec)

end Rows
end Go.Proofs.Ytliomkpmadpibaa
