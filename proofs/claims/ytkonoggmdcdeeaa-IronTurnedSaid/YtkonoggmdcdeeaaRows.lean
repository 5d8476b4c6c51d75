/-
  No cell of these rows narrows 'for every input' (looked for: loops, veiled, ifaces, maps, wideKeys, modest, calm, conditions, laid).
  DERIVED. THE GIVEN ROWS OF THIS SEAT. 10 by the template 'for every input the law returns true; each argument reads behind the call as it read before'; 0 by the template 'total and deterministic' (their statements: YtkonoggmdcdeeaaTotals.lean).
  GIVEN WITH THE SEED: the statements are not yours to turn. If you find one false, say at which input.
  Laid BY PROGRAM, IN A SANDBOX (cutbox-rows.mjs): the forced cells as the released guide's own fill.sh prints them over the translation 7fd8a245f80b9a49… (all of the seat's roots in one cut). By AI agents, Wed Nov 11 2026. No macro, syntax, notation, axiom, sorry.
-/
import Derived.Test.YtkonoggmdcdeeaaChecked
import GoSem.Claim
import GoSem.ClaimJoined
import GoSem.ClaimMapViews
import Derived.JoinedTies
import Derived.KernelRfl
namespace Go.Proofs.Ytkonoggmdcdeeaa
/- THE CELL 'sum', in the pinned program and in every row, IS THE sha256 OF THE DUMP (.gsa) THAT YtkonoggmdcdeeaaProg.lean LOADS. Nothing in Lean hashes anything: it is a label: what it is worth is what the hold of that sum in a sandbox is worth. -/
noncomputable def Try.pinned : Pinned := { name := "ytkonoggmdcdeeaa", sum := "7fd8a245f80b9a49c58e5bf64681b61d3565c1c80423f053339f8c8d2c2f550d", checked := Try.checked }
namespace Rows
def none {H : Type} : Left H := { results := [], args := [] }

/-- 'caulkworkslaw10.IronReads': WHATEVER THE INPUT: true; the input reads as it did. -/
def ironReadsSpec : ChangeSpec := { name := "ironReads", fn := fun _ => fun
  | [d1, d2, d3] => { results := [.lit (.bool true)], args := [d1, d2, d3] }
  | _ => none }
def ironReadsRow : OpenClaim := { program := "ytkonoggmdcdeeaa", sum := "7fd8a245f80b9a49c58e5bf64681b61d3565c1c80423f053339f8c8d2c2f550d", func := "caulkworks/caulkworkslaw10.IronReads", spec := "ironReads", unfollowed := true, recurses := true, plainKeys := false, apart := false }
def IronReadsSaid : Prop := ironReadsRow.holds Try.pinned (OpenSpec.ofChange ironReadsSpec)

/-- ITS FALSE NEIGHBOUR: 'it returns false'. Refute it at one input. -/
def ironReadsWrong : ChangeSpec := { name := "ironReads", fn := fun _ => fun
  | [d1, d2, d3] => { results := [.lit (.bool false)], args := [d1, d2, d3] }
  | _ => none }
def IronReadsWrongFalsely : Prop := ironReadsRow.holds Try.pinned (OpenSpec.ofChange ironReadsWrong)

/-- 'caulkworkslaw10.IronLooks': WHATEVER THE INPUT: true; the input reads as it did. -/
def ironLooksSpec : ChangeSpec := { name := "ironLooks", fn := fun _ => fun
  | [d1, d2] => { results := [.lit (.bool true)], args := [d1, d2] }
  | _ => none }
def ironLooksRow : OpenClaim := { program := "ytkonoggmdcdeeaa", sum := "7fd8a245f80b9a49c58e5bf64681b61d3565c1c80423f053339f8c8d2c2f550d", func := "caulkworks/caulkworkslaw10.IronLooks", spec := "ironLooks", unfollowed := true, recurses := true, plainKeys := false, apart := false }
def IronLooksSaid : Prop := ironLooksRow.holds Try.pinned (OpenSpec.ofChange ironLooksSpec)

/-- ITS FALSE NEIGHBOUR: 'it returns false'. Refute it at one input. -/
def ironLooksWrong : ChangeSpec := { name := "ironLooks", fn := fun _ => fun
  | [d1, d2] => { results := [.lit (.bool false)], args := [d1, d2] }
  | _ => none }
def IronLooksWrongFalsely : Prop := ironLooksRow.holds Try.pinned (OpenSpec.ofChange ironLooksWrong)

/-- 'caulkworkslaw10.IronSets': WHATEVER THE INPUT: true; the input reads as it did. -/
def ironSetsSpec : ChangeSpec := { name := "ironSets", fn := fun _ => fun
  | [d] => { results := [.lit (.bool true)], args := [d] }
  | _ => none }
def ironSetsRow : OpenClaim := { program := "ytkonoggmdcdeeaa", sum := "7fd8a245f80b9a49c58e5bf64681b61d3565c1c80423f053339f8c8d2c2f550d", func := "caulkworks/caulkworkslaw10.IronSets", spec := "ironSets", unfollowed := true, recurses := true, plainKeys := false, apart := false }
def IronSetsSaid : Prop := ironSetsRow.holds Try.pinned (OpenSpec.ofChange ironSetsSpec)

/-- ITS FALSE NEIGHBOUR: 'it returns false'. Refute it at one input. -/
def ironSetsWrong : ChangeSpec := { name := "ironSets", fn := fun _ => fun
  | [d] => { results := [.lit (.bool false)], args := [d] }
  | _ => none }
def IronSetsWrongFalsely : Prop := ironSetsRow.holds Try.pinned (OpenSpec.ofChange ironSetsWrong)

/-- 'caulkworkslaw10.IronTrue': WHATEVER THE INPUT: true; the input reads as it did. -/
def ironTrueSpec : ChangeSpec := { name := "ironTrue", fn := fun _ => fun
  | [d] => { results := [.lit (.bool true)], args := [d] }
  | _ => none }
def ironTrueRow : OpenClaim := { program := "ytkonoggmdcdeeaa", sum := "7fd8a245f80b9a49c58e5bf64681b61d3565c1c80423f053339f8c8d2c2f550d", func := "caulkworks/caulkworkslaw10.IronTrue", spec := "ironTrue", unfollowed := true, recurses := true, plainKeys := false, apart := false }
def IronTrueSaid : Prop := ironTrueRow.holds Try.pinned (OpenSpec.ofChange ironTrueSpec)

/-- ITS FALSE NEIGHBOUR: 'it returns false'. Refute it at one input. -/
def ironTrueWrong : ChangeSpec := { name := "ironTrue", fn := fun _ => fun
  | [d] => { results := [.lit (.bool false)], args := [d] }
  | _ => none }
def IronTrueWrongFalsely : Prop := ironTrueRow.holds Try.pinned (OpenSpec.ofChange ironTrueWrong)

/-- 'caulkworkslaw10.IronCan': WHATEVER THE INPUT: true; the input reads as it did. -/
def ironCanSpec : ChangeSpec := { name := "ironCan", fn := fun _ => fun
  | [d1, d2, d3] => { results := [.lit (.bool true)], args := [d1, d2, d3] }
  | _ => none }
def ironCanRow : OpenClaim := { program := "ytkonoggmdcdeeaa", sum := "7fd8a245f80b9a49c58e5bf64681b61d3565c1c80423f053339f8c8d2c2f550d", func := "caulkworks/caulkworkslaw10.IronCan", spec := "ironCan", unfollowed := true, recurses := true, plainKeys := false, apart := false }
def IronCanSaid : Prop := ironCanRow.holds Try.pinned (OpenSpec.ofChange ironCanSpec)

/-- ITS FALSE NEIGHBOUR: 'it returns false'. Refute it at one input. -/
def ironCanWrong : ChangeSpec := { name := "ironCan", fn := fun _ => fun
  | [d1, d2, d3] => { results := [.lit (.bool false)], args := [d1, d2, d3] }
  | _ => none }
def IronCanWrongFalsely : Prop := ironCanRow.holds Try.pinned (OpenSpec.ofChange ironCanWrong)

/-- 'caulkworkslaw10.IronFalse': WHATEVER THE INPUT: true; the input reads as it did. -/
def ironFalseSpec : ChangeSpec := { name := "ironFalse", fn := fun _ => fun
  | [d1, d2, d3] => { results := [.lit (.bool true)], args := [d1, d2, d3] }
  | _ => none }
def ironFalseRow : OpenClaim := { program := "ytkonoggmdcdeeaa", sum := "7fd8a245f80b9a49c58e5bf64681b61d3565c1c80423f053339f8c8d2c2f550d", func := "caulkworks/caulkworkslaw10.IronFalse", spec := "ironFalse", unfollowed := true, recurses := true, plainKeys := false, apart := false }
def IronFalseSaid : Prop := ironFalseRow.holds Try.pinned (OpenSpec.ofChange ironFalseSpec)

/-- ITS FALSE NEIGHBOUR: 'it returns false'. Refute it at one input. -/
def ironFalseWrong : ChangeSpec := { name := "ironFalse", fn := fun _ => fun
  | [d1, d2, d3] => { results := [.lit (.bool false)], args := [d1, d2, d3] }
  | _ => none }
def IronFalseWrongFalsely : Prop := ironFalseRow.holds Try.pinned (OpenSpec.ofChange ironFalseWrong)

/-- 'caulkworkslaw10.IronClash': WHATEVER THE INPUT: true; the input reads as it did. -/
def ironClashSpec : ChangeSpec := { name := "ironClash", fn := fun _ => fun
  | [d1, d2] => { results := [.lit (.bool true)], args := [d1, d2] }
  | _ => none }
def ironClashRow : OpenClaim := { program := "ytkonoggmdcdeeaa", sum := "7fd8a245f80b9a49c58e5bf64681b61d3565c1c80423f053339f8c8d2c2f550d", func := "caulkworks/caulkworkslaw10.IronClash", spec := "ironClash", unfollowed := true, recurses := true, plainKeys := false, apart := false }
def IronClashSaid : Prop := ironClashRow.holds Try.pinned (OpenSpec.ofChange ironClashSpec)

/-- ITS FALSE NEIGHBOUR: 'it returns false'. Refute it at one input. -/
def ironClashWrong : ChangeSpec := { name := "ironClash", fn := fun _ => fun
  | [d1, d2] => { results := [.lit (.bool false)], args := [d1, d2] }
  | _ => none }
def IronClashWrongFalsely : Prop := ironClashRow.holds Try.pinned (OpenSpec.ofChange ironClashWrong)

/-- 'caulkworkslaw10.IronShort': WHATEVER THE INPUT: true; the input reads as it did. -/
def ironShortSpec : ChangeSpec := { name := "ironShort", fn := fun _ => fun
  | [d1, d2] => { results := [.lit (.bool true)], args := [d1, d2] }
  | _ => none }
def ironShortRow : OpenClaim := { program := "ytkonoggmdcdeeaa", sum := "7fd8a245f80b9a49c58e5bf64681b61d3565c1c80423f053339f8c8d2c2f550d", func := "caulkworks/caulkworkslaw10.IronShort", spec := "ironShort", unfollowed := true, recurses := true, plainKeys := false, apart := false }
def IronShortSaid : Prop := ironShortRow.holds Try.pinned (OpenSpec.ofChange ironShortSpec)

/-- ITS FALSE NEIGHBOUR: 'it returns false'. Refute it at one input. -/
def ironShortWrong : ChangeSpec := { name := "ironShort", fn := fun _ => fun
  | [d1, d2] => { results := [.lit (.bool false)], args := [d1, d2] }
  | _ => none }
def IronShortWrongFalsely : Prop := ironShortRow.holds Try.pinned (OpenSpec.ofChange ironShortWrong)

/-- 'caulkworkslaw10.IronMore': WHATEVER THE INPUT: true; the input reads as it did. -/
def ironMoreSpec : ChangeSpec := { name := "ironMore", fn := fun _ => fun
  | [d1, d2, d3, d4] => { results := [.lit (.bool true)], args := [d1, d2, d3, d4] }
  | _ => none }
def ironMoreRow : OpenClaim := { program := "ytkonoggmdcdeeaa", sum := "7fd8a245f80b9a49c58e5bf64681b61d3565c1c80423f053339f8c8d2c2f550d", func := "caulkworks/caulkworkslaw10.IronMore", spec := "ironMore", unfollowed := true, recurses := true, plainKeys := false, apart := false }
def IronMoreSaid : Prop := ironMoreRow.holds Try.pinned (OpenSpec.ofChange ironMoreSpec)

/-- ITS FALSE NEIGHBOUR: 'it returns false'. Refute it at one input. -/
def ironMoreWrong : ChangeSpec := { name := "ironMore", fn := fun _ => fun
  | [d1, d2, d3, d4] => { results := [.lit (.bool false)], args := [d1, d2, d3, d4] }
  | _ => none }
def IronMoreWrongFalsely : Prop := ironMoreRow.holds Try.pinned (OpenSpec.ofChange ironMoreWrong)

/-- 'caulkworkslaw10.IronTurned': WHATEVER THE INPUT: true; the input reads as it did. -/
def ironTurnedSpec : ChangeSpec := { name := "ironTurned", fn := fun _ => fun
  | [d] => { results := [.lit (.bool true)], args := [d] }
  | _ => none }
def ironTurnedRow : OpenClaim := { program := "ytkonoggmdcdeeaa", sum := "7fd8a245f80b9a49c58e5bf64681b61d3565c1c80423f053339f8c8d2c2f550d", func := "caulkworks/caulkworkslaw10.IronTurned", spec := "ironTurned", unfollowed := true, recurses := true, plainKeys := false, apart := false }
def IronTurnedSaid : Prop := ironTurnedRow.holds Try.pinned (OpenSpec.ofChange ironTurnedSpec)

/-- ITS FALSE NEIGHBOUR: 'it returns false'. Refute it at one input. -/
def ironTurnedWrong : ChangeSpec := { name := "ironTurned", fn := fun _ => fun
  | [d] => { results := [.lit (.bool false)], args := [d] }
  | _ => none }
def IronTurnedWrongFalsely : Prop := ironTurnedRow.holds Try.pinned (OpenSpec.ofChange ironTurnedWrong)

/- THE SECOND FORM. 'bulk': how many values and letters a reading holds, each counted each time it is reached (what is shared counts as often as it is met; a slice's spare places count too). A statement '..UptoSaid' is the law's where the arguments, and the package variables that the reading takes, are together of bulk at most 1048576: NARROWER than '..Said'. Prove '..Said' where nothing that the law and all that it calls make is longer than what came in: it says more and counts as full. Else prove '..UptoSaid'. A law counts once. -/
mutual
def uptoBulk {H : Type} : DataW H → Nat
  | .lit (.string bytes) => bytes.length + 1
  | .lit _ => 1
  | .nil => 1
  | .ptr d => uptoBulk d + 1
  | .slice elems spare => uptoBulkAll elems + uptoBulkAll spare + 1
  | .agg parts => uptoBulkAll parts + 1
  | .iface _ d => uptoBulk d + 1
  | .map entries => uptoBulkEntries entries + 1
  | .held _ => 1
def uptoBulkAll {H : Type} : List (DataW H) → Nat
  | [] => 0
  | d :: r => uptoBulk d + uptoBulkAll r
def uptoBulkEntries {H : Type} : List (Lit × DataW H) → Nat
  | [] => 0
  | x :: r => uptoBulkEntry x + uptoBulkEntries r
def uptoBulkEntry {H : Type} : Lit × DataW H → Nat
  | (.string bytes, d) => bytes.length + uptoBulk d + 1
  | (_, d) => uptoBulk d + 1
 end
def uptoSmall : (H : Type) → List (DataW H) → Bool := fun _ ds => decide (uptoBulkAll ds ≤ 1048576)
def OpenSpec.upto (s : _root_.Go.ChangeSpec) : _root_.Go.OpenSpec := { _root_.Go.OpenSpec.ofChange s with cond := some uptoSmall }

/-- 'caulkworkslaw10.IronReads', WHERE WHAT IT READS IS OF BULK AT MOST 1048576: true; the input reads as it did. -/
def ironReadsUptoRow : OpenClaim := { program := "ytkonoggmdcdeeaa", sum := "7fd8a245f80b9a49c58e5bf64681b61d3565c1c80423f053339f8c8d2c2f550d", func := "caulkworks/caulkworkslaw10.IronReads", spec := "ironReads", unfollowed := true, recurses := true, plainKeys := false, apart := false, narrowed := true }
def IronReadsUptoSaid : Prop := ironReadsUptoRow.holds Try.pinned (OpenSpec.upto ironReadsSpec)

/-- 'caulkworkslaw10.IronLooks', WHERE WHAT IT READS IS OF BULK AT MOST 1048576: true; the input reads as it did. -/
def ironLooksUptoRow : OpenClaim := { program := "ytkonoggmdcdeeaa", sum := "7fd8a245f80b9a49c58e5bf64681b61d3565c1c80423f053339f8c8d2c2f550d", func := "caulkworks/caulkworkslaw10.IronLooks", spec := "ironLooks", unfollowed := true, recurses := true, plainKeys := false, apart := false, narrowed := true }
def IronLooksUptoSaid : Prop := ironLooksUptoRow.holds Try.pinned (OpenSpec.upto ironLooksSpec)

/-- 'caulkworkslaw10.IronSets', WHERE WHAT IT READS IS OF BULK AT MOST 1048576: true; the input reads as it did. -/
def ironSetsUptoRow : OpenClaim := { program := "ytkonoggmdcdeeaa", sum := "7fd8a245f80b9a49c58e5bf64681b61d3565c1c80423f053339f8c8d2c2f550d", func := "caulkworks/caulkworkslaw10.IronSets", spec := "ironSets", unfollowed := true, recurses := true, plainKeys := false, apart := false, narrowed := true }
def IronSetsUptoSaid : Prop := ironSetsUptoRow.holds Try.pinned (OpenSpec.upto ironSetsSpec)

/-- 'caulkworkslaw10.IronTrue', WHERE WHAT IT READS IS OF BULK AT MOST 1048576: true; the input reads as it did. -/
def ironTrueUptoRow : OpenClaim := { program := "ytkonoggmdcdeeaa", sum := "7fd8a245f80b9a49c58e5bf64681b61d3565c1c80423f053339f8c8d2c2f550d", func := "caulkworks/caulkworkslaw10.IronTrue", spec := "ironTrue", unfollowed := true, recurses := true, plainKeys := false, apart := false, narrowed := true }
def IronTrueUptoSaid : Prop := ironTrueUptoRow.holds Try.pinned (OpenSpec.upto ironTrueSpec)

/-- 'caulkworkslaw10.IronCan', WHERE WHAT IT READS IS OF BULK AT MOST 1048576: true; the input reads as it did. -/
def ironCanUptoRow : OpenClaim := { program := "ytkonoggmdcdeeaa", sum := "7fd8a245f80b9a49c58e5bf64681b61d3565c1c80423f053339f8c8d2c2f550d", func := "caulkworks/caulkworkslaw10.IronCan", spec := "ironCan", unfollowed := true, recurses := true, plainKeys := false, apart := false, narrowed := true }
def IronCanUptoSaid : Prop := ironCanUptoRow.holds Try.pinned (OpenSpec.upto ironCanSpec)

/-- 'caulkworkslaw10.IronFalse', WHERE WHAT IT READS IS OF BULK AT MOST 1048576: true; the input reads as it did. -/
def ironFalseUptoRow : OpenClaim := { program := "ytkonoggmdcdeeaa", sum := "7fd8a245f80b9a49c58e5bf64681b61d3565c1c80423f053339f8c8d2c2f550d", func := "caulkworks/caulkworkslaw10.IronFalse", spec := "ironFalse", unfollowed := true, recurses := true, plainKeys := false, apart := false, narrowed := true }
def IronFalseUptoSaid : Prop := ironFalseUptoRow.holds Try.pinned (OpenSpec.upto ironFalseSpec)

/-- 'caulkworkslaw10.IronClash', WHERE WHAT IT READS IS OF BULK AT MOST 1048576: true; the input reads as it did. -/
def ironClashUptoRow : OpenClaim := { program := "ytkonoggmdcdeeaa", sum := "7fd8a245f80b9a49c58e5bf64681b61d3565c1c80423f053339f8c8d2c2f550d", func := "caulkworks/caulkworkslaw10.IronClash", spec := "ironClash", unfollowed := true, recurses := true, plainKeys := false, apart := false, narrowed := true }
def IronClashUptoSaid : Prop := ironClashUptoRow.holds Try.pinned (OpenSpec.upto ironClashSpec)

/-- 'caulkworkslaw10.IronShort', WHERE WHAT IT READS IS OF BULK AT MOST 1048576: true; the input reads as it did. -/
def ironShortUptoRow : OpenClaim := { program := "ytkonoggmdcdeeaa", sum := "7fd8a245f80b9a49c58e5bf64681b61d3565c1c80423f053339f8c8d2c2f550d", func := "caulkworks/caulkworkslaw10.IronShort", spec := "ironShort", unfollowed := true, recurses := true, plainKeys := false, apart := false, narrowed := true }
def IronShortUptoSaid : Prop := ironShortUptoRow.holds Try.pinned (OpenSpec.upto ironShortSpec)

/-- 'caulkworkslaw10.IronMore', WHERE WHAT IT READS IS OF BULK AT MOST 1048576: true; the input reads as it did. -/
def ironMoreUptoRow : OpenClaim := { program := "ytkonoggmdcdeeaa", sum := "7fd8a245f80b9a49c58e5bf64681b61d3565c1c80423f053339f8c8d2c2f550d", func := "caulkworks/caulkworkslaw10.IronMore", spec := "ironMore", unfollowed := true, recurses := true, plainKeys := false, apart := false, narrowed := true }
def IronMoreUptoSaid : Prop := ironMoreUptoRow.holds Try.pinned (OpenSpec.upto ironMoreSpec)

/-- 'caulkworkslaw10.IronTurned', WHERE WHAT IT READS IS OF BULK AT MOST 1048576: true; the input reads as it did. -/
def ironTurnedUptoRow : OpenClaim := { program := "ytkonoggmdcdeeaa", sum := "7fd8a245f80b9a49c58e5bf64681b61d3565c1c80423f053339f8c8d2c2f550d", func := "caulkworks/caulkworkslaw10.IronTurned", spec := "ironTurned", unfollowed := true, recurses := true, plainKeys := false, apart := false, narrowed := true }
def IronTurnedUptoSaid : Prop := ironTurnedUptoRow.holds Try.pinned (OpenSpec.upto ironTurnedSpec)

end Rows
end Go.Proofs.Ytkonoggmdcdeeaa
