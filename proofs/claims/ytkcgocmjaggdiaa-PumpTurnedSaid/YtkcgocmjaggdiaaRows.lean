/-
  No cell of these rows narrows 'for every input' (looked for: loops, veiled, ifaces, maps, wideKeys, modest, calm, conditions, laid).
  DERIVED. THE GIVEN ROWS OF THIS SEAT. 8 by the template 'for every input the law returns true; each argument reads behind the call as it read before'; 0 by the template 'total and deterministic' (their statements: YtkcgocmjaggdiaaTotals.lean).
  GIVEN WITH THE SEED: the statements are not yours to turn. If you find one false, say at which input.
  Laid BY PROGRAM, IN A SANDBOX (cutbox-rows.mjs): the forced cells as the released guide's own fill.sh prints them over the translation 30731ab0fdc1d33e… (all of the seat's roots in one cut). By AI agents, Wed Nov 11 2026. No macro, syntax, notation, axiom, sorry.
-/
import Derived.Test.YtkcgocmjaggdiaaChecked
import GoSem.Claim
import GoSem.ClaimJoined
import GoSem.ClaimMapViews
import Derived.JoinedTies
import Derived.KernelRfl
namespace Go.Proofs.Ytkcgocmjaggdiaa
/- THE CELL 'sum', in the pinned program and in every row, IS THE sha256 OF THE DUMP (.gsa) THAT YtkcgocmjaggdiaaProg.lean LOADS. Nothing in Lean hashes anything: it is a label: what it is worth is what the hold of that sum in a sandbox is worth. -/
noncomputable def Try.pinned : Pinned := { name := "ytkcgocmjaggdiaa", sum := "30731ab0fdc1d33efb784dfb71a693ad0030c72fc6e473d35d56c33c80ecbf50", checked := Try.checked }
namespace Rows
def none {H : Type} : Left H := { results := [], args := [] }

/-- 'caulkworkslaw04.PumpReads': WHATEVER THE INPUT: true; the input reads as it did. -/
def pumpReadsSpec : ChangeSpec := { name := "pumpReads", fn := fun _ => fun
  | [d1, d2, d3] => { results := [.lit (.bool true)], args := [d1, d2, d3] }
  | _ => none }
def pumpReadsRow : OpenClaim := { program := "ytkcgocmjaggdiaa", sum := "30731ab0fdc1d33efb784dfb71a693ad0030c72fc6e473d35d56c33c80ecbf50", func := "caulkworks/caulkworkslaw04.PumpReads", spec := "pumpReads", unfollowed := true, recurses := true, plainKeys := false, apart := false }
def PumpReadsSaid : Prop := pumpReadsRow.holds Try.pinned (OpenSpec.ofChange pumpReadsSpec)

/-- ITS FALSE NEIGHBOUR: 'it returns false'. Refute it at one input. -/
def pumpReadsWrong : ChangeSpec := { name := "pumpReads", fn := fun _ => fun
  | [d1, d2, d3] => { results := [.lit (.bool false)], args := [d1, d2, d3] }
  | _ => none }
def PumpReadsWrongFalsely : Prop := pumpReadsRow.holds Try.pinned (OpenSpec.ofChange pumpReadsWrong)

/-- 'caulkworkslaw04.PumpTrue': WHATEVER THE INPUT: true; the input reads as it did. -/
def pumpTrueSpec : ChangeSpec := { name := "pumpTrue", fn := fun _ => fun
  | [d1, d2, d3] => { results := [.lit (.bool true)], args := [d1, d2, d3] }
  | _ => none }
def pumpTrueRow : OpenClaim := { program := "ytkcgocmjaggdiaa", sum := "30731ab0fdc1d33efb784dfb71a693ad0030c72fc6e473d35d56c33c80ecbf50", func := "caulkworks/caulkworkslaw04.PumpTrue", spec := "pumpTrue", unfollowed := true, recurses := true, plainKeys := false, apart := false }
def PumpTrueSaid : Prop := pumpTrueRow.holds Try.pinned (OpenSpec.ofChange pumpTrueSpec)

/-- ITS FALSE NEIGHBOUR: 'it returns false'. Refute it at one input. -/
def pumpTrueWrong : ChangeSpec := { name := "pumpTrue", fn := fun _ => fun
  | [d1, d2, d3] => { results := [.lit (.bool false)], args := [d1, d2, d3] }
  | _ => none }
def PumpTrueWrongFalsely : Prop := pumpTrueRow.holds Try.pinned (OpenSpec.ofChange pumpTrueWrong)

/-- 'caulkworkslaw04.PumpEnds': WHATEVER THE INPUT: true; the input reads as it did. -/
def pumpEndsSpec : ChangeSpec := { name := "pumpEnds", fn := fun _ => fun
  | [d1, d2] => { results := [.lit (.bool true)], args := [d1, d2] }
  | _ => none }
def pumpEndsRow : OpenClaim := { program := "ytkcgocmjaggdiaa", sum := "30731ab0fdc1d33efb784dfb71a693ad0030c72fc6e473d35d56c33c80ecbf50", func := "caulkworks/caulkworkslaw04.PumpEnds", spec := "pumpEnds", unfollowed := true, recurses := true, plainKeys := false, apart := false }
def PumpEndsSaid : Prop := pumpEndsRow.holds Try.pinned (OpenSpec.ofChange pumpEndsSpec)

/-- ITS FALSE NEIGHBOUR: 'it returns false'. Refute it at one input. -/
def pumpEndsWrong : ChangeSpec := { name := "pumpEnds", fn := fun _ => fun
  | [d1, d2] => { results := [.lit (.bool false)], args := [d1, d2] }
  | _ => none }
def PumpEndsWrongFalsely : Prop := pumpEndsRow.holds Try.pinned (OpenSpec.ofChange pumpEndsWrong)

/-- 'caulkworkslaw04.PumpFewest': WHATEVER THE INPUT: true; the input reads as it did. -/
def pumpFewestSpec : ChangeSpec := { name := "pumpFewest", fn := fun _ => fun
  | [d1, d2] => { results := [.lit (.bool true)], args := [d1, d2] }
  | _ => none }
def pumpFewestRow : OpenClaim := { program := "ytkcgocmjaggdiaa", sum := "30731ab0fdc1d33efb784dfb71a693ad0030c72fc6e473d35d56c33c80ecbf50", func := "caulkworks/caulkworkslaw04.PumpFewest", spec := "pumpFewest", unfollowed := true, recurses := true, plainKeys := false, apart := false }
def PumpFewestSaid : Prop := pumpFewestRow.holds Try.pinned (OpenSpec.ofChange pumpFewestSpec)

/-- ITS FALSE NEIGHBOUR: 'it returns false'. Refute it at one input. -/
def pumpFewestWrong : ChangeSpec := { name := "pumpFewest", fn := fun _ => fun
  | [d1, d2] => { results := [.lit (.bool false)], args := [d1, d2] }
  | _ => none }
def PumpFewestWrongFalsely : Prop := pumpFewestRow.holds Try.pinned (OpenSpec.ofChange pumpFewestWrong)

/-- 'caulkworkslaw04.PumpUntil': WHATEVER THE INPUT: true; the input reads as it did. -/
def pumpUntilSpec : ChangeSpec := { name := "pumpUntil", fn := fun _ => fun
  | [d1, d2] => { results := [.lit (.bool true)], args := [d1, d2] }
  | _ => none }
def pumpUntilRow : OpenClaim := { program := "ytkcgocmjaggdiaa", sum := "30731ab0fdc1d33efb784dfb71a693ad0030c72fc6e473d35d56c33c80ecbf50", func := "caulkworks/caulkworkslaw04.PumpUntil", spec := "pumpUntil", unfollowed := true, recurses := true, plainKeys := false, apart := false }
def PumpUntilSaid : Prop := pumpUntilRow.holds Try.pinned (OpenSpec.ofChange pumpUntilSpec)

/-- ITS FALSE NEIGHBOUR: 'it returns false'. Refute it at one input. -/
def pumpUntilWrong : ChangeSpec := { name := "pumpUntil", fn := fun _ => fun
  | [d1, d2] => { results := [.lit (.bool false)], args := [d1, d2] }
  | _ => none }
def PumpUntilWrongFalsely : Prop := pumpUntilRow.holds Try.pinned (OpenSpec.ofChange pumpUntilWrong)

/-- 'caulkworkslaw04.PumpWatches': WHATEVER THE INPUT: true; the input reads as it did. -/
def pumpWatchesSpec : ChangeSpec := { name := "pumpWatches", fn := fun _ => fun
  | [d1, d2] => { results := [.lit (.bool true)], args := [d1, d2] }
  | _ => none }
def pumpWatchesRow : OpenClaim := { program := "ytkcgocmjaggdiaa", sum := "30731ab0fdc1d33efb784dfb71a693ad0030c72fc6e473d35d56c33c80ecbf50", func := "caulkworks/caulkworkslaw04.PumpWatches", spec := "pumpWatches", unfollowed := true, recurses := true, plainKeys := false, apart := false }
def PumpWatchesSaid : Prop := pumpWatchesRow.holds Try.pinned (OpenSpec.ofChange pumpWatchesSpec)

/-- ITS FALSE NEIGHBOUR: 'it returns false'. Refute it at one input. -/
def pumpWatchesWrong : ChangeSpec := { name := "pumpWatches", fn := fun _ => fun
  | [d1, d2] => { results := [.lit (.bool false)], args := [d1, d2] }
  | _ => none }
def PumpWatchesWrongFalsely : Prop := pumpWatchesRow.holds Try.pinned (OpenSpec.ofChange pumpWatchesWrong)

/-- 'caulkworkslaw04.PumpMore': WHATEVER THE INPUT: true; the input reads as it did. -/
def pumpMoreSpec : ChangeSpec := { name := "pumpMore", fn := fun _ => fun
  | [d1, d2, d3, d4, d5] => { results := [.lit (.bool true)], args := [d1, d2, d3, d4, d5] }
  | _ => none }
def pumpMoreRow : OpenClaim := { program := "ytkcgocmjaggdiaa", sum := "30731ab0fdc1d33efb784dfb71a693ad0030c72fc6e473d35d56c33c80ecbf50", func := "caulkworks/caulkworkslaw04.PumpMore", spec := "pumpMore", unfollowed := true, recurses := true, plainKeys := false, apart := false }
def PumpMoreSaid : Prop := pumpMoreRow.holds Try.pinned (OpenSpec.ofChange pumpMoreSpec)

/-- ITS FALSE NEIGHBOUR: 'it returns false'. Refute it at one input. -/
def pumpMoreWrong : ChangeSpec := { name := "pumpMore", fn := fun _ => fun
  | [d1, d2, d3, d4, d5] => { results := [.lit (.bool false)], args := [d1, d2, d3, d4, d5] }
  | _ => none }
def PumpMoreWrongFalsely : Prop := pumpMoreRow.holds Try.pinned (OpenSpec.ofChange pumpMoreWrong)

/-- 'caulkworkslaw04.PumpTurned': WHATEVER THE INPUT: true; the input reads as it did. -/
def pumpTurnedSpec : ChangeSpec := { name := "pumpTurned", fn := fun _ => fun
  | [d1, d2] => { results := [.lit (.bool true)], args := [d1, d2] }
  | _ => none }
def pumpTurnedRow : OpenClaim := { program := "ytkcgocmjaggdiaa", sum := "30731ab0fdc1d33efb784dfb71a693ad0030c72fc6e473d35d56c33c80ecbf50", func := "caulkworks/caulkworkslaw04.PumpTurned", spec := "pumpTurned", unfollowed := true, recurses := true, plainKeys := false, apart := false }
def PumpTurnedSaid : Prop := pumpTurnedRow.holds Try.pinned (OpenSpec.ofChange pumpTurnedSpec)

/-- ITS FALSE NEIGHBOUR: 'it returns false'. Refute it at one input. -/
def pumpTurnedWrong : ChangeSpec := { name := "pumpTurned", fn := fun _ => fun
  | [d1, d2] => { results := [.lit (.bool false)], args := [d1, d2] }
  | _ => none }
def PumpTurnedWrongFalsely : Prop := pumpTurnedRow.holds Try.pinned (OpenSpec.ofChange pumpTurnedWrong)

/- THE SECOND FORM. 'bulk': how many values and letters a reading holds, each counted each time it is reached (what is shared counts as often as it is met; a slice's spare places count too). A statement '..UptoSaid' is the law's where the arguments, and the package variables that the reading takes, are together of bulk at most 1048576: NARROWER than '..Said'. Prove '..Said' where nothing that the law and all that it calls make is longer than what came in: it says more and counts as full. Else prove '..UptoSaid'. A law counts once. -/
mutual
def uptoBulk {H : Type} : DataW H → Nat
  | .lit (.string bytes) => bytes.length + 1
  | .lit _ => 1
  | .nil => 1
  | .ptr d => uptoBulk d + 1
  | .slice elems spare => uptoBulkAll elems + uptoBulkAll spare + 1
  | .agg parts => uptoBulkAll parts + 1
  | .iface _ d => uptoBulk d + 1
  | .map entries => uptoBulkEntries entries + 1
  | .held _ => 1
def uptoBulkAll {H : Type} : List (DataW H) → Nat
  | [] => 0
  | d :: r => uptoBulk d + uptoBulkAll r
def uptoBulkEntries {H : Type} : List (Lit × DataW H) → Nat
  | [] => 0
  | x :: r => uptoBulkEntry x + uptoBulkEntries r
def uptoBulkEntry {H : Type} : Lit × DataW H → Nat
  | (.string bytes, d) => bytes.length + uptoBulk d + 1
  | (_, d) => uptoBulk d + 1
 end
def uptoSmall : (H : Type) → List (DataW H) → Bool := fun _ ds => decide (uptoBulkAll ds ≤ 1048576)
def OpenSpec.upto (s : _root_.Go.ChangeSpec) : _root_.Go.OpenSpec := { _root_.Go.OpenSpec.ofChange s with cond := some uptoSmall }

/-- 'caulkworkslaw04.PumpReads', WHERE WHAT IT READS IS OF BULK AT MOST 1048576: true; the input reads as it did. -/
def pumpReadsUptoRow : OpenClaim := { program := "ytkcgocmjaggdiaa", sum := "30731ab0fdc1d33efb784dfb71a693ad0030c72fc6e473d35d56c33c80ecbf50", func := "caulkworks/caulkworkslaw04.PumpReads", spec := "pumpReads", unfollowed := true, recurses := true, plainKeys := false, apart := false, narrowed := true }
def PumpReadsUptoSaid : Prop := pumpReadsUptoRow.holds Try.pinned (OpenSpec.upto pumpReadsSpec)

/-- 'caulkworkslaw04.PumpTrue', WHERE WHAT IT READS IS OF BULK AT MOST 1048576: true; the input reads as it did. -/
def pumpTrueUptoRow : OpenClaim := { program := "ytkcgocmjaggdiaa", sum := "30731ab0fdc1d33efb784dfb71a693ad0030c72fc6e473d35d56c33c80ecbf50", func := "caulkworks/caulkworkslaw04.PumpTrue", spec := "pumpTrue", unfollowed := true, recurses := true, plainKeys := false, apart := false, narrowed := true }
def PumpTrueUptoSaid : Prop := pumpTrueUptoRow.holds Try.pinned (OpenSpec.upto pumpTrueSpec)

/-- 'caulkworkslaw04.PumpEnds', WHERE WHAT IT READS IS OF BULK AT MOST 1048576: true; the input reads as it did. -/
def pumpEndsUptoRow : OpenClaim := { program := "ytkcgocmjaggdiaa", sum := "30731ab0fdc1d33efb784dfb71a693ad0030c72fc6e473d35d56c33c80ecbf50", func := "caulkworks/caulkworkslaw04.PumpEnds", spec := "pumpEnds", unfollowed := true, recurses := true, plainKeys := false, apart := false, narrowed := true }
def PumpEndsUptoSaid : Prop := pumpEndsUptoRow.holds Try.pinned (OpenSpec.upto pumpEndsSpec)

/-- 'caulkworkslaw04.PumpFewest', WHERE WHAT IT READS IS OF BULK AT MOST 1048576: true; the input reads as it did. -/
def pumpFewestUptoRow : OpenClaim := { program := "ytkcgocmjaggdiaa", sum := "30731ab0fdc1d33efb784dfb71a693ad0030c72fc6e473d35d56c33c80ecbf50", func := "caulkworks/caulkworkslaw04.PumpFewest", spec := "pumpFewest", unfollowed := true, recurses := true, plainKeys := false, apart := false, narrowed := true }
def PumpFewestUptoSaid : Prop := pumpFewestUptoRow.holds Try.pinned (OpenSpec.upto pumpFewestSpec)

/-- 'caulkworkslaw04.PumpUntil', WHERE WHAT IT READS IS OF BULK AT MOST 1048576: true; the input reads as it did. -/
def pumpUntilUptoRow : OpenClaim := { program := "ytkcgocmjaggdiaa", sum := "30731ab0fdc1d33efb784dfb71a693ad0030c72fc6e473d35d56c33c80ecbf50", func := "caulkworks/caulkworkslaw04.PumpUntil", spec := "pumpUntil", unfollowed := true, recurses := true, plainKeys := false, apart := false, narrowed := true }
def PumpUntilUptoSaid : Prop := pumpUntilUptoRow.holds Try.pinned (OpenSpec.upto pumpUntilSpec)

/-- 'caulkworkslaw04.PumpWatches', WHERE WHAT IT READS IS OF BULK AT MOST 1048576: true; the input reads as it did. -/
def pumpWatchesUptoRow : OpenClaim := { program := "ytkcgocmjaggdiaa", sum := "30731ab0fdc1d33efb784dfb71a693ad0030c72fc6e473d35d56c33c80ecbf50", func := "caulkworks/caulkworkslaw04.PumpWatches", spec := "pumpWatches", unfollowed := true, recurses := true, plainKeys := false, apart := false, narrowed := true }
def PumpWatchesUptoSaid : Prop := pumpWatchesUptoRow.holds Try.pinned (OpenSpec.upto pumpWatchesSpec)

/-- 'caulkworkslaw04.PumpMore', WHERE WHAT IT READS IS OF BULK AT MOST 1048576: true; the input reads as it did. -/
def pumpMoreUptoRow : OpenClaim := { program := "ytkcgocmjaggdiaa", sum := "30731ab0fdc1d33efb784dfb71a693ad0030c72fc6e473d35d56c33c80ecbf50", func := "caulkworks/caulkworkslaw04.PumpMore", spec := "pumpMore", unfollowed := true, recurses := true, plainKeys := false, apart := false, narrowed := true }
def PumpMoreUptoSaid : Prop := pumpMoreUptoRow.holds Try.pinned (OpenSpec.upto pumpMoreSpec)

/-- 'caulkworkslaw04.PumpTurned', WHERE WHAT IT READS IS OF BULK AT MOST 1048576: true; the input reads as it did. -/
def pumpTurnedUptoRow : OpenClaim := { program := "ytkcgocmjaggdiaa", sum := "30731ab0fdc1d33efb784dfb71a693ad0030c72fc6e473d35d56c33c80ecbf50", func := "caulkworks/caulkworkslaw04.PumpTurned", spec := "pumpTurned", unfollowed := true, recurses := true, plainKeys := false, apart := false, narrowed := true }
def PumpTurnedUptoSaid : Prop := pumpTurnedUptoRow.holds Try.pinned (OpenSpec.upto pumpTurnedSpec)

end Rows
end Go.Proofs.Ytkcgocmjaggdiaa
