/-
  No cell of these rows narrows 'for every input' (looked for: loops, veiled, ifaces, maps, wideKeys, modest, calm, conditions, laid).
  DERIVED. THE GIVEN ROWS OF THIS SEAT. 6 by the template 'for every input the law returns true; each argument reads behind the call as it read before'; 0 by the template 'total and deterministic' (their statements: YtdopkbldjagmlaaTotals.lean).
  GIVEN WITH THE SEED: the statements are not yours to turn. If you find one false, say at which input.
  Laid BY PROGRAM, IN A SANDBOX (cutbox-rows.mjs): the forced cells as the released guide's own fill.sh prints them over the translation 0d240d1c4284e65b… (all of the seat's roots in one cut). By AI agents, Wed Nov 11 2026. No macro, syntax, notation, axiom, sorry.
-/
import Derived.Test.YtdopkbldjagmlaaChecked
import GoSem.Claim
import GoSem.ClaimJoined
import GoSem.ClaimMapViews
import Derived.JoinedTies
import Derived.KernelRfl
namespace Go.Proofs.Ytdopkbldjagmlaa
/- THE CELL 'sum', in the pinned program and in every row, IS THE sha256 OF THE DUMP (.gsa) THAT YtdopkbldjagmlaaProg.lean LOADS. Nothing in Lean hashes anything: it is a label: what it is worth is what the hold of that sum in a sandbox is worth. -/
noncomputable def Try.pinned : Pinned := { name := "ytdopkbldjagmlaa", sum := "0d240d1c4284e65b867f9782b2ecc40b35fa35d36dcd0e2120b0567b7c6c5b79", checked := Try.checked }
namespace Rows
def none {H : Type} : Left H := { results := [], args := [] }

/-- 'caulkworkslaw08.GangReady': WHATEVER THE INPUT: true; the input reads as it did. -/
def gangReadySpec : ChangeSpec := { name := "gangReady", fn := fun _ => fun
  | [d1, d2] => { results := [.lit (.bool true)], args := [d1, d2] }
  | _ => none }
def gangReadyRow : OpenClaim := { program := "ytdopkbldjagmlaa", sum := "0d240d1c4284e65b867f9782b2ecc40b35fa35d36dcd0e2120b0567b7c6c5b79", func := "caulkworks/caulkworkslaw08.GangReady", spec := "gangReady", unfollowed := true, recurses := true, plainKeys := false, apart := false }
def GangReadySaid : Prop := gangReadyRow.holds Try.pinned (OpenSpec.ofChange gangReadySpec)

/-- ITS FALSE NEIGHBOUR: 'it returns false'. Refute it at one input. -/
def gangReadyWrong : ChangeSpec := { name := "gangReady", fn := fun _ => fun
  | [d1, d2] => { results := [.lit (.bool false)], args := [d1, d2] }
  | _ => none }
def GangReadyWrongFalsely : Prop := gangReadyRow.holds Try.pinned (OpenSpec.ofChange gangReadyWrong)

/-- 'caulkworkslaw08.GangTrue': WHATEVER THE INPUT: true; the input reads as it did. -/
def gangTrueSpec : ChangeSpec := { name := "gangTrue", fn := fun _ => fun
  | [d1, d2, d3, d4, d5] => { results := [.lit (.bool true)], args := [d1, d2, d3, d4, d5] }
  | _ => none }
def gangTrueRow : OpenClaim := { program := "ytdopkbldjagmlaa", sum := "0d240d1c4284e65b867f9782b2ecc40b35fa35d36dcd0e2120b0567b7c6c5b79", func := "caulkworks/caulkworkslaw08.GangTrue", spec := "gangTrue", unfollowed := true, recurses := true, plainKeys := false, apart := false }
def GangTrueSaid : Prop := gangTrueRow.holds Try.pinned (OpenSpec.ofChange gangTrueSpec)

/-- ITS FALSE NEIGHBOUR: 'it returns false'. Refute it at one input. -/
def gangTrueWrong : ChangeSpec := { name := "gangTrue", fn := fun _ => fun
  | [d1, d2, d3, d4, d5] => { results := [.lit (.bool false)], args := [d1, d2, d3, d4, d5] }
  | _ => none }
def GangTrueWrongFalsely : Prop := gangTrueRow.holds Try.pinned (OpenSpec.ofChange gangTrueWrong)

/-- 'caulkworkslaw08.GangCan': WHATEVER THE INPUT: true; the input reads as it did. -/
def gangCanSpec : ChangeSpec := { name := "gangCan", fn := fun _ => fun
  | [d1, d2, d3, d4] => { results := [.lit (.bool true)], args := [d1, d2, d3, d4] }
  | _ => none }
def gangCanRow : OpenClaim := { program := "ytdopkbldjagmlaa", sum := "0d240d1c4284e65b867f9782b2ecc40b35fa35d36dcd0e2120b0567b7c6c5b79", func := "caulkworks/caulkworkslaw08.GangCan", spec := "gangCan", unfollowed := true, recurses := true, plainKeys := false, apart := false }
def GangCanSaid : Prop := gangCanRow.holds Try.pinned (OpenSpec.ofChange gangCanSpec)

/-- ITS FALSE NEIGHBOUR: 'it returns false'. Refute it at one input. -/
def gangCanWrong : ChangeSpec := { name := "gangCan", fn := fun _ => fun
  | [d1, d2, d3, d4] => { results := [.lit (.bool false)], args := [d1, d2, d3, d4] }
  | _ => none }
def GangCanWrongFalsely : Prop := gangCanRow.holds Try.pinned (OpenSpec.ofChange gangCanWrong)

/-- 'caulkworkslaw08.GangEnough': WHATEVER THE INPUT: true; the input reads as it did. -/
def gangEnoughSpec : ChangeSpec := { name := "gangEnough", fn := fun _ => fun
  | [d1, d2] => { results := [.lit (.bool true)], args := [d1, d2] }
  | _ => none }
def gangEnoughRow : OpenClaim := { program := "ytdopkbldjagmlaa", sum := "0d240d1c4284e65b867f9782b2ecc40b35fa35d36dcd0e2120b0567b7c6c5b79", func := "caulkworks/caulkworkslaw08.GangEnough", spec := "gangEnough", unfollowed := true, recurses := true, plainKeys := false, apart := false }
def GangEnoughSaid : Prop := gangEnoughRow.holds Try.pinned (OpenSpec.ofChange gangEnoughSpec)

/-- ITS FALSE NEIGHBOUR: 'it returns false'. Refute it at one input. -/
def gangEnoughWrong : ChangeSpec := { name := "gangEnough", fn := fun _ => fun
  | [d1, d2] => { results := [.lit (.bool false)], args := [d1, d2] }
  | _ => none }
def GangEnoughWrongFalsely : Prop := gangEnoughRow.holds Try.pinned (OpenSpec.ofChange gangEnoughWrong)

/-- 'caulkworkslaw08.GangMore': WHATEVER THE INPUT: true; the input reads as it did. -/
def gangMoreSpec : ChangeSpec := { name := "gangMore", fn := fun _ => fun
  | [d1, d2, d3, d4, d5] => { results := [.lit (.bool true)], args := [d1, d2, d3, d4, d5] }
  | _ => none }
def gangMoreRow : OpenClaim := { program := "ytdopkbldjagmlaa", sum := "0d240d1c4284e65b867f9782b2ecc40b35fa35d36dcd0e2120b0567b7c6c5b79", func := "caulkworks/caulkworkslaw08.GangMore", spec := "gangMore", unfollowed := true, recurses := true, plainKeys := false, apart := false }
def GangMoreSaid : Prop := gangMoreRow.holds Try.pinned (OpenSpec.ofChange gangMoreSpec)

/-- ITS FALSE NEIGHBOUR: 'it returns false'. Refute it at one input. -/
def gangMoreWrong : ChangeSpec := { name := "gangMore", fn := fun _ => fun
  | [d1, d2, d3, d4, d5] => { results := [.lit (.bool false)], args := [d1, d2, d3, d4, d5] }
  | _ => none }
def GangMoreWrongFalsely : Prop := gangMoreRow.holds Try.pinned (OpenSpec.ofChange gangMoreWrong)

/-- 'caulkworkslaw08.GangTurned': WHATEVER THE INPUT: true; the input reads as it did. -/
def gangTurnedSpec : ChangeSpec := { name := "gangTurned", fn := fun _ => fun
  | [d1, d2, d3, d4] => { results := [.lit (.bool true)], args := [d1, d2, d3, d4] }
  | _ => none }
def gangTurnedRow : OpenClaim := { program := "ytdopkbldjagmlaa", sum := "0d240d1c4284e65b867f9782b2ecc40b35fa35d36dcd0e2120b0567b7c6c5b79", func := "caulkworks/caulkworkslaw08.GangTurned", spec := "gangTurned", unfollowed := true, recurses := true, plainKeys := false, apart := false }
def GangTurnedSaid : Prop := gangTurnedRow.holds Try.pinned (OpenSpec.ofChange gangTurnedSpec)

/-- ITS FALSE NEIGHBOUR: 'it returns false'. Refute it at one input. -/
def gangTurnedWrong : ChangeSpec := { name := "gangTurned", fn := fun _ => fun
  | [d1, d2, d3, d4] => { results := [.lit (.bool false)], args := [d1, d2, d3, d4] }
  | _ => none }
def GangTurnedWrongFalsely : Prop := gangTurnedRow.holds Try.pinned (OpenSpec.ofChange gangTurnedWrong)

/- THE SECOND FORM. 'bulk': how many values and letters a reading holds, each counted each time it is reached (what is shared counts as often as it is met; a slice's spare places count too). A statement '..UptoSaid' is the law's where the arguments, and the package variables that the reading takes, are together of bulk at most 1048576: NARROWER than '..Said'. Prove '..Said' where nothing that the law and all that it calls make is longer than what came in: it says more and counts as full. Else prove '..UptoSaid'. A law counts once. -/
mutual
def uptoBulk {H : Type} : DataW H → Nat
  | .lit (.string bytes) => bytes.length + 1
  | .lit _ => 1
  | .nil => 1
  | .ptr d => uptoBulk d + 1
  | .slice elems spare => uptoBulkAll elems + uptoBulkAll spare + 1
  | .agg parts => uptoBulkAll parts + 1
  | .iface _ d => uptoBulk d + 1
  | .map entries => uptoBulkEntries entries + 1
  | .held _ => 1
def uptoBulkAll {H : Type} : List (DataW H) → Nat
  | [] => 0
  | d :: r => uptoBulk d + uptoBulkAll r
def uptoBulkEntries {H : Type} : List (Lit × DataW H) → Nat
  | [] => 0
  | x :: r => uptoBulkEntry x + uptoBulkEntries r
def uptoBulkEntry {H : Type} : Lit × DataW H → Nat
  | (.string bytes, d) => bytes.length + uptoBulk d + 1
  | (_, d) => uptoBulk d + 1
 end
def uptoSmall : (H : Type) → List (DataW H) → Bool := fun _ ds => decide (uptoBulkAll ds ≤ 1048576)
def OpenSpec.upto (s : _root_.Go.ChangeSpec) : _root_.Go.OpenSpec := { _root_.Go.OpenSpec.ofChange s with cond := some uptoSmall }

/-- 'caulkworkslaw08.GangReady', WHERE WHAT IT READS IS OF BULK AT MOST 1048576: true; the input reads as it did. -/
def gangReadyUptoRow : OpenClaim := { program := "ytdopkbldjagmlaa", sum := "0d240d1c4284e65b867f9782b2ecc40b35fa35d36dcd0e2120b0567b7c6c5b79", func := "caulkworks/caulkworkslaw08.GangReady", spec := "gangReady", unfollowed := true, recurses := true, plainKeys := false, apart := false, narrowed := true }
def GangReadyUptoSaid : Prop := gangReadyUptoRow.holds Try.pinned (OpenSpec.upto gangReadySpec)

/-- 'caulkworkslaw08.GangTrue', WHERE WHAT IT READS IS OF BULK AT MOST 1048576: true; the input reads as it did. -/
def gangTrueUptoRow : OpenClaim := { program := "ytdopkbldjagmlaa", sum := "0d240d1c4284e65b867f9782b2ecc40b35fa35d36dcd0e2120b0567b7c6c5b79", func := "caulkworks/caulkworkslaw08.GangTrue", spec := "gangTrue", unfollowed := true, recurses := true, plainKeys := false, apart := false, narrowed := true }
def GangTrueUptoSaid : Prop := gangTrueUptoRow.holds Try.pinned (OpenSpec.upto gangTrueSpec)

/-- 'caulkworkslaw08.GangCan', WHERE WHAT IT READS IS OF BULK AT MOST 1048576: true; the input reads as it did. -/
def gangCanUptoRow : OpenClaim := { program := "ytdopkbldjagmlaa", sum := "0d240d1c4284e65b867f9782b2ecc40b35fa35d36dcd0e2120b0567b7c6c5b79", func := "caulkworks/caulkworkslaw08.GangCan", spec := "gangCan", unfollowed := true, recurses := true, plainKeys := false, apart := false, narrowed := true }
def GangCanUptoSaid : Prop := gangCanUptoRow.holds Try.pinned (OpenSpec.upto gangCanSpec)

/-- 'caulkworkslaw08.GangEnough', WHERE WHAT IT READS IS OF BULK AT MOST 1048576: true; the input reads as it did. -/
def gangEnoughUptoRow : OpenClaim := { program := "ytdopkbldjagmlaa", sum := "0d240d1c4284e65b867f9782b2ecc40b35fa35d36dcd0e2120b0567b7c6c5b79", func := "caulkworks/caulkworkslaw08.GangEnough", spec := "gangEnough", unfollowed := true, recurses := true, plainKeys := false, apart := false, narrowed := true }
def GangEnoughUptoSaid : Prop := gangEnoughUptoRow.holds Try.pinned (OpenSpec.upto gangEnoughSpec)

/-- 'caulkworkslaw08.GangMore', WHERE WHAT IT READS IS OF BULK AT MOST 1048576: true; the input reads as it did. -/
def gangMoreUptoRow : OpenClaim := { program := "ytdopkbldjagmlaa", sum := "0d240d1c4284e65b867f9782b2ecc40b35fa35d36dcd0e2120b0567b7c6c5b79", func := "caulkworks/caulkworkslaw08.GangMore", spec := "gangMore", unfollowed := true, recurses := true, plainKeys := false, apart := false, narrowed := true }
def GangMoreUptoSaid : Prop := gangMoreUptoRow.holds Try.pinned (OpenSpec.upto gangMoreSpec)

/-- 'caulkworkslaw08.GangTurned', WHERE WHAT IT READS IS OF BULK AT MOST 1048576: true; the input reads as it did. -/
def gangTurnedUptoRow : OpenClaim := { program := "ytdopkbldjagmlaa", sum := "0d240d1c4284e65b867f9782b2ecc40b35fa35d36dcd0e2120b0567b7c6c5b79", func := "caulkworks/caulkworkslaw08.GangTurned", spec := "gangTurned", unfollowed := true, recurses := true, plainKeys := false, apart := false, narrowed := true }
def GangTurnedUptoSaid : Prop := gangTurnedUptoRow.holds Try.pinned (OpenSpec.upto gangTurnedSpec)

end Rows
end Go.Proofs.Ytdopkbldjagmlaa
