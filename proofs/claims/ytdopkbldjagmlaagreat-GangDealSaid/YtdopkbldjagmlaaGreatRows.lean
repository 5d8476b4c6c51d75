/-
  No cell of these rows narrows 'for every input' (looked for: loops, veiled, ifaces, maps, wideKeys, modest, calm, conditions, laid).
  DERIVED. THE GIVEN ROWS OF THIS SEAT. 4 by the template 'for every input the law returns true; each argument reads behind the call as it read before'; 0 by the template 'total and deterministic' (their statements: YtdopkbldjagmlaaGreatTotals.lean).
  GIVEN WITH THE SEED: the statements are not yours to turn. If you find one false, say at which input.
  Laid BY PROGRAM, IN A SANDBOX (cutbox-rows.mjs): the forced cells as the released guide's own fill.sh prints them over the translation 619e55b043ae9801… (all of the seat's roots in one cut). By AI agents, Wed Nov 11 2026. No macro, syntax, notation, axiom, sorry.
-/
import Derived.Test.YtdopkbldjagmlaaGreatChecked
import GoSem.Claim
import GoSem.ClaimJoined
import GoSem.ClaimMapViews
import Derived.JoinedTies
import Derived.KernelRfl
namespace Go.Proofs.YtdopkbldjagmlaaGreat
/- THE CELL 'sum', in the pinned program and in every row, IS THE sha256 OF THE DUMP (.gsa) THAT YtdopkbldjagmlaaGreatProg.lean LOADS. Nothing in Lean hashes anything: it is a label: what it is worth is what the hold of that sum in a sandbox is worth. -/
noncomputable def Tryz.pinned : Pinned := { name := "ytdopkbldjagmlaagreat", sum := "619e55b043ae9801ffcb661cb87928015ce4c9dd9952298039a55a9105b2257d", checked := Tryz.checked }
namespace Rows
def none {H : Type} : Left H := { results := [], args := [] }

/-- 'caulkworkslaw08.GangReads': WHATEVER THE INPUT: true; the input reads as it did. -/
def gangReadsSpec : ChangeSpec := { name := "gangReads", fn := fun _ => fun
  | [d1, d2, d3, d4] => { results := [.lit (.bool true)], args := [d1, d2, d3, d4] }
  | _ => none }
def gangReadsRow : OpenClaim := { program := "ytdopkbldjagmlaagreat", sum := "619e55b043ae9801ffcb661cb87928015ce4c9dd9952298039a55a9105b2257d", func := "caulkworks/caulkworkslaw08.GangReads", spec := "gangReads", unfollowed := true, recurses := true, plainKeys := false, apart := false }
def GangReadsSaid : Prop := gangReadsRow.holds Tryz.pinned (OpenSpec.ofChange gangReadsSpec)

/-- ITS FALSE NEIGHBOUR: 'it returns false'. Refute it at one input. -/
def gangReadsWrong : ChangeSpec := { name := "gangReads", fn := fun _ => fun
  | [d1, d2, d3, d4] => { results := [.lit (.bool false)], args := [d1, d2, d3, d4] }
  | _ => none }
def GangReadsWrongFalsely : Prop := gangReadsRow.holds Tryz.pinned (OpenSpec.ofChange gangReadsWrong)

/-- 'caulkworkslaw08.GangLooks': WHATEVER THE INPUT: true; the input reads as it did. -/
def gangLooksSpec : ChangeSpec := { name := "gangLooks", fn := fun _ => fun
  | [d1, d2, d3] => { results := [.lit (.bool true)], args := [d1, d2, d3] }
  | _ => none }
def gangLooksRow : OpenClaim := { program := "ytdopkbldjagmlaagreat", sum := "619e55b043ae9801ffcb661cb87928015ce4c9dd9952298039a55a9105b2257d", func := "caulkworks/caulkworkslaw08.GangLooks", spec := "gangLooks", unfollowed := true, recurses := true, plainKeys := false, apart := false }
def GangLooksSaid : Prop := gangLooksRow.holds Tryz.pinned (OpenSpec.ofChange gangLooksSpec)

/-- ITS FALSE NEIGHBOUR: 'it returns false'. Refute it at one input. -/
def gangLooksWrong : ChangeSpec := { name := "gangLooks", fn := fun _ => fun
  | [d1, d2, d3] => { results := [.lit (.bool false)], args := [d1, d2, d3] }
  | _ => none }
def GangLooksWrongFalsely : Prop := gangLooksRow.holds Tryz.pinned (OpenSpec.ofChange gangLooksWrong)

/-- 'caulkworkslaw08.GangDeals': WHATEVER THE INPUT: true; the input reads as it did. -/
def gangDealsSpec : ChangeSpec := { name := "gangDeals", fn := fun _ => fun
  | [d] => { results := [.lit (.bool true)], args := [d] }
  | _ => none }
def gangDealsRow : OpenClaim := { program := "ytdopkbldjagmlaagreat", sum := "619e55b043ae9801ffcb661cb87928015ce4c9dd9952298039a55a9105b2257d", func := "caulkworks/caulkworkslaw08.GangDeals", spec := "gangDeals", unfollowed := true, recurses := true, plainKeys := false, apart := false }
def GangDealsSaid : Prop := gangDealsRow.holds Tryz.pinned (OpenSpec.ofChange gangDealsSpec)

/-- ITS FALSE NEIGHBOUR: 'it returns false'. Refute it at one input. -/
def gangDealsWrong : ChangeSpec := { name := "gangDeals", fn := fun _ => fun
  | [d] => { results := [.lit (.bool false)], args := [d] }
  | _ => none }
def GangDealsWrongFalsely : Prop := gangDealsRow.holds Tryz.pinned (OpenSpec.ofChange gangDealsWrong)

/-- 'caulkworkslaw08.GangDeal': WHATEVER THE INPUT: true; the input reads as it did. -/
def gangDealSpec : ChangeSpec := { name := "gangDeal", fn := fun _ => fun
  | [d1, d2] => { results := [.lit (.bool true)], args := [d1, d2] }
  | _ => none }
def gangDealRow : OpenClaim := { program := "ytdopkbldjagmlaagreat", sum := "619e55b043ae9801ffcb661cb87928015ce4c9dd9952298039a55a9105b2257d", func := "caulkworks/caulkworkslaw08.GangDeal", spec := "gangDeal", unfollowed := true, recurses := true, plainKeys := false, apart := false }
def GangDealSaid : Prop := gangDealRow.holds Tryz.pinned (OpenSpec.ofChange gangDealSpec)

/-- ITS FALSE NEIGHBOUR: 'it returns false'. Refute it at one input. -/
def gangDealWrong : ChangeSpec := { name := "gangDeal", fn := fun _ => fun
  | [d1, d2] => { results := [.lit (.bool false)], args := [d1, d2] }
  | _ => none }
def GangDealWrongFalsely : Prop := gangDealRow.holds Tryz.pinned (OpenSpec.ofChange gangDealWrong)

/- THE SECOND FORM. 'bulk': how many values and letters a reading holds, each counted each time it is reached (what is shared counts as often as it is met; a slice's spare places count too). A statement '..UptoSaid' is the law's where the arguments, and the package variables that the reading takes, are together of bulk at most 1048576: NARROWER than '..Said'. Prove '..Said' where nothing that the law and all that it calls make is longer than what came in: it says more and counts as full. Else prove '..UptoSaid'. A law counts once. -/
mutual
def uptoBulk {H : Type} : DataW H → Nat
  | .lit (.string bytes) => bytes.length + 1
  | .lit _ => 1
  | .nil => 1
  | .ptr d => uptoBulk d + 1
  | .slice elems spare => uptoBulkAll elems + uptoBulkAll spare + 1
  | .agg parts => uptoBulkAll parts + 1
  | .iface _ d => uptoBulk d + 1
  | .map entries => uptoBulkEntries entries + 1
  | .held _ => 1
def uptoBulkAll {H : Type} : List (DataW H) → Nat
  | [] => 0
  | d :: r => uptoBulk d + uptoBulkAll r
def uptoBulkEntries {H : Type} : List (Lit × DataW H) → Nat
  | [] => 0
  | x :: r => uptoBulkEntry x + uptoBulkEntries r
def uptoBulkEntry {H : Type} : Lit × DataW H → Nat
  | (.string bytes, d) => bytes.length + uptoBulk d + 1
  | (_, d) => uptoBulk d + 1
 end
def uptoSmall : (H : Type) → List (DataW H) → Bool := fun _ ds => decide (uptoBulkAll ds ≤ 1048576)
def OpenSpec.upto (s : _root_.Go.ChangeSpec) : _root_.Go.OpenSpec := { _root_.Go.OpenSpec.ofChange s with cond := some uptoSmall }

/-- 'caulkworkslaw08.GangReads', WHERE WHAT IT READS IS OF BULK AT MOST 1048576: true; the input reads as it did. -/
def gangReadsUptoRow : OpenClaim := { program := "ytdopkbldjagmlaagreat", sum := "619e55b043ae9801ffcb661cb87928015ce4c9dd9952298039a55a9105b2257d", func := "caulkworks/caulkworkslaw08.GangReads", spec := "gangReads", unfollowed := true, recurses := true, plainKeys := false, apart := false, narrowed := true }
def GangReadsUptoSaid : Prop := gangReadsUptoRow.holds Tryz.pinned (OpenSpec.upto gangReadsSpec)

/-- 'caulkworkslaw08.GangLooks', WHERE WHAT IT READS IS OF BULK AT MOST 1048576: true; the input reads as it did. -/
def gangLooksUptoRow : OpenClaim := { program := "ytdopkbldjagmlaagreat", sum := "619e55b043ae9801ffcb661cb87928015ce4c9dd9952298039a55a9105b2257d", func := "caulkworks/caulkworkslaw08.GangLooks", spec := "gangLooks", unfollowed := true, recurses := true, plainKeys := false, apart := false, narrowed := true }
def GangLooksUptoSaid : Prop := gangLooksUptoRow.holds Tryz.pinned (OpenSpec.upto gangLooksSpec)

/-- 'caulkworkslaw08.GangDeals', WHERE WHAT IT READS IS OF BULK AT MOST 1048576: true; the input reads as it did. -/
def gangDealsUptoRow : OpenClaim := { program := "ytdopkbldjagmlaagreat", sum := "619e55b043ae9801ffcb661cb87928015ce4c9dd9952298039a55a9105b2257d", func := "caulkworks/caulkworkslaw08.GangDeals", spec := "gangDeals", unfollowed := true, recurses := true, plainKeys := false, apart := false, narrowed := true }
def GangDealsUptoSaid : Prop := gangDealsUptoRow.holds Tryz.pinned (OpenSpec.upto gangDealsSpec)

/-- 'caulkworkslaw08.GangDeal', WHERE WHAT IT READS IS OF BULK AT MOST 1048576: true; the input reads as it did. -/
def gangDealUptoRow : OpenClaim := { program := "ytdopkbldjagmlaagreat", sum := "619e55b043ae9801ffcb661cb87928015ce4c9dd9952298039a55a9105b2257d", func := "caulkworks/caulkworkslaw08.GangDeal", spec := "gangDeal", unfollowed := true, recurses := true, plainKeys := false, apart := false, narrowed := true }
def GangDealUptoSaid : Prop := gangDealUptoRow.holds Tryz.pinned (OpenSpec.upto gangDealSpec)

end Rows
end Go.Proofs.YtdopkbldjagmlaaGreat
