/-
  NARROWER THAN 'FOR EVERY INPUT', by the rows' own cells (each row's printed sentence says how): SlipTells: laid · SlipPlans: laid · SlipNames: laid · SlipTrue: laid · SlipChecks: laid · SlipBest: laid · SlipFavour: laid · SlipDrop: laid · SlipMore: laid · SlipTurned: laid.
  DERIVED. THE GIVEN ROWS OF THIS SEAT. 10 by the template 'for every input the law returns true; each argument reads behind the call as it read before'; 0 by the template 'total and deterministic' (their statements: YtnmgegodkmgdeaaDoorTotals.lean).
  GIVEN WITH THE SEED: the statements are not yours to turn. If you find one false, say at which input.
  Laid BY PROGRAM, IN A SANDBOX (cutbox-rows.mjs): the forced cells as the released guide's own fill.sh prints them over the translation 8c26559fcc8d4c07… (all of the seat's roots in one cut). By AI agents, Wed Nov 11 2026. No macro, syntax, notation, axiom, sorry.
-/
import Derived.Test.YtnmgegodkmgdeaaDoorChecked
import GoSem.Claim
import GoSem.ClaimJoined
import GoSem.ClaimMapViews
import Derived.JoinedTies
import Derived.KernelRfl
namespace Go.Proofs.YtnmgegodkmgdeaaDoor
/- THE CELL 'sum', in the pinned program and in every row, IS THE sha256 OF THE DUMP (.gsa) THAT YtnmgegodkmgdeaaDoorProg.lean LOADS. Nothing in Lean hashes anything: it is a label: what it is worth is what the hold of that sum in a sandbox is worth. -/
noncomputable def Tryd.pinned : Pinned := { name := "ytnmgegodkmgdeaadoor", sum := "8c26559fcc8d4c076ed20f59240d0ac001d00f00cffb8a71c52302c0795230c5", checked := Tryd.checked }
namespace Rows
def none {H : Type} : Left H := { results := [], args := [] }

/- WHAT THE LISTED PACKAGE-LEVEL VARIABLES READ AS WHEN THE CALL BEGINS. Each datum BY PROGRAM (the guide's laid-datum.mjs) off the statement by which the dump's own 'gosem.cut.vars' lays the variable. In a bare row this is a premise. The card (YtnmgegodkmgdeaaDoorCards.lean) ties it to the program's text. -/
def laid_math_bits_deBruijn32tab {H : Type} : DataW H := .agg [.lit (.int .u8 0), .lit (.int .u8 1), .lit (.int .u8 28), .lit (.int .u8 2), .lit (.int .u8 29), .lit (.int .u8 14), .lit (.int .u8 24), .lit (.int .u8 3), .lit (.int .u8 30), .lit (.int .u8 22), .lit (.int .u8 20), .lit (.int .u8 15), .lit (.int .u8 25), .lit (.int .u8 17), .lit (.int .u8 4), .lit (.int .u8 8), .lit (.int .u8 31), .lit (.int .u8 27), .lit (.int .u8 13), .lit (.int .u8 23), .lit (.int .u8 21), .lit (.int .u8 19), .lit (.int .u8 16), .lit (.int .u8 7), .lit (.int .u8 26), .lit (.int .u8 12), .lit (.int .u8 18), .lit (.int .u8 6), .lit (.int .u8 11), .lit (.int .u8 5), .lit (.int .u8 10), .lit (.int .u8 9)]
def laid_math_bits_deBruijn64tab {H : Type} : DataW H := .agg [.lit (.int .u8 0), .lit (.int .u8 1), .lit (.int .u8 56), .lit (.int .u8 2), .lit (.int .u8 57), .lit (.int .u8 49), .lit (.int .u8 28), .lit (.int .u8 3), .lit (.int .u8 61), .lit (.int .u8 58), .lit (.int .u8 42), .lit (.int .u8 50), .lit (.int .u8 38), .lit (.int .u8 29), .lit (.int .u8 17), .lit (.int .u8 4), .lit (.int .u8 62), .lit (.int .u8 47), .lit (.int .u8 59), .lit (.int .u8 36), .lit (.int .u8 45), .lit (.int .u8 43), .lit (.int .u8 51), .lit (.int .u8 22), .lit (.int .u8 53), .lit (.int .u8 39), .lit (.int .u8 33), .lit (.int .u8 30), .lit (.int .u8 24), .lit (.int .u8 18), .lit (.int .u8 12), .lit (.int .u8 5), .lit (.int .u8 63), .lit (.int .u8 55), .lit (.int .u8 48), .lit (.int .u8 27), .lit (.int .u8 60), .lit (.int .u8 41), .lit (.int .u8 37), .lit (.int .u8 16), .lit (.int .u8 46), .lit (.int .u8 35), .lit (.int .u8 44), .lit (.int .u8 21), .lit (.int .u8 52), .lit (.int .u8 32), .lit (.int .u8 23), .lit (.int .u8 11), .lit (.int .u8 54), .lit (.int .u8 26), .lit (.int .u8 40), .lit (.int .u8 15), .lit (.int .u8 34), .lit (.int .u8 20), .lit (.int .u8 31), .lit (.int .u8 10), .lit (.int .u8 25), .lit (.int .u8 14), .lit (.int .u8 19), .lit (.int .u8 9), .lit (.int .u8 13), .lit (.int .u8 8), .lit (.int .u8 7), .lit (.int .u8 6)]

/-- 'caulkworkslaw07.SlipTells': WHATEVER THE INPUT: true; the input reads as it did. -/
def slipTellsSpec : ChangeSpec := { name := "slipTells", fn := fun _ => fun
  | [d1, d2, d3, d4] => { results := [.lit (.bool true)], args := [d1, d2, d3, d4] }
  | _ => none }
def slipTellsRow : OpenClaim := { program := "ytnmgegodkmgdeaadoor", sum := "8c26559fcc8d4c076ed20f59240d0ac001d00f00cffb8a71c52302c0795230c5", func := "caulkworks/caulkworkslaw07.SlipTells", spec := "slipTells", unfollowed := true, recurses := true, named := ["math/bits.deBruijn32tab", "math/bits.deBruijn64tab"], plainKeys := false, apart := false, laid := [("math/bits.deBruijn32tab", laid_math_bits_deBruijn32tab), ("math/bits.deBruijn64tab", laid_math_bits_deBruijn64tab)] }
def SlipTellsSaid : Prop := slipTellsRow.holds Tryd.pinned (OpenSpec.ofChange slipTellsSpec)

/-- ITS FALSE NEIGHBOUR: 'it returns false'. Refute it at one input. -/
def slipTellsWrong : ChangeSpec := { name := "slipTells", fn := fun _ => fun
  | [d1, d2, d3, d4] => { results := [.lit (.bool false)], args := [d1, d2, d3, d4] }
  | _ => none }
def SlipTellsWrongFalsely : Prop := slipTellsRow.holds Tryd.pinned (OpenSpec.ofChange slipTellsWrong)

/-- 'caulkworkslaw07.SlipPlans': WHATEVER THE INPUT: true; the input reads as it did. -/
def slipPlansSpec : ChangeSpec := { name := "slipPlans", fn := fun _ => fun
  | [d1, d2, d3] => { results := [.lit (.bool true)], args := [d1, d2, d3] }
  | _ => none }
def slipPlansRow : OpenClaim := { program := "ytnmgegodkmgdeaadoor", sum := "8c26559fcc8d4c076ed20f59240d0ac001d00f00cffb8a71c52302c0795230c5", func := "caulkworks/caulkworkslaw07.SlipPlans", spec := "slipPlans", unfollowed := true, recurses := true, named := ["math/bits.deBruijn32tab", "math/bits.deBruijn64tab"], plainKeys := false, apart := false, laid := [("math/bits.deBruijn32tab", laid_math_bits_deBruijn32tab), ("math/bits.deBruijn64tab", laid_math_bits_deBruijn64tab)] }
def SlipPlansSaid : Prop := slipPlansRow.holds Tryd.pinned (OpenSpec.ofChange slipPlansSpec)

/-- ITS FALSE NEIGHBOUR: 'it returns false'. Refute it at one input. -/
def slipPlansWrong : ChangeSpec := { name := "slipPlans", fn := fun _ => fun
  | [d1, d2, d3] => { results := [.lit (.bool false)], args := [d1, d2, d3] }
  | _ => none }
def SlipPlansWrongFalsely : Prop := slipPlansRow.holds Tryd.pinned (OpenSpec.ofChange slipPlansWrong)

/-- 'caulkworkslaw07.SlipNames': WHATEVER THE INPUT: true; the input reads as it did. -/
def slipNamesSpec : ChangeSpec := { name := "slipNames", fn := fun _ => fun
  | [] => { results := [.lit (.bool true)], args := [] }
  | _ => none }
def slipNamesRow : OpenClaim := { program := "ytnmgegodkmgdeaadoor", sum := "8c26559fcc8d4c076ed20f59240d0ac001d00f00cffb8a71c52302c0795230c5", func := "caulkworks/caulkworkslaw07.SlipNames", spec := "slipNames", unfollowed := true, recurses := true, named := ["math/bits.deBruijn32tab", "math/bits.deBruijn64tab"], plainKeys := false, apart := false, laid := [("math/bits.deBruijn32tab", laid_math_bits_deBruijn32tab), ("math/bits.deBruijn64tab", laid_math_bits_deBruijn64tab)] }
def SlipNamesSaid : Prop := slipNamesRow.holds Tryd.pinned (OpenSpec.ofChange slipNamesSpec)

/-- ITS FALSE NEIGHBOUR: 'it returns false'. Refute it at one input. -/
def slipNamesWrong : ChangeSpec := { name := "slipNames", fn := fun _ => fun
  | [] => { results := [.lit (.bool false)], args := [] }
  | _ => none }
def SlipNamesWrongFalsely : Prop := slipNamesRow.holds Tryd.pinned (OpenSpec.ofChange slipNamesWrong)

/-- 'caulkworkslaw07.SlipTrue': WHATEVER THE INPUT: true; the input reads as it did. -/
def slipTrueSpec : ChangeSpec := { name := "slipTrue", fn := fun _ => fun
  | [d1, d2, d3] => { results := [.lit (.bool true)], args := [d1, d2, d3] }
  | _ => none }
def slipTrueRow : OpenClaim := { program := "ytnmgegodkmgdeaadoor", sum := "8c26559fcc8d4c076ed20f59240d0ac001d00f00cffb8a71c52302c0795230c5", func := "caulkworks/caulkworkslaw07.SlipTrue", spec := "slipTrue", unfollowed := true, recurses := true, named := ["math/bits.deBruijn32tab", "math/bits.deBruijn64tab"], plainKeys := false, apart := false, laid := [("math/bits.deBruijn32tab", laid_math_bits_deBruijn32tab), ("math/bits.deBruijn64tab", laid_math_bits_deBruijn64tab)] }
def SlipTrueSaid : Prop := slipTrueRow.holds Tryd.pinned (OpenSpec.ofChange slipTrueSpec)

/-- ITS FALSE NEIGHBOUR: 'it returns false'. Refute it at one input. -/
def slipTrueWrong : ChangeSpec := { name := "slipTrue", fn := fun _ => fun
  | [d1, d2, d3] => { results := [.lit (.bool false)], args := [d1, d2, d3] }
  | _ => none }
def SlipTrueWrongFalsely : Prop := slipTrueRow.holds Tryd.pinned (OpenSpec.ofChange slipTrueWrong)

/-- 'caulkworkslaw07.SlipChecks': WHATEVER THE INPUT: true; the input reads as it did. -/
def slipChecksSpec : ChangeSpec := { name := "slipChecks", fn := fun _ => fun
  | [d1, d2, d3] => { results := [.lit (.bool true)], args := [d1, d2, d3] }
  | _ => none }
def slipChecksRow : OpenClaim := { program := "ytnmgegodkmgdeaadoor", sum := "8c26559fcc8d4c076ed20f59240d0ac001d00f00cffb8a71c52302c0795230c5", func := "caulkworks/caulkworkslaw07.SlipChecks", spec := "slipChecks", unfollowed := true, recurses := true, named := ["math/bits.deBruijn32tab", "math/bits.deBruijn64tab"], plainKeys := false, apart := false, laid := [("math/bits.deBruijn32tab", laid_math_bits_deBruijn32tab), ("math/bits.deBruijn64tab", laid_math_bits_deBruijn64tab)] }
def SlipChecksSaid : Prop := slipChecksRow.holds Tryd.pinned (OpenSpec.ofChange slipChecksSpec)

/-- ITS FALSE NEIGHBOUR: 'it returns false'. Refute it at one input. -/
def slipChecksWrong : ChangeSpec := { name := "slipChecks", fn := fun _ => fun
  | [d1, d2, d3] => { results := [.lit (.bool false)], args := [d1, d2, d3] }
  | _ => none }
def SlipChecksWrongFalsely : Prop := slipChecksRow.holds Tryd.pinned (OpenSpec.ofChange slipChecksWrong)

/-- 'caulkworkslaw07.SlipBest': WHATEVER THE INPUT: true; the input reads as it did. -/
def slipBestSpec : ChangeSpec := { name := "slipBest", fn := fun _ => fun
  | [d1, d2, d3] => { results := [.lit (.bool true)], args := [d1, d2, d3] }
  | _ => none }
def slipBestRow : OpenClaim := { program := "ytnmgegodkmgdeaadoor", sum := "8c26559fcc8d4c076ed20f59240d0ac001d00f00cffb8a71c52302c0795230c5", func := "caulkworks/caulkworkslaw07.SlipBest", spec := "slipBest", unfollowed := true, recurses := true, named := ["math/bits.deBruijn32tab", "math/bits.deBruijn64tab"], plainKeys := false, apart := false, laid := [("math/bits.deBruijn32tab", laid_math_bits_deBruijn32tab), ("math/bits.deBruijn64tab", laid_math_bits_deBruijn64tab)] }
def SlipBestSaid : Prop := slipBestRow.holds Tryd.pinned (OpenSpec.ofChange slipBestSpec)

/-- ITS FALSE NEIGHBOUR: 'it returns false'. Refute it at one input. -/
def slipBestWrong : ChangeSpec := { name := "slipBest", fn := fun _ => fun
  | [d1, d2, d3] => { results := [.lit (.bool false)], args := [d1, d2, d3] }
  | _ => none }
def SlipBestWrongFalsely : Prop := slipBestRow.holds Tryd.pinned (OpenSpec.ofChange slipBestWrong)

/-- 'caulkworkslaw07.SlipFavour': WHATEVER THE INPUT: true; the input reads as it did. -/
def slipFavourSpec : ChangeSpec := { name := "slipFavour", fn := fun _ => fun
  | [d1, d2] => { results := [.lit (.bool true)], args := [d1, d2] }
  | _ => none }
def slipFavourRow : OpenClaim := { program := "ytnmgegodkmgdeaadoor", sum := "8c26559fcc8d4c076ed20f59240d0ac001d00f00cffb8a71c52302c0795230c5", func := "caulkworks/caulkworkslaw07.SlipFavour", spec := "slipFavour", unfollowed := true, recurses := true, named := ["math/bits.deBruijn32tab", "math/bits.deBruijn64tab"], plainKeys := false, apart := false, laid := [("math/bits.deBruijn32tab", laid_math_bits_deBruijn32tab), ("math/bits.deBruijn64tab", laid_math_bits_deBruijn64tab)] }
def SlipFavourSaid : Prop := slipFavourRow.holds Tryd.pinned (OpenSpec.ofChange slipFavourSpec)

/-- ITS FALSE NEIGHBOUR: 'it returns false'. Refute it at one input. -/
def slipFavourWrong : ChangeSpec := { name := "slipFavour", fn := fun _ => fun
  | [d1, d2] => { results := [.lit (.bool false)], args := [d1, d2] }
  | _ => none }
def SlipFavourWrongFalsely : Prop := slipFavourRow.holds Tryd.pinned (OpenSpec.ofChange slipFavourWrong)

/-- 'caulkworkslaw07.SlipDrop': WHATEVER THE INPUT: true; the input reads as it did. -/
def slipDropSpec : ChangeSpec := { name := "slipDrop", fn := fun _ => fun
  | [d1, d2, d3] => { results := [.lit (.bool true)], args := [d1, d2, d3] }
  | _ => none }
def slipDropRow : OpenClaim := { program := "ytnmgegodkmgdeaadoor", sum := "8c26559fcc8d4c076ed20f59240d0ac001d00f00cffb8a71c52302c0795230c5", func := "caulkworks/caulkworkslaw07.SlipDrop", spec := "slipDrop", unfollowed := true, recurses := true, named := ["math/bits.deBruijn32tab", "math/bits.deBruijn64tab"], plainKeys := false, apart := false, laid := [("math/bits.deBruijn32tab", laid_math_bits_deBruijn32tab), ("math/bits.deBruijn64tab", laid_math_bits_deBruijn64tab)] }
def SlipDropSaid : Prop := slipDropRow.holds Tryd.pinned (OpenSpec.ofChange slipDropSpec)

/-- ITS FALSE NEIGHBOUR: 'it returns false'. Refute it at one input. -/
def slipDropWrong : ChangeSpec := { name := "slipDrop", fn := fun _ => fun
  | [d1, d2, d3] => { results := [.lit (.bool false)], args := [d1, d2, d3] }
  | _ => none }
def SlipDropWrongFalsely : Prop := slipDropRow.holds Tryd.pinned (OpenSpec.ofChange slipDropWrong)

/-- 'caulkworkslaw07.SlipMore': WHATEVER THE INPUT: true; the input reads as it did. -/
def slipMoreSpec : ChangeSpec := { name := "slipMore", fn := fun _ => fun
  | [d1, d2, d3, d4, d5] => { results := [.lit (.bool true)], args := [d1, d2, d3, d4, d5] }
  | _ => none }
def slipMoreRow : OpenClaim := { program := "ytnmgegodkmgdeaadoor", sum := "8c26559fcc8d4c076ed20f59240d0ac001d00f00cffb8a71c52302c0795230c5", func := "caulkworks/caulkworkslaw07.SlipMore", spec := "slipMore", unfollowed := true, recurses := true, named := ["math/bits.deBruijn32tab", "math/bits.deBruijn64tab"], plainKeys := false, apart := false, laid := [("math/bits.deBruijn32tab", laid_math_bits_deBruijn32tab), ("math/bits.deBruijn64tab", laid_math_bits_deBruijn64tab)] }
def SlipMoreSaid : Prop := slipMoreRow.holds Tryd.pinned (OpenSpec.ofChange slipMoreSpec)

/-- ITS FALSE NEIGHBOUR: 'it returns false'. Refute it at one input. -/
def slipMoreWrong : ChangeSpec := { name := "slipMore", fn := fun _ => fun
  | [d1, d2, d3, d4, d5] => { results := [.lit (.bool false)], args := [d1, d2, d3, d4, d5] }
  | _ => none }
def SlipMoreWrongFalsely : Prop := slipMoreRow.holds Tryd.pinned (OpenSpec.ofChange slipMoreWrong)

/-- 'caulkworkslaw07.SlipTurned': WHATEVER THE INPUT: true; the input reads as it did. -/
def slipTurnedSpec : ChangeSpec := { name := "slipTurned", fn := fun _ => fun
  | [d1, d2, d3] => { results := [.lit (.bool true)], args := [d1, d2, d3] }
  | _ => none }
def slipTurnedRow : OpenClaim := { program := "ytnmgegodkmgdeaadoor", sum := "8c26559fcc8d4c076ed20f59240d0ac001d00f00cffb8a71c52302c0795230c5", func := "caulkworks/caulkworkslaw07.SlipTurned", spec := "slipTurned", unfollowed := true, recurses := true, named := ["math/bits.deBruijn32tab", "math/bits.deBruijn64tab"], plainKeys := false, apart := false, laid := [("math/bits.deBruijn32tab", laid_math_bits_deBruijn32tab), ("math/bits.deBruijn64tab", laid_math_bits_deBruijn64tab)] }
def SlipTurnedSaid : Prop := slipTurnedRow.holds Tryd.pinned (OpenSpec.ofChange slipTurnedSpec)

/-- ITS FALSE NEIGHBOUR: 'it returns false'. Refute it at one input. -/
def slipTurnedWrong : ChangeSpec := { name := "slipTurned", fn := fun _ => fun
  | [d1, d2, d3] => { results := [.lit (.bool false)], args := [d1, d2, d3] }
  | _ => none }
def SlipTurnedWrongFalsely : Prop := slipTurnedRow.holds Tryd.pinned (OpenSpec.ofChange slipTurnedWrong)

/- THE SECOND FORM. 'bulk': how many values and letters a reading holds, each counted each time it is reached (what is shared counts as often as it is met; a slice's spare places count too). A statement '..UptoSaid' is the law's where the arguments, and the package variables that the reading takes, are together of bulk at most 1048576: NARROWER than '..Said'. Prove '..Said' where nothing that the law and all that it calls make is longer than what came in: it says more and counts as full. Else prove '..UptoSaid'. A law counts once. -/
mutual
def uptoBulk {H : Type} : DataW H → Nat
  | .lit (.string bytes) => bytes.length + 1
  | .lit _ => 1
  | .nil => 1
  | .ptr d => uptoBulk d + 1
  | .slice elems spare => uptoBulkAll elems + uptoBulkAll spare + 1
  | .agg parts => uptoBulkAll parts + 1
  | .iface _ d => uptoBulk d + 1
  | .map entries => uptoBulkEntries entries + 1
  | .held _ => 1
def uptoBulkAll {H : Type} : List (DataW H) → Nat
  | [] => 0
  | d :: r => uptoBulk d + uptoBulkAll r
def uptoBulkEntries {H : Type} : List (Lit × DataW H) → Nat
  | [] => 0
  | x :: r => uptoBulkEntry x + uptoBulkEntries r
def uptoBulkEntry {H : Type} : Lit × DataW H → Nat
  | (.string bytes, d) => bytes.length + uptoBulk d + 1
  | (_, d) => uptoBulk d + 1
 end
def uptoSmall : (H : Type) → List (DataW H) → Bool := fun _ ds => decide (uptoBulkAll ds ≤ 1048576)
def OpenSpec.upto (s : _root_.Go.ChangeSpec) : _root_.Go.OpenSpec := { _root_.Go.OpenSpec.ofChange s with cond := some uptoSmall }

/-- 'caulkworkslaw07.SlipTells', WHERE WHAT IT READS IS OF BULK AT MOST 1048576: true; the input reads as it did. -/
def slipTellsUptoRow : OpenClaim := { program := "ytnmgegodkmgdeaadoor", sum := "8c26559fcc8d4c076ed20f59240d0ac001d00f00cffb8a71c52302c0795230c5", func := "caulkworks/caulkworkslaw07.SlipTells", spec := "slipTells", unfollowed := true, recurses := true, named := ["math/bits.deBruijn32tab", "math/bits.deBruijn64tab"], plainKeys := false, apart := false, laid := [("math/bits.deBruijn32tab", laid_math_bits_deBruijn32tab), ("math/bits.deBruijn64tab", laid_math_bits_deBruijn64tab)], narrowed := true }
def SlipTellsUptoSaid : Prop := slipTellsUptoRow.holds Tryd.pinned (OpenSpec.upto slipTellsSpec)

/-- 'caulkworkslaw07.SlipPlans', WHERE WHAT IT READS IS OF BULK AT MOST 1048576: true; the input reads as it did. -/
def slipPlansUptoRow : OpenClaim := { program := "ytnmgegodkmgdeaadoor", sum := "8c26559fcc8d4c076ed20f59240d0ac001d00f00cffb8a71c52302c0795230c5", func := "caulkworks/caulkworkslaw07.SlipPlans", spec := "slipPlans", unfollowed := true, recurses := true, named := ["math/bits.deBruijn32tab", "math/bits.deBruijn64tab"], plainKeys := false, apart := false, laid := [("math/bits.deBruijn32tab", laid_math_bits_deBruijn32tab), ("math/bits.deBruijn64tab", laid_math_bits_deBruijn64tab)], narrowed := true }
def SlipPlansUptoSaid : Prop := slipPlansUptoRow.holds Tryd.pinned (OpenSpec.upto slipPlansSpec)

/-- 'caulkworkslaw07.SlipNames', WHERE WHAT IT READS IS OF BULK AT MOST 1048576: true; the input reads as it did. -/
def slipNamesUptoRow : OpenClaim := { program := "ytnmgegodkmgdeaadoor", sum := "8c26559fcc8d4c076ed20f59240d0ac001d00f00cffb8a71c52302c0795230c5", func := "caulkworks/caulkworkslaw07.SlipNames", spec := "slipNames", unfollowed := true, recurses := true, named := ["math/bits.deBruijn32tab", "math/bits.deBruijn64tab"], plainKeys := false, apart := false, laid := [("math/bits.deBruijn32tab", laid_math_bits_deBruijn32tab), ("math/bits.deBruijn64tab", laid_math_bits_deBruijn64tab)], narrowed := true }
def SlipNamesUptoSaid : Prop := slipNamesUptoRow.holds Tryd.pinned (OpenSpec.upto slipNamesSpec)

/-- 'caulkworkslaw07.SlipTrue', WHERE WHAT IT READS IS OF BULK AT MOST 1048576: true; the input reads as it did. -/
def slipTrueUptoRow : OpenClaim := { program := "ytnmgegodkmgdeaadoor", sum := "8c26559fcc8d4c076ed20f59240d0ac001d00f00cffb8a71c52302c0795230c5", func := "caulkworks/caulkworkslaw07.SlipTrue", spec := "slipTrue", unfollowed := true, recurses := true, named := ["math/bits.deBruijn32tab", "math/bits.deBruijn64tab"], plainKeys := false, apart := false, laid := [("math/bits.deBruijn32tab", laid_math_bits_deBruijn32tab), ("math/bits.deBruijn64tab", laid_math_bits_deBruijn64tab)], narrowed := true }
def SlipTrueUptoSaid : Prop := slipTrueUptoRow.holds Tryd.pinned (OpenSpec.upto slipTrueSpec)

/-- 'caulkworkslaw07.SlipChecks', WHERE WHAT IT READS IS OF BULK AT MOST 1048576: true; the input reads as it did. -/
def slipChecksUptoRow : OpenClaim := { program := "ytnmgegodkmgdeaadoor", sum := "8c26559fcc8d4c076ed20f59240d0ac001d00f00cffb8a71c52302c0795230c5", func := "caulkworks/caulkworkslaw07.SlipChecks", spec := "slipChecks", unfollowed := true, recurses := true, named := ["math/bits.deBruijn32tab", "math/bits.deBruijn64tab"], plainKeys := false, apart := false, laid := [("math/bits.deBruijn32tab", laid_math_bits_deBruijn32tab), ("math/bits.deBruijn64tab", laid_math_bits_deBruijn64tab)], narrowed := true }
def SlipChecksUptoSaid : Prop := slipChecksUptoRow.holds Tryd.pinned (OpenSpec.upto slipChecksSpec)

/-- 'caulkworkslaw07.SlipBest', WHERE WHAT IT READS IS OF BULK AT MOST 1048576: true; the input reads as it did. -/
def slipBestUptoRow : OpenClaim := { program := "ytnmgegodkmgdeaadoor", sum := "8c26559fcc8d4c076ed20f59240d0ac001d00f00cffb8a71c52302c0795230c5", func := "caulkworks/caulkworkslaw07.SlipBest", spec := "slipBest", unfollowed := true, recurses := true, named := ["math/bits.deBruijn32tab", "math/bits.deBruijn64tab"], plainKeys := false, apart := false, laid := [("math/bits.deBruijn32tab", laid_math_bits_deBruijn32tab), ("math/bits.deBruijn64tab", laid_math_bits_deBruijn64tab)], narrowed := true }
def SlipBestUptoSaid : Prop := slipBestUptoRow.holds Tryd.pinned (OpenSpec.upto slipBestSpec)

/-- 'caulkworkslaw07.SlipFavour', WHERE WHAT IT READS IS OF BULK AT MOST 1048576: true; the input reads as it did. -/
def slipFavourUptoRow : OpenClaim := { program := "ytnmgegodkmgdeaadoor", sum := "8c26559fcc8d4c076ed20f59240d0ac001d00f00cffb8a71c52302c0795230c5", func := "caulkworks/caulkworkslaw07.SlipFavour", spec := "slipFavour", unfollowed := true, recurses := true, named := ["math/bits.deBruijn32tab", "math/bits.deBruijn64tab"], plainKeys := false, apart := false, laid := [("math/bits.deBruijn32tab", laid_math_bits_deBruijn32tab), ("math/bits.deBruijn64tab", laid_math_bits_deBruijn64tab)], narrowed := true }
def SlipFavourUptoSaid : Prop := slipFavourUptoRow.holds Tryd.pinned (OpenSpec.upto slipFavourSpec)

/-- 'caulkworkslaw07.SlipDrop', WHERE WHAT IT READS IS OF BULK AT MOST 1048576: true; the input reads as it did. -/
def slipDropUptoRow : OpenClaim := { program := "ytnmgegodkmgdeaadoor", sum := "8c26559fcc8d4c076ed20f59240d0ac001d00f00cffb8a71c52302c0795230c5", func := "caulkworks/caulkworkslaw07.SlipDrop", spec := "slipDrop", unfollowed := true, recurses := true, named := ["math/bits.deBruijn32tab", "math/bits.deBruijn64tab"], plainKeys := false, apart := false, laid := [("math/bits.deBruijn32tab", laid_math_bits_deBruijn32tab), ("math/bits.deBruijn64tab", laid_math_bits_deBruijn64tab)], narrowed := true }
def SlipDropUptoSaid : Prop := slipDropUptoRow.holds Tryd.pinned (OpenSpec.upto slipDropSpec)

/-- 'caulkworkslaw07.SlipMore', WHERE WHAT IT READS IS OF BULK AT MOST 1048576: true; the input reads as it did. -/
def slipMoreUptoRow : OpenClaim := { program := "ytnmgegodkmgdeaadoor", sum := "8c26559fcc8d4c076ed20f59240d0ac001d00f00cffb8a71c52302c0795230c5", func := "caulkworks/caulkworkslaw07.SlipMore", spec := "slipMore", unfollowed := true, recurses := true, named := ["math/bits.deBruijn32tab", "math/bits.deBruijn64tab"], plainKeys := false, apart := false, laid := [("math/bits.deBruijn32tab", laid_math_bits_deBruijn32tab), ("math/bits.deBruijn64tab", laid_math_bits_deBruijn64tab)], narrowed := true }
def SlipMoreUptoSaid : Prop := slipMoreUptoRow.holds Tryd.pinned (OpenSpec.upto slipMoreSpec)

/-- 'caulkworkslaw07.SlipTurned', WHERE WHAT IT READS IS OF BULK AT MOST 1048576: true; the input reads as it did. -/
def slipTurnedUptoRow : OpenClaim := { program := "ytnmgegodkmgdeaadoor", sum := "8c26559fcc8d4c076ed20f59240d0ac001d00f00cffb8a71c52302c0795230c5", func := "caulkworks/caulkworkslaw07.SlipTurned", spec := "slipTurned", unfollowed := true, recurses := true, named := ["math/bits.deBruijn32tab", "math/bits.deBruijn64tab"], plainKeys := false, apart := false, laid := [("math/bits.deBruijn32tab", laid_math_bits_deBruijn32tab), ("math/bits.deBruijn64tab", laid_math_bits_deBruijn64tab)], narrowed := true }
def SlipTurnedUptoSaid : Prop := slipTurnedUptoRow.holds Tryd.pinned (OpenSpec.upto slipTurnedSpec)

end Rows
end Go.Proofs.YtnmgegodkmgdeaaDoor
