/-
  No cell of these rows narrows 'for every input' (looked for: loops, veiled, ifaces, maps, wideKeys, modest, calm, conditions, laid).
  DERIVED. THE GIVEN ROWS OF THIS SEAT. 2 by the template 'for every input the law returns true; each argument reads behind the call as it read before'; 0 by the template 'total and deterministic' (their statements: YtclkjifgipcamaaTotals.lean).
  GIVEN WITH THE SEED: the statements are not yours to turn. If you find one false, say at which input.
  Laid BY PROGRAM, IN A SANDBOX (cutbox-rows.mjs): the forced cells as the released guide's own fill.sh prints them over the translation 07860e86d37bab61… (all of the seat's roots in one cut). By AI agents, Wed Nov 11 2026. No macro, syntax, notation, axiom, sorry.
-/
import Derived.Test.YtclkjifgipcamaaChecked
import GoSem.Claim
import GoSem.ClaimJoined
import GoSem.ClaimMapViews
import Derived.JoinedTies
import Derived.KernelRfl
namespace Go.Proofs.Ytclkjifgipcamaa
/- THE CELL 'sum', in the pinned program and in every row, IS THE sha256 OF THE DUMP (.gsa) THAT YtclkjifgipcamaaProg.lean LOADS. Nothing in Lean hashes anything: it is a label: what it is worth is what the hold of that sum in a sandbox is worth. -/
noncomputable def Try.pinned : Pinned := { name := "ytclkjifgipcamaa", sum := "07860e86d37bab61deb1e5613e00f85b80de2341b61c8729be41e34b1c6e3c22", checked := Try.checked }
namespace Rows
def none {H : Type} : Left H := { results := [], args := [] }

/-- 'caulkworkstop.TopAfloat': WHATEVER THE INPUT: true; the input reads as it did. -/
def topAfloatSpec : ChangeSpec := { name := "topAfloat", fn := fun _ => fun
  | [d] => { results := [.lit (.bool true)], args := [d] }
  | _ => none }
def topAfloatRow : OpenClaim := { program := "ytclkjifgipcamaa", sum := "07860e86d37bab61deb1e5613e00f85b80de2341b61c8729be41e34b1c6e3c22", func := "caulkworks/caulkworkstop.TopAfloat", spec := "topAfloat", unfollowed := true, recurses := true, plainKeys := false, apart := false }
def TopAfloatSaid : Prop := topAfloatRow.holds Try.pinned (OpenSpec.ofChange topAfloatSpec)

/-- ITS FALSE NEIGHBOUR: 'it returns false'. Refute it at one input. -/
def topAfloatWrong : ChangeSpec := { name := "topAfloat", fn := fun _ => fun
  | [d] => { results := [.lit (.bool false)], args := [d] }
  | _ => none }
def TopAfloatWrongFalsely : Prop := topAfloatRow.holds Try.pinned (OpenSpec.ofChange topAfloatWrong)

/-- 'caulkworkstop.TopRaked': WHATEVER THE INPUT: true; the input reads as it did. -/
def topRakedSpec : ChangeSpec := { name := "topRaked", fn := fun _ => fun
  | [d] => { results := [.lit (.bool true)], args := [d] }
  | _ => none }
def topRakedRow : OpenClaim := { program := "ytclkjifgipcamaa", sum := "07860e86d37bab61deb1e5613e00f85b80de2341b61c8729be41e34b1c6e3c22", func := "caulkworks/caulkworkstop.TopRaked", spec := "topRaked", unfollowed := true, recurses := true, plainKeys := false, apart := false }
def TopRakedSaid : Prop := topRakedRow.holds Try.pinned (OpenSpec.ofChange topRakedSpec)

/-- ITS FALSE NEIGHBOUR: 'it returns false'. Refute it at one input. -/
def topRakedWrong : ChangeSpec := { name := "topRaked", fn := fun _ => fun
  | [d] => { results := [.lit (.bool false)], args := [d] }
  | _ => none }
def TopRakedWrongFalsely : Prop := topRakedRow.holds Try.pinned (OpenSpec.ofChange topRakedWrong)

/- THE SECOND FORM. 'bulk': how many values and letters a reading holds, each counted each time it is reached (what is shared counts as often as it is met; a slice's spare places count too). A statement '..UptoSaid' is the law's where the arguments, and the package variables that the reading takes, are together of bulk at most 1048576: NARROWER than '..Said'. Prove '..Said' where nothing that the law and all that it calls make is longer than what came in: it says more and counts as full. Else prove '..UptoSaid'. A law counts once. -/
mutual
def uptoBulk {H : Type} : DataW H → Nat
  | .lit (.string bytes) => bytes.length + 1
  | .lit _ => 1
  | .nil => 1
  | .ptr d => uptoBulk d + 1
  | .slice elems spare => uptoBulkAll elems + uptoBulkAll spare + 1
  | .agg parts => uptoBulkAll parts + 1
  | .iface _ d => uptoBulk d + 1
  | .map entries => uptoBulkEntries entries + 1
  | .held _ => 1
def uptoBulkAll {H : Type} : List (DataW H) → Nat
  | [] => 0
  | d :: r => uptoBulk d + uptoBulkAll r
def uptoBulkEntries {H : Type} : List (Lit × DataW H) → Nat
  | [] => 0
  | x :: r => uptoBulkEntry x + uptoBulkEntries r
def uptoBulkEntry {H : Type} : Lit × DataW H → Nat
  | (.string bytes, d) => bytes.length + uptoBulk d + 1
  | (_, d) => uptoBulk d + 1
 end
def uptoSmall : (H : Type) → List (DataW H) → Bool := fun _ ds => decide (uptoBulkAll ds ≤ 1048576)
def OpenSpec.upto (s : _root_.Go.ChangeSpec) : _root_.Go.OpenSpec := { _root_.Go.OpenSpec.ofChange s with cond := some uptoSmall }

/-- 'caulkworkstop.TopAfloat', WHERE WHAT IT READS IS OF BULK AT MOST 1048576: true; the input reads as it did. -/
def topAfloatUptoRow : OpenClaim := { program := "ytclkjifgipcamaa", sum := "07860e86d37bab61deb1e5613e00f85b80de2341b61c8729be41e34b1c6e3c22", func := "caulkworks/caulkworkstop.TopAfloat", spec := "topAfloat", unfollowed := true, recurses := true, plainKeys := false, apart := false, narrowed := true }
def TopAfloatUptoSaid : Prop := topAfloatUptoRow.holds Try.pinned (OpenSpec.upto topAfloatSpec)

/-- 'caulkworkstop.TopRaked', WHERE WHAT IT READS IS OF BULK AT MOST 1048576: true; the input reads as it did. -/
def topRakedUptoRow : OpenClaim := { program := "ytclkjifgipcamaa", sum := "07860e86d37bab61deb1e5613e00f85b80de2341b61c8729be41e34b1c6e3c22", func := "caulkworks/caulkworkstop.TopRaked", spec := "topRaked", unfollowed := true, recurses := true, plainKeys := false, apart := false, narrowed := true }
def TopRakedUptoSaid : Prop := topRakedUptoRow.holds Try.pinned (OpenSpec.upto topRakedSpec)

end Rows
end Go.Proofs.Ytclkjifgipcamaa
