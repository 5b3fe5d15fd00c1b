/-
  No cell of these rows narrows 'for every input' (looked for: loops, veiled, ifaces, maps, wideKeys, modest, calm, conditions, laid).
  DERIVED. THE GIVEN ROWS OF THIS SEAT. 6 by the template 'for every input the law returns true; each argument reads behind the call as it read before'; 0 by the template 'total and deterministic' (their statements: YtkaongcpekhbdaaTotals.lean).
  GIVEN WITH THE SEED: the statements are not yours to turn. If you find one false, say at which input.
  Laid BY PROGRAM, IN A SANDBOX (cutbox-rows.mjs): the forced cells as the released guide's own fill.sh prints them over the translation c137330ec61f7ea8… (all of the seat's roots in one cut). By AI agents, Wed Nov 11 2026. No macro, syntax, notation, axiom, sorry.
-/
import Derived.Test.YtkaongcpekhbdaaChecked
import GoSem.Claim
import GoSem.ClaimJoined
import GoSem.ClaimMapViews
import Derived.JoinedTies
import Derived.KernelRfl
namespace Go.Proofs.Ytkaongcpekhbdaa
/- THE CELL 'sum', in the pinned program and in every row, IS THE sha256 OF THE DUMP (.gsa) THAT YtkaongcpekhbdaaProg.lean LOADS. Nothing in Lean hashes anything: it is a label: what it is worth is what the hold of that sum in a sandbox is worth. -/
noncomputable def Try.pinned : Pinned := { name := "ytkaongcpekhbdaa", sum := "c137330ec61f7ea8d9cc1f3c665272d18fe5f2b84859531cee81a63e50131636", checked := Try.checked }
namespace Rows
def none {H : Type} : Left H := { results := [], args := [] }

/-- 'conclavelaw06.TreeRemainders': WHATEVER THE INPUT: true; the input reads as it did. -/
def treeRemaindersSpec : ChangeSpec := { name := "treeRemainders", fn := fun _ => fun
  | [d1, d2, d3] => { results := [.lit (.bool true)], args := [d1, d2, d3] }
  | _ => none }
def treeRemaindersRow : OpenClaim := { program := "ytkaongcpekhbdaa", sum := "c137330ec61f7ea8d9cc1f3c665272d18fe5f2b84859531cee81a63e50131636", func := "conclave/conclavelaw06.TreeRemainders", spec := "treeRemainders", inPlace := ["math/bits.Sub64", "math/bits.Add64"], named := ["math/bits.divideError", "math/bits.overflowError"], apart := false }
def TreeRemaindersSaid : Prop := treeRemaindersRow.holds Try.pinned (OpenSpec.ofChange treeRemaindersSpec)

/-- ITS FALSE NEIGHBOUR: 'it returns false'. Refute it at one input. -/
def treeRemaindersWrong : ChangeSpec := { name := "treeRemainders", fn := fun _ => fun
  | [d1, d2, d3] => { results := [.lit (.bool false)], args := [d1, d2, d3] }
  | _ => none }
def TreeRemaindersWrongFalsely : Prop := treeRemaindersRow.holds Try.pinned (OpenSpec.ofChange treeRemaindersWrong)

/-- 'conclavelaw06.TreeTrees': WHATEVER THE INPUT: true; the input reads as it did. -/
def treeTreesSpec : ChangeSpec := { name := "treeTrees", fn := fun _ => fun
  | [d1, d2] => { results := [.lit (.bool true)], args := [d1, d2] }
  | _ => none }
def treeTreesRow : OpenClaim := { program := "ytkaongcpekhbdaa", sum := "c137330ec61f7ea8d9cc1f3c665272d18fe5f2b84859531cee81a63e50131636", func := "conclave/conclavelaw06.TreeTrees", spec := "treeTrees", inPlace := ["math/bits.Sub64", "math/bits.Add64"], unfollowed := true, recurses := true, named := ["math/bits.divideError", "math/bits.overflowError"], apart := false }
def TreeTreesSaid : Prop := treeTreesRow.holds Try.pinned (OpenSpec.ofChange treeTreesSpec)

/-- ITS FALSE NEIGHBOUR: 'it returns false'. Refute it at one input. -/
def treeTreesWrong : ChangeSpec := { name := "treeTrees", fn := fun _ => fun
  | [d1, d2] => { results := [.lit (.bool false)], args := [d1, d2] }
  | _ => none }
def TreeTreesWrongFalsely : Prop := treeTreesRow.holds Try.pinned (OpenSpec.ofChange treeTreesWrong)

/-- 'conclavelaw06.TreeValues': WHATEVER THE INPUT: true; the input reads as it did. -/
def treeValuesSpec : ChangeSpec := { name := "treeValues", fn := fun _ => fun
  | [d1, d2, d3] => { results := [.lit (.bool true)], args := [d1, d2, d3] }
  | _ => none }
def treeValuesRow : OpenClaim := { program := "ytkaongcpekhbdaa", sum := "c137330ec61f7ea8d9cc1f3c665272d18fe5f2b84859531cee81a63e50131636", func := "conclave/conclavelaw06.TreeValues", spec := "treeValues", inPlace := ["math/bits.Sub64", "math/bits.Add64"], unfollowed := true, recurses := true, named := ["math/bits.divideError", "math/bits.overflowError"], apart := false }
def TreeValuesSaid : Prop := treeValuesRow.holds Try.pinned (OpenSpec.ofChange treeValuesSpec)

/-- ITS FALSE NEIGHBOUR: 'it returns false'. Refute it at one input. -/
def treeValuesWrong : ChangeSpec := { name := "treeValues", fn := fun _ => fun
  | [d1, d2, d3] => { results := [.lit (.bool false)], args := [d1, d2, d3] }
  | _ => none }
def TreeValuesWrongFalsely : Prop := treeValuesRow.holds Try.pinned (OpenSpec.ofChange treeValuesWrong)

/-- 'conclavelaw06.TreeSlopes': WHATEVER THE INPUT: true; the input reads as it did. -/
def treeSlopesSpec : ChangeSpec := { name := "treeSlopes", fn := fun _ => fun
  | [d1, d2, d3] => { results := [.lit (.bool true)], args := [d1, d2, d3] }
  | _ => none }
def treeSlopesRow : OpenClaim := { program := "ytkaongcpekhbdaa", sum := "c137330ec61f7ea8d9cc1f3c665272d18fe5f2b84859531cee81a63e50131636", func := "conclave/conclavelaw06.TreeSlopes", spec := "treeSlopes", inPlace := ["math/bits.Sub64", "math/bits.Add64"], unfollowed := true, recurses := true, named := ["math/bits.divideError", "math/bits.overflowError"], apart := false }
def TreeSlopesSaid : Prop := treeSlopesRow.holds Try.pinned (OpenSpec.ofChange treeSlopesSpec)

/-- ITS FALSE NEIGHBOUR: 'it returns false'. Refute it at one input. -/
def treeSlopesWrong : ChangeSpec := { name := "treeSlopes", fn := fun _ => fun
  | [d1, d2, d3] => { results := [.lit (.bool false)], args := [d1, d2, d3] }
  | _ => none }
def TreeSlopesWrongFalsely : Prop := treeSlopesRow.holds Try.pinned (OpenSpec.ofChange treeSlopesWrong)

/-- 'conclavelaw06.TreeNoughts': WHATEVER THE INPUT: true; the input reads as it did. -/
def treeNoughtsSpec : ChangeSpec := { name := "treeNoughts", fn := fun _ => fun
  | [d1, d2, d3] => { results := [.lit (.bool true)], args := [d1, d2, d3] }
  | _ => none }
def treeNoughtsRow : OpenClaim := { program := "ytkaongcpekhbdaa", sum := "c137330ec61f7ea8d9cc1f3c665272d18fe5f2b84859531cee81a63e50131636", func := "conclave/conclavelaw06.TreeNoughts", spec := "treeNoughts", inPlace := ["math/bits.Sub64", "math/bits.Add64"], unfollowed := true, recurses := true, named := ["math/bits.divideError", "math/bits.overflowError"], apart := false }
def TreeNoughtsSaid : Prop := treeNoughtsRow.holds Try.pinned (OpenSpec.ofChange treeNoughtsSpec)

/-- ITS FALSE NEIGHBOUR: 'it returns false'. Refute it at one input. -/
def treeNoughtsWrong : ChangeSpec := { name := "treeNoughts", fn := fun _ => fun
  | [d1, d2, d3] => { results := [.lit (.bool false)], args := [d1, d2, d3] }
  | _ => none }
def TreeNoughtsWrongFalsely : Prop := treeNoughtsRow.holds Try.pinned (OpenSpec.ofChange treeNoughtsWrong)

/-- 'conclavelaw06.TreeFresh': WHATEVER THE INPUT: true; the input reads as it did. -/
def treeFreshSpec : ChangeSpec := { name := "treeFresh", fn := fun _ => fun
  | [d1, d2, d3] => { results := [.lit (.bool true)], args := [d1, d2, d3] }
  | _ => none }
def treeFreshRow : OpenClaim := { program := "ytkaongcpekhbdaa", sum := "c137330ec61f7ea8d9cc1f3c665272d18fe5f2b84859531cee81a63e50131636", func := "conclave/conclavelaw06.TreeFresh", spec := "treeFresh", inPlace := ["math/bits.Sub64", "math/bits.Add64"], unfollowed := true, recurses := true, named := ["math/bits.divideError", "math/bits.overflowError"], apart := false }
def TreeFreshSaid : Prop := treeFreshRow.holds Try.pinned (OpenSpec.ofChange treeFreshSpec)

/-- ITS FALSE NEIGHBOUR: 'it returns false'. Refute it at one input. -/
def treeFreshWrong : ChangeSpec := { name := "treeFresh", fn := fun _ => fun
  | [d1, d2, d3] => { results := [.lit (.bool false)], args := [d1, d2, d3] }
  | _ => none }
def TreeFreshWrongFalsely : Prop := treeFreshRow.holds Try.pinned (OpenSpec.ofChange treeFreshWrong)

/- THE SECOND FORM. 'bulk': how many values and letters a reading holds, each counted each time it is reached (what is shared counts as often as it is met; a slice's spare places count too). A statement '..UptoSaid' is the law's where the arguments, and the package variables that the reading takes, are together of bulk at most 1048576: NARROWER than '..Said'. Prove '..Said' where nothing that the law and all that it calls make is longer than what came in: it says more and counts as full. Else prove '..UptoSaid'. A law counts once. -/
mutual
def uptoBulk {H : Type} : DataW H → Nat
  | .lit (.string bytes) => bytes.length + 1
  | .lit _ => 1
  | .nil => 1
  | .ptr d => uptoBulk d + 1
  | .slice elems spare => uptoBulkAll elems + uptoBulkAll spare + 1
  | .agg parts => uptoBulkAll parts + 1
  | .iface _ d => uptoBulk d + 1
  | .map entries => uptoBulkEntries entries + 1
  | .held _ => 1
def uptoBulkAll {H : Type} : List (DataW H) → Nat
  | [] => 0
  | d :: r => uptoBulk d + uptoBulkAll r
def uptoBulkEntries {H : Type} : List (Lit × DataW H) → Nat
  | [] => 0
  | x :: r => uptoBulkEntry x + uptoBulkEntries r
def uptoBulkEntry {H : Type} : Lit × DataW H → Nat
  | (.string bytes, d) => bytes.length + uptoBulk d + 1
  | (_, d) => uptoBulk d + 1
 end
def uptoSmall : (H : Type) → List (DataW H) → Bool := fun _ ds => decide (uptoBulkAll ds ≤ 1048576)
def OpenSpec.upto (s : _root_.Go.ChangeSpec) : _root_.Go.OpenSpec := { _root_.Go.OpenSpec.ofChange s with cond := some uptoSmall }

/-- 'conclavelaw06.TreeRemainders', WHERE WHAT IT READS IS OF BULK AT MOST 1048576: true; the input reads as it did. -/
def treeRemaindersUptoRow : OpenClaim := { program := "ytkaongcpekhbdaa", sum := "c137330ec61f7ea8d9cc1f3c665272d18fe5f2b84859531cee81a63e50131636", func := "conclave/conclavelaw06.TreeRemainders", spec := "treeRemainders", inPlace := ["math/bits.Sub64", "math/bits.Add64"], named := ["math/bits.divideError", "math/bits.overflowError"], apart := false, narrowed := true }
def TreeRemaindersUptoSaid : Prop := treeRemaindersUptoRow.holds Try.pinned (OpenSpec.upto treeRemaindersSpec)

/-- 'conclavelaw06.TreeTrees', WHERE WHAT IT READS IS OF BULK AT MOST 1048576: true; the input reads as it did. -/
def treeTreesUptoRow : OpenClaim := { program := "ytkaongcpekhbdaa", sum := "c137330ec61f7ea8d9cc1f3c665272d18fe5f2b84859531cee81a63e50131636", func := "conclave/conclavelaw06.TreeTrees", spec := "treeTrees", inPlace := ["math/bits.Sub64", "math/bits.Add64"], unfollowed := true, recurses := true, named := ["math/bits.divideError", "math/bits.overflowError"], apart := false, narrowed := true }
def TreeTreesUptoSaid : Prop := treeTreesUptoRow.holds Try.pinned (OpenSpec.upto treeTreesSpec)

/-- 'conclavelaw06.TreeValues', WHERE WHAT IT READS IS OF BULK AT MOST 1048576: true; the input reads as it did. -/
def treeValuesUptoRow : OpenClaim := { program := "ytkaongcpekhbdaa", sum := "c137330ec61f7ea8d9cc1f3c665272d18fe5f2b84859531cee81a63e50131636", func := "conclave/conclavelaw06.TreeValues", spec := "treeValues", inPlace := ["math/bits.Sub64", "math/bits.Add64"], unfollowed := true, recurses := true, named := ["math/bits.divideError", "math/bits.overflowError"], apart := false, narrowed := true }
def TreeValuesUptoSaid : Prop := treeValuesUptoRow.holds Try.pinned (OpenSpec.upto treeValuesSpec)

/-- 'conclavelaw06.TreeSlopes', WHERE WHAT IT READS IS OF BULK AT MOST 1048576: true; the input reads as it did. -/
def treeSlopesUptoRow : OpenClaim := { program := "ytkaongcpekhbdaa", sum := "c137330ec61f7ea8d9cc1f3c665272d18fe5f2b84859531cee81a63e50131636", func := "conclave/conclavelaw06.TreeSlopes", spec := "treeSlopes", inPlace := ["math/bits.Sub64", "math/bits.Add64"], unfollowed := true, recurses := true, named := ["math/bits.divideError", "math/bits.overflowError"], apart := false, narrowed := true }
def TreeSlopesUptoSaid : Prop := treeSlopesUptoRow.holds Try.pinned (OpenSpec.upto treeSlopesSpec)

/-- 'conclavelaw06.TreeNoughts', WHERE WHAT IT READS IS OF BULK AT MOST 1048576: true; the input reads as it did. -/
def treeNoughtsUptoRow : OpenClaim := { program := "ytkaongcpekhbdaa", sum := "c137330ec61f7ea8d9cc1f3c665272d18fe5f2b84859531cee81a63e50131636", func := "conclave/conclavelaw06.TreeNoughts", spec := "treeNoughts", inPlace := ["math/bits.Sub64", "math/bits.Add64"], unfollowed := true, recurses := true, named := ["math/bits.divideError", "math/bits.overflowError"], apart := false, narrowed := true }
def TreeNoughtsUptoSaid : Prop := treeNoughtsUptoRow.holds Try.pinned (OpenSpec.upto treeNoughtsSpec)

/-- 'conclavelaw06.TreeFresh', WHERE WHAT IT READS IS OF BULK AT MOST 1048576: true; the input reads as it did. -/
def treeFreshUptoRow : OpenClaim := { program := "ytkaongcpekhbdaa", sum := "c137330ec61f7ea8d9cc1f3c665272d18fe5f2b84859531cee81a63e50131636", func := "conclave/conclavelaw06.TreeFresh", spec := "treeFresh", inPlace := ["math/bits.Sub64", "math/bits.Add64"], unfollowed := true, recurses := true, named := ["math/bits.divideError", "math/bits.overflowError"], apart := false, narrowed := true }
def TreeFreshUptoSaid : Prop := treeFreshUptoRow.holds Try.pinned (OpenSpec.upto treeFreshSpec)

end Rows
end Go.Proofs.Ytkaongcpekhbdaa
