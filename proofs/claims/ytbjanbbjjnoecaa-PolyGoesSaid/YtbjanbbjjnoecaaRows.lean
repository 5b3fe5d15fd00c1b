/-
  No cell of these rows narrows 'for every input' (looked for: loops, veiled, ifaces, maps, wideKeys, modest, calm, conditions, laid).
  DERIVED. THE GIVEN ROWS OF THIS SEAT. 7 by the template 'for every input the law returns true; each argument reads behind the call as it read before'; 0 by the template 'total and deterministic' (their statements: YtbjanbbjjnoecaaTotals.lean).
  GIVEN WITH THE SEED: the statements are not yours to turn. If you find one false, say at which input.
  Laid BY PROGRAM, IN A SANDBOX (cutbox-rows.mjs): the forced cells as the released guide's own fill.sh prints them over the translation 66f310abcfcc3edd… (all of the seat's roots in one cut). By AI agents, Wed Nov 11 2026. No macro, syntax, notation, axiom, sorry.
-/
import Derived.Test.YtbjanbbjjnoecaaChecked
import GoSem.Claim
import GoSem.ClaimJoined
import GoSem.ClaimMapViews
import Derived.JoinedTies
import Derived.KernelRfl
namespace Go.Proofs.Ytbjanbbjjnoecaa
/- THE CELL 'sum', in the pinned program and in every row, IS THE sha256 OF THE DUMP (.gsa) THAT YtbjanbbjjnoecaaProg.lean LOADS. Nothing in Lean hashes anything: it is a label: what it is worth is what the hold of that sum in a sandbox is worth. -/
noncomputable def Try.pinned : Pinned := { name := "ytbjanbbjjnoecaa", sum := "66f310abcfcc3edd27a71d35028c5b04286af26e9dcef319c4f5b21f56b4bba3", checked := Try.checked }
namespace Rows
def none {H : Type} : Left H := { results := [], args := [] }

/-- 'conclavelaw03.PolyTrims': WHATEVER THE INPUT: true; the input reads as it did. -/
def polyTrimsSpec : ChangeSpec := { name := "polyTrims", fn := fun _ => fun
  | [d] => { results := [.lit (.bool true)], args := [d] }
  | _ => none }
def polyTrimsRow : OpenClaim := { program := "ytbjanbbjjnoecaa", sum := "66f310abcfcc3edd27a71d35028c5b04286af26e9dcef319c4f5b21f56b4bba3", func := "conclave/conclavelaw03.PolyTrims", spec := "polyTrims", apart := false }
def PolyTrimsSaid : Prop := polyTrimsRow.holds Try.pinned (OpenSpec.ofChange polyTrimsSpec)

/-- ITS FALSE NEIGHBOUR: 'it returns false'. Refute it at one input. -/
def polyTrimsWrong : ChangeSpec := { name := "polyTrims", fn := fun _ => fun
  | [d] => { results := [.lit (.bool false)], args := [d] }
  | _ => none }
def PolyTrimsWrongFalsely : Prop := polyTrimsRow.holds Try.pinned (OpenSpec.ofChange polyTrimsWrong)

/-- 'conclavelaw03.PolySums': WHATEVER THE INPUT: true; the input reads as it did. -/
def polySumsSpec : ChangeSpec := { name := "polySums", fn := fun _ => fun
  | [d1, d2, d3] => { results := [.lit (.bool true)], args := [d1, d2, d3] }
  | _ => none }
def polySumsRow : OpenClaim := { program := "ytbjanbbjjnoecaa", sum := "66f310abcfcc3edd27a71d35028c5b04286af26e9dcef319c4f5b21f56b4bba3", func := "conclave/conclavelaw03.PolySums", spec := "polySums", inPlace := ["math/bits.Add64", "math/bits.Sub64"], unfollowed := true, recurses := true, named := ["math/bits.divideError", "math/bits.overflowError"], apart := false }
def PolySumsSaid : Prop := polySumsRow.holds Try.pinned (OpenSpec.ofChange polySumsSpec)

/-- ITS FALSE NEIGHBOUR: 'it returns false'. Refute it at one input. -/
def polySumsWrong : ChangeSpec := { name := "polySums", fn := fun _ => fun
  | [d1, d2, d3] => { results := [.lit (.bool false)], args := [d1, d2, d3] }
  | _ => none }
def PolySumsWrongFalsely : Prop := polySumsRow.holds Try.pinned (OpenSpec.ofChange polySumsWrong)

/-- 'conclavelaw03.PolyValues': WHATEVER THE INPUT: true; the input reads as it did. -/
def polyValuesSpec : ChangeSpec := { name := "polyValues", fn := fun _ => fun
  | [d1, d2, d3] => { results := [.lit (.bool true)], args := [d1, d2, d3] }
  | _ => none }
def polyValuesRow : OpenClaim := { program := "ytbjanbbjjnoecaa", sum := "66f310abcfcc3edd27a71d35028c5b04286af26e9dcef319c4f5b21f56b4bba3", func := "conclave/conclavelaw03.PolyValues", spec := "polyValues", inPlace := ["math/bits.Sub64", "math/bits.Add64"], unfollowed := true, recurses := true, named := ["math/bits.divideError", "math/bits.overflowError"], apart := false }
def PolyValuesSaid : Prop := polyValuesRow.holds Try.pinned (OpenSpec.ofChange polyValuesSpec)

/-- ITS FALSE NEIGHBOUR: 'it returns false'. Refute it at one input. -/
def polyValuesWrong : ChangeSpec := { name := "polyValues", fn := fun _ => fun
  | [d1, d2, d3] => { results := [.lit (.bool false)], args := [d1, d2, d3] }
  | _ => none }
def PolyValuesWrongFalsely : Prop := polyValuesRow.holds Try.pinned (OpenSpec.ofChange polyValuesWrong)

/-- 'conclavelaw03.PolyGoes': WHATEVER THE INPUT: true; the input reads as it did. -/
def polyGoesSpec : ChangeSpec := { name := "polyGoes", fn := fun _ => fun
  | [d1, d2, d3] => { results := [.lit (.bool true)], args := [d1, d2, d3] }
  | _ => none }
def polyGoesRow : OpenClaim := { program := "ytbjanbbjjnoecaa", sum := "66f310abcfcc3edd27a71d35028c5b04286af26e9dcef319c4f5b21f56b4bba3", func := "conclave/conclavelaw03.PolyGoes", spec := "polyGoes", inPlace := ["math/bits.Sub64", "math/bits.Add64"], unfollowed := true, recurses := true, named := ["math/bits.divideError", "math/bits.overflowError"], apart := false }
def PolyGoesSaid : Prop := polyGoesRow.holds Try.pinned (OpenSpec.ofChange polyGoesSpec)

/-- ITS FALSE NEIGHBOUR: 'it returns false'. Refute it at one input. -/
def polyGoesWrong : ChangeSpec := { name := "polyGoes", fn := fun _ => fun
  | [d1, d2, d3] => { results := [.lit (.bool false)], args := [d1, d2, d3] }
  | _ => none }
def PolyGoesWrongFalsely : Prop := polyGoesRow.holds Try.pinned (OpenSpec.ofChange polyGoesWrong)

/-- 'conclavelaw03.PolyDivides': WHATEVER THE INPUT: true; the input reads as it did. -/
def polyDividesSpec : ChangeSpec := { name := "polyDivides", fn := fun _ => fun
  | [d1, d2, d3] => { results := [.lit (.bool true)], args := [d1, d2, d3] }
  | _ => none }
def polyDividesRow : OpenClaim := { program := "ytbjanbbjjnoecaa", sum := "66f310abcfcc3edd27a71d35028c5b04286af26e9dcef319c4f5b21f56b4bba3", func := "conclave/conclavelaw03.PolyDivides", spec := "polyDivides", inPlace := ["math/bits.Sub64", "math/bits.Add64"], unfollowed := true, recurses := true, named := ["math/bits.divideError", "math/bits.overflowError"], apart := false }
def PolyDividesSaid : Prop := polyDividesRow.holds Try.pinned (OpenSpec.ofChange polyDividesSpec)

/-- ITS FALSE NEIGHBOUR: 'it returns false'. Refute it at one input. -/
def polyDividesWrong : ChangeSpec := { name := "polyDivides", fn := fun _ => fun
  | [d1, d2, d3] => { results := [.lit (.bool false)], args := [d1, d2, d3] }
  | _ => none }
def PolyDividesWrongFalsely : Prop := polyDividesRow.holds Try.pinned (OpenSpec.ofChange polyDividesWrong)

/-- 'conclavelaw03.PolyBack': WHATEVER THE INPUT: true; the input reads as it did. -/
def polyBackSpec : ChangeSpec := { name := "polyBack", fn := fun _ => fun
  | [d1, d2, d3] => { results := [.lit (.bool true)], args := [d1, d2, d3] }
  | _ => none }
def polyBackRow : OpenClaim := { program := "ytbjanbbjjnoecaa", sum := "66f310abcfcc3edd27a71d35028c5b04286af26e9dcef319c4f5b21f56b4bba3", func := "conclave/conclavelaw03.PolyBack", spec := "polyBack", inPlace := ["math/bits.Sub64", "math/bits.Add64"], unfollowed := true, recurses := true, named := ["math/bits.divideError", "math/bits.overflowError"], apart := false }
def PolyBackSaid : Prop := polyBackRow.holds Try.pinned (OpenSpec.ofChange polyBackSpec)

/-- ITS FALSE NEIGHBOUR: 'it returns false'. Refute it at one input. -/
def polyBackWrong : ChangeSpec := { name := "polyBack", fn := fun _ => fun
  | [d1, d2, d3] => { results := [.lit (.bool false)], args := [d1, d2, d3] }
  | _ => none }
def PolyBackWrongFalsely : Prop := polyBackRow.holds Try.pinned (OpenSpec.ofChange polyBackWrong)

/-- 'conclavelaw03.PolyFresh': WHATEVER THE INPUT: true; the input reads as it did. -/
def polyFreshSpec : ChangeSpec := { name := "polyFresh", fn := fun _ => fun
  | [d1, d2, d3] => { results := [.lit (.bool true)], args := [d1, d2, d3] }
  | _ => none }
def polyFreshRow : OpenClaim := { program := "ytbjanbbjjnoecaa", sum := "66f310abcfcc3edd27a71d35028c5b04286af26e9dcef319c4f5b21f56b4bba3", func := "conclave/conclavelaw03.PolyFresh", spec := "polyFresh", inPlace := ["math/bits.Add64", "math/bits.Sub64"], unfollowed := true, recurses := true, named := ["math/bits.divideError", "math/bits.overflowError"], apart := false }
def PolyFreshSaid : Prop := polyFreshRow.holds Try.pinned (OpenSpec.ofChange polyFreshSpec)

/-- ITS FALSE NEIGHBOUR: 'it returns false'. Refute it at one input. -/
def polyFreshWrong : ChangeSpec := { name := "polyFresh", fn := fun _ => fun
  | [d1, d2, d3] => { results := [.lit (.bool false)], args := [d1, d2, d3] }
  | _ => none }
def PolyFreshWrongFalsely : Prop := polyFreshRow.holds Try.pinned (OpenSpec.ofChange polyFreshWrong)

/- THE SECOND FORM. 'bulk': how many values and letters a reading holds, each counted each time it is reached (what is shared counts as often as it is met; a slice's spare places count too). A statement '..UptoSaid' is the law's where the arguments, and the package variables that the reading takes, are together of bulk at most 1048576: NARROWER than '..Said'. Prove '..Said' where nothing that the law and all that it calls make is longer than what came in: it says more and counts as full. Else prove '..UptoSaid'. A law counts once. -/
mutual
def uptoBulk {H : Type} : DataW H → Nat
  | .lit (.string bytes) => bytes.length + 1
  | .lit _ => 1
  | .nil => 1
  | .ptr d => uptoBulk d + 1
  | .slice elems spare => uptoBulkAll elems + uptoBulkAll spare + 1
  | .agg parts => uptoBulkAll parts + 1
  | .iface _ d => uptoBulk d + 1
  | .map entries => uptoBulkEntries entries + 1
  | .held _ => 1
def uptoBulkAll {H : Type} : List (DataW H) → Nat
  | [] => 0
  | d :: r => uptoBulk d + uptoBulkAll r
def uptoBulkEntries {H : Type} : List (Lit × DataW H) → Nat
  | [] => 0
  | x :: r => uptoBulkEntry x + uptoBulkEntries r
def uptoBulkEntry {H : Type} : Lit × DataW H → Nat
  | (.string bytes, d) => bytes.length + uptoBulk d + 1
  | (_, d) => uptoBulk d + 1
 end
def uptoSmall : (H : Type) → List (DataW H) → Bool := fun _ ds => decide (uptoBulkAll ds ≤ 1048576)
def OpenSpec.upto (s : _root_.Go.ChangeSpec) : _root_.Go.OpenSpec := { _root_.Go.OpenSpec.ofChange s with cond := some uptoSmall }

/-- 'conclavelaw03.PolyTrims', WHERE WHAT IT READS IS OF BULK AT MOST 1048576: true; the input reads as it did. -/
def polyTrimsUptoRow : OpenClaim := { program := "ytbjanbbjjnoecaa", sum := "66f310abcfcc3edd27a71d35028c5b04286af26e9dcef319c4f5b21f56b4bba3", func := "conclave/conclavelaw03.PolyTrims", spec := "polyTrims", apart := false, narrowed := true }
def PolyTrimsUptoSaid : Prop := polyTrimsUptoRow.holds Try.pinned (OpenSpec.upto polyTrimsSpec)

/-- 'conclavelaw03.PolySums', WHERE WHAT IT READS IS OF BULK AT MOST 1048576: true; the input reads as it did. -/
def polySumsUptoRow : OpenClaim := { program := "ytbjanbbjjnoecaa", sum := "66f310abcfcc3edd27a71d35028c5b04286af26e9dcef319c4f5b21f56b4bba3", func := "conclave/conclavelaw03.PolySums", spec := "polySums", inPlace := ["math/bits.Add64", "math/bits.Sub64"], unfollowed := true, recurses := true, named := ["math/bits.divideError", "math/bits.overflowError"], apart := false, narrowed := true }
def PolySumsUptoSaid : Prop := polySumsUptoRow.holds Try.pinned (OpenSpec.upto polySumsSpec)

/-- 'conclavelaw03.PolyValues', WHERE WHAT IT READS IS OF BULK AT MOST 1048576: true; the input reads as it did. -/
def polyValuesUptoRow : OpenClaim := { program := "ytbjanbbjjnoecaa", sum := "66f310abcfcc3edd27a71d35028c5b04286af26e9dcef319c4f5b21f56b4bba3", func := "conclave/conclavelaw03.PolyValues", spec := "polyValues", inPlace := ["math/bits.Sub64", "math/bits.Add64"], unfollowed := true, recurses := true, named := ["math/bits.divideError", "math/bits.overflowError"], apart := false, narrowed := true }
def PolyValuesUptoSaid : Prop := polyValuesUptoRow.holds Try.pinned (OpenSpec.upto polyValuesSpec)

/-- 'conclavelaw03.PolyGoes', WHERE WHAT IT READS IS OF BULK AT MOST 1048576: true; the input reads as it did. -/
def polyGoesUptoRow : OpenClaim := { program := "ytbjanbbjjnoecaa", sum := "66f310abcfcc3edd27a71d35028c5b04286af26e9dcef319c4f5b21f56b4bba3", func := "conclave/conclavelaw03.PolyGoes", spec := "polyGoes", inPlace := ["math/bits.Sub64", "math/bits.Add64"], unfollowed := true, recurses := true, named := ["math/bits.divideError", "math/bits.overflowError"], apart := false, narrowed := true }
def PolyGoesUptoSaid : Prop := polyGoesUptoRow.holds Try.pinned (OpenSpec.upto polyGoesSpec)

/-- 'conclavelaw03.PolyDivides', WHERE WHAT IT READS IS OF BULK AT MOST 1048576: true; the input reads as it did. -/
def polyDividesUptoRow : OpenClaim := { program := "ytbjanbbjjnoecaa", sum := "66f310abcfcc3edd27a71d35028c5b04286af26e9dcef319c4f5b21f56b4bba3", func := "conclave/conclavelaw03.PolyDivides", spec := "polyDivides", inPlace := ["math/bits.Sub64", "math/bits.Add64"], unfollowed := true, recurses := true, named := ["math/bits.divideError", "math/bits.overflowError"], apart := false, narrowed := true }
def PolyDividesUptoSaid : Prop := polyDividesUptoRow.holds Try.pinned (OpenSpec.upto polyDividesSpec)

/-- 'conclavelaw03.PolyBack', WHERE WHAT IT READS IS OF BULK AT MOST 1048576: true; the input reads as it did. -/
def polyBackUptoRow : OpenClaim := { program := "ytbjanbbjjnoecaa", sum := "66f310abcfcc3edd27a71d35028c5b04286af26e9dcef319c4f5b21f56b4bba3", func := "conclave/conclavelaw03.PolyBack", spec := "polyBack", inPlace := ["math/bits.Sub64", "math/bits.Add64"], unfollowed := true, recurses := true, named := ["math/bits.divideError", "math/bits.overflowError"], apart := false, narrowed := true }
def PolyBackUptoSaid : Prop := polyBackUptoRow.holds Try.pinned (OpenSpec.upto polyBackSpec)

/-- 'conclavelaw03.PolyFresh', WHERE WHAT IT READS IS OF BULK AT MOST 1048576: true; the input reads as it did. -/
def polyFreshUptoRow : OpenClaim := { program := "ytbjanbbjjnoecaa", sum := "66f310abcfcc3edd27a71d35028c5b04286af26e9dcef319c4f5b21f56b4bba3", func := "conclave/conclavelaw03.PolyFresh", spec := "polyFresh", inPlace := ["math/bits.Add64", "math/bits.Sub64"], unfollowed := true, recurses := true, named := ["math/bits.divideError", "math/bits.overflowError"], apart := false, narrowed := true }
def PolyFreshUptoSaid : Prop := polyFreshUptoRow.holds Try.pinned (OpenSpec.upto polyFreshSpec)

end Rows
end Go.Proofs.Ytbjanbbjjnoecaa
