/-
  No cell of these rows narrows 'for every input' (looked for: loops, veiled, ifaces, maps, wideKeys, modest, calm, conditions, laid).
  DERIVED. THE GIVEN ROWS OF THIS SEAT. 7 by the template 'for every input the law returns true; each argument reads behind the call as it read before'; 0 by the template 'total and deterministic' (their statements: YteofgcmgncaojaaTotals.lean).
  GIVEN WITH THE SEED: the statements are not yours to turn. If you find one false, say at which input.
  Laid BY PROGRAM, IN A SANDBOX (cutbox-rows.mjs): the forced cells as the released guide's own fill.sh prints them over the translation 3ebe727e2fe3253f… (all of the seat's roots in one cut). By AI agents, Wed Nov 11 2026. No macro, syntax, notation, axiom, sorry.
-/
import Derived.Test.YteofgcmgncaojaaChecked
import GoSem.Claim
import GoSem.ClaimJoined
import GoSem.ClaimMapViews
import Derived.JoinedTies
import Derived.KernelRfl
namespace Go.Proofs.Yteofgcmgncaojaa
/- THE CELL 'sum', in the pinned program and in every row, IS THE sha256 OF THE DUMP (.gsa) THAT YteofgcmgncaojaaProg.lean LOADS. Nothing in Lean hashes anything: it is a label: what it is worth is what the hold of that sum in a sandbox is worth. -/
noncomputable def Try.pinned : Pinned := { name := "yteofgcmgncaojaa", sum := "3ebe727e2fe3253fc9b60810353a97e19eaccdbd33ff61a9c7dde6868d2caa3a", checked := Try.checked }
namespace Rows
def none {H : Type} : Left H := { results := [], args := [] }

/-- 'conclavelaw05.EuclidDivides': WHATEVER THE INPUT: true; the input reads as it did. -/
def euclidDividesSpec : ChangeSpec := { name := "euclidDivides", fn := fun _ => fun
  | [d1, d2, d3] => { results := [.lit (.bool true)], args := [d1, d2, d3] }
  | _ => none }
def euclidDividesRow : OpenClaim := { program := "yteofgcmgncaojaa", sum := "3ebe727e2fe3253fc9b60810353a97e19eaccdbd33ff61a9c7dde6868d2caa3a", func := "conclave/conclavelaw05.EuclidDivides", spec := "euclidDivides", inPlace := ["math/bits.Sub64", "math/bits.Add64"], unfollowed := true, recurses := true, named := ["math/bits.divideError", "math/bits.overflowError"], apart := false }
def EuclidDividesSaid : Prop := euclidDividesRow.holds Try.pinned (OpenSpec.ofChange euclidDividesSpec)

/-- ITS FALSE NEIGHBOUR: 'it returns false'. Refute it at one input. -/
def euclidDividesWrong : ChangeSpec := { name := "euclidDivides", fn := fun _ => fun
  | [d1, d2, d3] => { results := [.lit (.bool false)], args := [d1, d2, d3] }
  | _ => none }
def EuclidDividesWrongFalsely : Prop := euclidDividesRow.holds Try.pinned (OpenSpec.ofChange euclidDividesWrong)

/-- 'conclavelaw05.EuclidCommon': WHATEVER THE INPUT: true; the input reads as it did. -/
def euclidCommonSpec : ChangeSpec := { name := "euclidCommon", fn := fun _ => fun
  | [d1, d2, d3] => { results := [.lit (.bool true)], args := [d1, d2, d3] }
  | _ => none }
def euclidCommonRow : OpenClaim := { program := "yteofgcmgncaojaa", sum := "3ebe727e2fe3253fc9b60810353a97e19eaccdbd33ff61a9c7dde6868d2caa3a", func := "conclave/conclavelaw05.EuclidCommon", spec := "euclidCommon", inPlace := ["math/bits.Sub64", "math/bits.Add64"], unfollowed := true, recurses := true, named := ["math/bits.divideError", "math/bits.overflowError"], apart := false }
def EuclidCommonSaid : Prop := euclidCommonRow.holds Try.pinned (OpenSpec.ofChange euclidCommonSpec)

/-- ITS FALSE NEIGHBOUR: 'it returns false'. Refute it at one input. -/
def euclidCommonWrong : ChangeSpec := { name := "euclidCommon", fn := fun _ => fun
  | [d1, d2, d3] => { results := [.lit (.bool false)], args := [d1, d2, d3] }
  | _ => none }
def EuclidCommonWrongFalsely : Prop := euclidCommonRow.holds Try.pinned (OpenSpec.ofChange euclidCommonWrong)

/-- 'conclavelaw05.EuclidInverts': WHATEVER THE INPUT: true; the input reads as it did. -/
def euclidInvertsSpec : ChangeSpec := { name := "euclidInverts", fn := fun _ => fun
  | [d1, d2, d3] => { results := [.lit (.bool true)], args := [d1, d2, d3] }
  | _ => none }
def euclidInvertsRow : OpenClaim := { program := "yteofgcmgncaojaa", sum := "3ebe727e2fe3253fc9b60810353a97e19eaccdbd33ff61a9c7dde6868d2caa3a", func := "conclave/conclavelaw05.EuclidInverts", spec := "euclidInverts", inPlace := ["math/bits.Sub64", "math/bits.Add64"], unfollowed := true, recurses := true, named := ["math/bits.divideError", "math/bits.overflowError"], apart := false }
def EuclidInvertsSaid : Prop := euclidInvertsRow.holds Try.pinned (OpenSpec.ofChange euclidInvertsSpec)

/-- ITS FALSE NEIGHBOUR: 'it returns false'. Refute it at one input. -/
def euclidInvertsWrong : ChangeSpec := { name := "euclidInverts", fn := fun _ => fun
  | [d1, d2, d3] => { results := [.lit (.bool false)], args := [d1, d2, d3] }
  | _ => none }
def EuclidInvertsWrongFalsely : Prop := euclidInvertsRow.holds Try.pinned (OpenSpec.ofChange euclidInvertsWrong)

/-- 'conclavelaw05.EuclidRows': WHATEVER THE INPUT: true; the input reads as it did. -/
def euclidRowsSpec : ChangeSpec := { name := "euclidRows", fn := fun _ => fun
  | [d1, d2, d3] => { results := [.lit (.bool true)], args := [d1, d2, d3] }
  | _ => none }
def euclidRowsRow : OpenClaim := { program := "yteofgcmgncaojaa", sum := "3ebe727e2fe3253fc9b60810353a97e19eaccdbd33ff61a9c7dde6868d2caa3a", func := "conclave/conclavelaw05.EuclidRows", spec := "euclidRows", inPlace := ["math/bits.Sub64", "math/bits.Add64"], unfollowed := true, recurses := true, named := ["math/bits.divideError", "math/bits.overflowError"], apart := false }
def EuclidRowsSaid : Prop := euclidRowsRow.holds Try.pinned (OpenSpec.ofChange euclidRowsSpec)

/-- ITS FALSE NEIGHBOUR: 'it returns false'. Refute it at one input. -/
def euclidRowsWrong : ChangeSpec := { name := "euclidRows", fn := fun _ => fun
  | [d1, d2, d3] => { results := [.lit (.bool false)], args := [d1, d2, d3] }
  | _ => none }
def EuclidRowsWrongFalsely : Prop := euclidRowsRow.holds Try.pinned (OpenSpec.ofChange euclidRowsWrong)

/-- 'conclavelaw05.EuclidMade': WHATEVER THE INPUT: true; the input reads as it did. -/
def euclidMadeSpec : ChangeSpec := { name := "euclidMade", fn := fun _ => fun
  | [d1, d2, d3] => { results := [.lit (.bool true)], args := [d1, d2, d3] }
  | _ => none }
def euclidMadeRow : OpenClaim := { program := "yteofgcmgncaojaa", sum := "3ebe727e2fe3253fc9b60810353a97e19eaccdbd33ff61a9c7dde6868d2caa3a", func := "conclave/conclavelaw05.EuclidMade", spec := "euclidMade", inPlace := ["math/bits.Sub64", "math/bits.Add64"], unfollowed := true, recurses := true, named := ["math/bits.divideError", "math/bits.overflowError"], apart := false }
def EuclidMadeSaid : Prop := euclidMadeRow.holds Try.pinned (OpenSpec.ofChange euclidMadeSpec)

/-- ITS FALSE NEIGHBOUR: 'it returns false'. Refute it at one input. -/
def euclidMadeWrong : ChangeSpec := { name := "euclidMade", fn := fun _ => fun
  | [d1, d2, d3] => { results := [.lit (.bool false)], args := [d1, d2, d3] }
  | _ => none }
def EuclidMadeWrongFalsely : Prop := euclidMadeRow.holds Try.pinned (OpenSpec.ofChange euclidMadeWrong)

/-- 'conclavelaw05.EuclidRatios': WHATEVER THE INPUT: true; the input reads as it did. -/
def euclidRatiosSpec : ChangeSpec := { name := "euclidRatios", fn := fun _ => fun
  | [d1, d2, d3] => { results := [.lit (.bool true)], args := [d1, d2, d3] }
  | _ => none }
def euclidRatiosRow : OpenClaim := { program := "yteofgcmgncaojaa", sum := "3ebe727e2fe3253fc9b60810353a97e19eaccdbd33ff61a9c7dde6868d2caa3a", func := "conclave/conclavelaw05.EuclidRatios", spec := "euclidRatios", inPlace := ["math/bits.Sub64", "math/bits.Add64"], unfollowed := true, recurses := true, named := ["math/bits.divideError", "math/bits.overflowError"], apart := false }
def EuclidRatiosSaid : Prop := euclidRatiosRow.holds Try.pinned (OpenSpec.ofChange euclidRatiosSpec)

/-- ITS FALSE NEIGHBOUR: 'it returns false'. Refute it at one input. -/
def euclidRatiosWrong : ChangeSpec := { name := "euclidRatios", fn := fun _ => fun
  | [d1, d2, d3] => { results := [.lit (.bool false)], args := [d1, d2, d3] }
  | _ => none }
def EuclidRatiosWrongFalsely : Prop := euclidRatiosRow.holds Try.pinned (OpenSpec.ofChange euclidRatiosWrong)

/-- 'conclavelaw05.EuclidParts': WHATEVER THE INPUT: true; the input reads as it did. -/
def euclidPartsSpec : ChangeSpec := { name := "euclidParts", fn := fun _ => fun
  | [d1, d2, d3] => { results := [.lit (.bool true)], args := [d1, d2, d3] }
  | _ => none }
def euclidPartsRow : OpenClaim := { program := "yteofgcmgncaojaa", sum := "3ebe727e2fe3253fc9b60810353a97e19eaccdbd33ff61a9c7dde6868d2caa3a", func := "conclave/conclavelaw05.EuclidParts", spec := "euclidParts", inPlace := ["math/bits.Sub64", "math/bits.Add64"], unfollowed := true, recurses := true, named := ["math/bits.divideError", "math/bits.overflowError"], apart := false }
def EuclidPartsSaid : Prop := euclidPartsRow.holds Try.pinned (OpenSpec.ofChange euclidPartsSpec)

/-- ITS FALSE NEIGHBOUR: 'it returns false'. Refute it at one input. -/
def euclidPartsWrong : ChangeSpec := { name := "euclidParts", fn := fun _ => fun
  | [d1, d2, d3] => { results := [.lit (.bool false)], args := [d1, d2, d3] }
  | _ => none }
def EuclidPartsWrongFalsely : Prop := euclidPartsRow.holds Try.pinned (OpenSpec.ofChange euclidPartsWrong)

/- THE SECOND FORM. 'bulk': how many values and letters a reading holds, each counted each time it is reached (what is shared counts as often as it is met; a slice's spare places count too). A statement '..UptoSaid' is the law's where the arguments, and the package variables that the reading takes, are together of bulk at most 1048576: NARROWER than '..Said'. Prove '..Said' where nothing that the law and all that it calls make is longer than what came in: it says more and counts as full. Else prove '..UptoSaid'. A law counts once. -/
mutual
def uptoBulk {H : Type} : DataW H → Nat
  | .lit (.string bytes) => bytes.length + 1
  | .lit _ => 1
  | .nil => 1
  | .ptr d => uptoBulk d + 1
  | .slice elems spare => uptoBulkAll elems + uptoBulkAll spare + 1
  | .agg parts => uptoBulkAll parts + 1
  | .iface _ d => uptoBulk d + 1
  | .map entries => uptoBulkEntries entries + 1
  | .held _ => 1
def uptoBulkAll {H : Type} : List (DataW H) → Nat
  | [] => 0
  | d :: r => uptoBulk d + uptoBulkAll r
def uptoBulkEntries {H : Type} : List (Lit × DataW H) → Nat
  | [] => 0
  | x :: r => uptoBulkEntry x + uptoBulkEntries r
def uptoBulkEntry {H : Type} : Lit × DataW H → Nat
  | (.string bytes, d) => bytes.length + uptoBulk d + 1
  | (_, d) => uptoBulk d + 1
 end
def uptoSmall : (H : Type) → List (DataW H) → Bool := fun _ ds => decide (uptoBulkAll ds ≤ 1048576)
def OpenSpec.upto (s : _root_.Go.ChangeSpec) : _root_.Go.OpenSpec := { _root_.Go.OpenSpec.ofChange s with cond := some uptoSmall }

/-- 'conclavelaw05.EuclidDivides', WHERE WHAT IT READS IS OF BULK AT MOST 1048576: true; the input reads as it did. -/
def euclidDividesUptoRow : OpenClaim := { program := "yteofgcmgncaojaa", sum := "3ebe727e2fe3253fc9b60810353a97e19eaccdbd33ff61a9c7dde6868d2caa3a", func := "conclave/conclavelaw05.EuclidDivides", spec := "euclidDivides", inPlace := ["math/bits.Sub64", "math/bits.Add64"], unfollowed := true, recurses := true, named := ["math/bits.divideError", "math/bits.overflowError"], apart := false, narrowed := true }
def EuclidDividesUptoSaid : Prop := euclidDividesUptoRow.holds Try.pinned (OpenSpec.upto euclidDividesSpec)

/-- 'conclavelaw05.EuclidCommon', WHERE WHAT IT READS IS OF BULK AT MOST 1048576: true; the input reads as it did. -/
def euclidCommonUptoRow : OpenClaim := { program := "yteofgcmgncaojaa", sum := "3ebe727e2fe3253fc9b60810353a97e19eaccdbd33ff61a9c7dde6868d2caa3a", func := "conclave/conclavelaw05.EuclidCommon", spec := "euclidCommon", inPlace := ["math/bits.Sub64", "math/bits.Add64"], unfollowed := true, recurses := true, named := ["math/bits.divideError", "math/bits.overflowError"], apart := false, narrowed := true }
def EuclidCommonUptoSaid : Prop := euclidCommonUptoRow.holds Try.pinned (OpenSpec.upto euclidCommonSpec)

/-- 'conclavelaw05.EuclidInverts', WHERE WHAT IT READS IS OF BULK AT MOST 1048576: true; the input reads as it did. -/
def euclidInvertsUptoRow : OpenClaim := { program := "yteofgcmgncaojaa", sum := "3ebe727e2fe3253fc9b60810353a97e19eaccdbd33ff61a9c7dde6868d2caa3a", func := "conclave/conclavelaw05.EuclidInverts", spec := "euclidInverts", inPlace := ["math/bits.Sub64", "math/bits.Add64"], unfollowed := true, recurses := true, named := ["math/bits.divideError", "math/bits.overflowError"], apart := false, narrowed := true }
def EuclidInvertsUptoSaid : Prop := euclidInvertsUptoRow.holds Try.pinned (OpenSpec.upto euclidInvertsSpec)

/-- 'conclavelaw05.EuclidRows', WHERE WHAT IT READS IS OF BULK AT MOST 1048576: true; the input reads as it did. -/
def euclidRowsUptoRow : OpenClaim := { program := "yteofgcmgncaojaa", sum := "3ebe727e2fe3253fc9b60810353a97e19eaccdbd33ff61a9c7dde6868d2caa3a", func := "conclave/conclavelaw05.EuclidRows", spec := "euclidRows", inPlace := ["math/bits.Sub64", "math/bits.Add64"], unfollowed := true, recurses := true, named := ["math/bits.divideError", "math/bits.overflowError"], apart := false, narrowed := true }
def EuclidRowsUptoSaid : Prop := euclidRowsUptoRow.holds Try.pinned (OpenSpec.upto euclidRowsSpec)

/-- 'conclavelaw05.EuclidMade', WHERE WHAT IT READS IS OF BULK AT MOST 1048576: true; the input reads as it did. -/
def euclidMadeUptoRow : OpenClaim := { program := "yteofgcmgncaojaa", sum := "3ebe727e2fe3253fc9b60810353a97e19eaccdbd33ff61a9c7dde6868d2caa3a", func := "conclave/conclavelaw05.EuclidMade", spec := "euclidMade", inPlace := ["math/bits.Sub64", "math/bits.Add64"], unfollowed := true, recurses := true, named := ["math/bits.divideError", "math/bits.overflowError"], apart := false, narrowed := true }
def EuclidMadeUptoSaid : Prop := euclidMadeUptoRow.holds Try.pinned (OpenSpec.upto euclidMadeSpec)

/-- 'conclavelaw05.EuclidRatios', WHERE WHAT IT READS IS OF BULK AT MOST 1048576: true; the input reads as it did. -/
def euclidRatiosUptoRow : OpenClaim := { program := "yteofgcmgncaojaa", sum := "3ebe727e2fe3253fc9b60810353a97e19eaccdbd33ff61a9c7dde6868d2caa3a", func := "conclave/conclavelaw05.EuclidRatios", spec := "euclidRatios", inPlace := ["math/bits.Sub64", "math/bits.Add64"], unfollowed := true, recurses := true, named := ["math/bits.divideError", "math/bits.overflowError"], apart := false, narrowed := true }
def EuclidRatiosUptoSaid : Prop := euclidRatiosUptoRow.holds Try.pinned (OpenSpec.upto euclidRatiosSpec)

/-- 'conclavelaw05.EuclidParts', WHERE WHAT IT READS IS OF BULK AT MOST 1048576: true; the input reads as it did. -/
def euclidPartsUptoRow : OpenClaim := { program := "yteofgcmgncaojaa", sum := "3ebe727e2fe3253fc9b60810353a97e19eaccdbd33ff61a9c7dde6868d2caa3a", func := "conclave/conclavelaw05.EuclidParts", spec := "euclidParts", inPlace := ["math/bits.Sub64", "math/bits.Add64"], unfollowed := true, recurses := true, named := ["math/bits.divideError", "math/bits.overflowError"], apart := false, narrowed := true }
def EuclidPartsUptoSaid : Prop := euclidPartsUptoRow.holds Try.pinned (OpenSpec.upto euclidPartsSpec)

end Rows
end Go.Proofs.Yteofgcmgncaojaa
