/-
  No cell of these rows narrows 'for every input' (looked for: loops, veiled, ifaces, maps, wideKeys, modest, calm, conditions, laid).
  DERIVED. THE GIVEN ROWS OF THIS SEAT. 5 by the template 'for every input the law returns true; each argument reads behind the call as it read before'; 0 by the template 'total and deterministic' (their statements: YtaegmhniepfdaaaTotals.lean).
  GIVEN WITH THE SEED: the statements are not yours to turn. If you find one false, say at which input.
  Laid BY PROGRAM, IN A SANDBOX (cutbox-rows.mjs): the forced cells as the released guide's own fill.sh prints them over the translation 686d0f44fc3a9e7e… (all of the seat's roots in one cut). By AI agents, Wed Nov 11 2026. No macro, syntax, notation, axiom, sorry.
-/
import Derived.Test.YtaegmhniepfdaaaChecked
import GoSem.Claim
import GoSem.ClaimJoined
import GoSem.ClaimMapViews
import Derived.JoinedTies
import Derived.KernelRfl
namespace Go.Proofs.Ytaegmhniepfdaaa
/- THE CELL 'sum', in the pinned program and in every row, IS THE sha256 OF THE DUMP (.gsa) THAT YtaegmhniepfdaaaProg.lean LOADS. Nothing in Lean hashes anything: it is a label: what it is worth is what the hold of that sum in a sandbox is worth. -/
noncomputable def Try.pinned : Pinned := { name := "ytaegmhniepfdaaa", sum := "686d0f44fc3a9e7ec0ffae944608a750d855853de57e608de4935a33be3dc386", checked := Try.checked }
namespace Rows
def none {H : Type} : Left H := { results := [], args := [] }

/-- 'conclavelaw04.FastFresh': WHATEVER THE INPUT: true; the input reads as it did. -/
def fastFreshSpec : ChangeSpec := { name := "fastFresh", fn := fun _ => fun
  | [d1, d2, d3] => { results := [.lit (.bool true)], args := [d1, d2, d3] }
  | _ => none }
def fastFreshRow : OpenClaim := { program := "ytaegmhniepfdaaa", sum := "686d0f44fc3a9e7ec0ffae944608a750d855853de57e608de4935a33be3dc386", func := "conclave/conclavelaw04.FastFresh", spec := "fastFresh", inPlace := ["math/bits.Sub64", "math/bits.Add64"], unfollowed := true, recurses := true, named := ["math/bits.divideError", "math/bits.overflowError"], apart := false }
def FastFreshSaid : Prop := fastFreshRow.holds Try.pinned (OpenSpec.ofChange fastFreshSpec)

/-- ITS FALSE NEIGHBOUR: 'it returns false'. Refute it at one input. -/
def fastFreshWrong : ChangeSpec := { name := "fastFresh", fn := fun _ => fun
  | [d1, d2, d3] => { results := [.lit (.bool false)], args := [d1, d2, d3] }
  | _ => none }
def FastFreshWrongFalsely : Prop := fastFreshRow.holds Try.pinned (OpenSpec.ofChange fastFreshWrong)

/-- 'conclavelaw04.FastPowers': WHATEVER THE INPUT: true; the input reads as it did. -/
def fastPowersSpec : ChangeSpec := { name := "fastPowers", fn := fun _ => fun
  | [d1, d2, d3] => { results := [.lit (.bool true)], args := [d1, d2, d3] }
  | _ => none }
def fastPowersRow : OpenClaim := { program := "ytaegmhniepfdaaa", sum := "686d0f44fc3a9e7ec0ffae944608a750d855853de57e608de4935a33be3dc386", func := "conclave/conclavelaw04.FastPowers", spec := "fastPowers", inPlace := ["math/bits.Sub64", "math/bits.Add64"], unfollowed := true, recurses := true, named := ["math/bits.divideError", "math/bits.overflowError"], apart := false }
def FastPowersSaid : Prop := fastPowersRow.holds Try.pinned (OpenSpec.ofChange fastPowersSpec)

/-- ITS FALSE NEIGHBOUR: 'it returns false'. Refute it at one input. -/
def fastPowersWrong : ChangeSpec := { name := "fastPowers", fn := fun _ => fun
  | [d1, d2, d3] => { results := [.lit (.bool false)], args := [d1, d2, d3] }
  | _ => none }
def FastPowersWrongFalsely : Prop := fastPowersRow.holds Try.pinned (OpenSpec.ofChange fastPowersWrong)

/-- 'conclavelaw04.FastMuls': WHATEVER THE INPUT: true; the input reads as it did. -/
def fastMulsSpec : ChangeSpec := { name := "fastMuls", fn := fun _ => fun
  | [d1, d2, d3] => { results := [.lit (.bool true)], args := [d1, d2, d3] }
  | _ => none }
def fastMulsRow : OpenClaim := { program := "ytaegmhniepfdaaa", sum := "686d0f44fc3a9e7ec0ffae944608a750d855853de57e608de4935a33be3dc386", func := "conclave/conclavelaw04.FastMuls", spec := "fastMuls", inPlace := ["math/bits.Sub64", "math/bits.Add64"], unfollowed := true, recurses := true, named := ["math/bits.divideError", "math/bits.overflowError"], apart := false }
def FastMulsSaid : Prop := fastMulsRow.holds Try.pinned (OpenSpec.ofChange fastMulsSpec)

/-- ITS FALSE NEIGHBOUR: 'it returns false'. Refute it at one input. -/
def fastMulsWrong : ChangeSpec := { name := "fastMuls", fn := fun _ => fun
  | [d1, d2, d3] => { results := [.lit (.bool false)], args := [d1, d2, d3] }
  | _ => none }
def FastMulsWrongFalsely : Prop := fastMulsRow.holds Try.pinned (OpenSpec.ofChange fastMulsWrong)

/-- 'conclavelaw04.FastBack': WHATEVER THE INPUT: true; the input reads as it did. -/
def fastBackSpec : ChangeSpec := { name := "fastBack", fn := fun _ => fun
  | [d1, d2, d3] => { results := [.lit (.bool true)], args := [d1, d2, d3] }
  | _ => none }
def fastBackRow : OpenClaim := { program := "ytaegmhniepfdaaa", sum := "686d0f44fc3a9e7ec0ffae944608a750d855853de57e608de4935a33be3dc386", func := "conclave/conclavelaw04.FastBack", spec := "fastBack", inPlace := ["math/bits.Sub64", "math/bits.Add64"], unfollowed := true, recurses := true, named := ["math/bits.divideError", "math/bits.overflowError"], apart := false }
def FastBackSaid : Prop := fastBackRow.holds Try.pinned (OpenSpec.ofChange fastBackSpec)

/-- ITS FALSE NEIGHBOUR: 'it returns false'. Refute it at one input. -/
def fastBackWrong : ChangeSpec := { name := "fastBack", fn := fun _ => fun
  | [d1, d2, d3] => { results := [.lit (.bool false)], args := [d1, d2, d3] }
  | _ => none }
def FastBackWrongFalsely : Prop := fastBackRow.holds Try.pinned (OpenSpec.ofChange fastBackWrong)

/-- 'conclavelaw04.FastRounds': WHATEVER THE INPUT: true; the input reads as it did. -/
def fastRoundsSpec : ChangeSpec := { name := "fastRounds", fn := fun _ => fun
  | [d1, d2, d3] => { results := [.lit (.bool true)], args := [d1, d2, d3] }
  | _ => none }
def fastRoundsRow : OpenClaim := { program := "ytaegmhniepfdaaa", sum := "686d0f44fc3a9e7ec0ffae944608a750d855853de57e608de4935a33be3dc386", func := "conclave/conclavelaw04.FastRounds", spec := "fastRounds", inPlace := ["math/bits.Sub64", "math/bits.Add64"], unfollowed := true, recurses := true, named := ["math/bits.divideError", "math/bits.overflowError"], apart := false }
def FastRoundsSaid : Prop := fastRoundsRow.holds Try.pinned (OpenSpec.ofChange fastRoundsSpec)

/-- ITS FALSE NEIGHBOUR: 'it returns false'. Refute it at one input. -/
def fastRoundsWrong : ChangeSpec := { name := "fastRounds", fn := fun _ => fun
  | [d1, d2, d3] => { results := [.lit (.bool false)], args := [d1, d2, d3] }
  | _ => none }
def FastRoundsWrongFalsely : Prop := fastRoundsRow.holds Try.pinned (OpenSpec.ofChange fastRoundsWrong)

/- THE SECOND FORM. 'bulk': how many values and letters a reading holds, each counted each time it is reached (what is shared counts as often as it is met; a slice's spare places count too). A statement '..UptoSaid' is the law's where the arguments, and the package variables that the reading takes, are together of bulk at most 1048576: NARROWER than '..Said'. Prove '..Said' where nothing that the law and all that it calls make is longer than what came in: it says more and counts as full. Else prove '..UptoSaid'. A law counts once. -/
mutual
def uptoBulk {H : Type} : DataW H → Nat
  | .lit (.string bytes) => bytes.length + 1
  | .lit _ => 1
  | .nil => 1
  | .ptr d => uptoBulk d + 1
  | .slice elems spare => uptoBulkAll elems + uptoBulkAll spare + 1
  | .agg parts => uptoBulkAll parts + 1
  | .iface _ d => uptoBulk d + 1
  | .map entries => uptoBulkEntries entries + 1
  | .held _ => 1
def uptoBulkAll {H : Type} : List (DataW H) → Nat
  | [] => 0
  | d :: r => uptoBulk d + uptoBulkAll r
def uptoBulkEntries {H : Type} : List (Lit × DataW H) → Nat
  | [] => 0
  | x :: r => uptoBulkEntry x + uptoBulkEntries r
def uptoBulkEntry {H : Type} : Lit × DataW H → Nat
  | (.string bytes, d) => bytes.length + uptoBulk d + 1
  | (_, d) => uptoBulk d + 1
 end
def uptoSmall : (H : Type) → List (DataW H) → Bool := fun _ ds => decide (uptoBulkAll ds ≤ 1048576)
def OpenSpec.upto (s : _root_.Go.ChangeSpec) : _root_.Go.OpenSpec := { _root_.Go.OpenSpec.ofChange s with cond := some uptoSmall }

/-- 'conclavelaw04.FastFresh', WHERE WHAT IT READS IS OF BULK AT MOST 1048576: true; the input reads as it did. -/
def fastFreshUptoRow : OpenClaim := { program := "ytaegmhniepfdaaa", sum := "686d0f44fc3a9e7ec0ffae944608a750d855853de57e608de4935a33be3dc386", func := "conclave/conclavelaw04.FastFresh", spec := "fastFresh", inPlace := ["math/bits.Sub64", "math/bits.Add64"], unfollowed := true, recurses := true, named := ["math/bits.divideError", "math/bits.overflowError"], apart := false, narrowed := true }
def FastFreshUptoSaid : Prop := fastFreshUptoRow.holds Try.pinned (OpenSpec.upto fastFreshSpec)

/-- 'conclavelaw04.FastPowers', WHERE WHAT IT READS IS OF BULK AT MOST 1048576: true; the input reads as it did. -/
def fastPowersUptoRow : OpenClaim := { program := "ytaegmhniepfdaaa", sum := "686d0f44fc3a9e7ec0ffae944608a750d855853de57e608de4935a33be3dc386", func := "conclave/conclavelaw04.FastPowers", spec := "fastPowers", inPlace := ["math/bits.Sub64", "math/bits.Add64"], unfollowed := true, recurses := true, named := ["math/bits.divideError", "math/bits.overflowError"], apart := false, narrowed := true }
def FastPowersUptoSaid : Prop := fastPowersUptoRow.holds Try.pinned (OpenSpec.upto fastPowersSpec)

/-- 'conclavelaw04.FastMuls', WHERE WHAT IT READS IS OF BULK AT MOST 1048576: true; the input reads as it did. -/
def fastMulsUptoRow : OpenClaim := { program := "ytaegmhniepfdaaa", sum := "686d0f44fc3a9e7ec0ffae944608a750d855853de57e608de4935a33be3dc386", func := "conclave/conclavelaw04.FastMuls", spec := "fastMuls", inPlace := ["math/bits.Sub64", "math/bits.Add64"], unfollowed := true, recurses := true, named := ["math/bits.divideError", "math/bits.overflowError"], apart := false, narrowed := true }
def FastMulsUptoSaid : Prop := fastMulsUptoRow.holds Try.pinned (OpenSpec.upto fastMulsSpec)

/-- 'conclavelaw04.FastBack', WHERE WHAT IT READS IS OF BULK AT MOST 1048576: true; the input reads as it did. -/
def fastBackUptoRow : OpenClaim := { program := "ytaegmhniepfdaaa", sum := "686d0f44fc3a9e7ec0ffae944608a750d855853de57e608de4935a33be3dc386", func := "conclave/conclavelaw04.FastBack", spec := "fastBack", inPlace := ["math/bits.Sub64", "math/bits.Add64"], unfollowed := true, recurses := true, named := ["math/bits.divideError", "math/bits.overflowError"], apart := false, narrowed := true }
def FastBackUptoSaid : Prop := fastBackUptoRow.holds Try.pinned (OpenSpec.upto fastBackSpec)

/-- 'conclavelaw04.FastRounds', WHERE WHAT IT READS IS OF BULK AT MOST 1048576: true; the input reads as it did. -/
def fastRoundsUptoRow : OpenClaim := { program := "ytaegmhniepfdaaa", sum := "686d0f44fc3a9e7ec0ffae944608a750d855853de57e608de4935a33be3dc386", func := "conclave/conclavelaw04.FastRounds", spec := "fastRounds", inPlace := ["math/bits.Sub64", "math/bits.Add64"], unfollowed := true, recurses := true, named := ["math/bits.divideError", "math/bits.overflowError"], apart := false, narrowed := true }
def FastRoundsUptoSaid : Prop := fastRoundsUptoRow.holds Try.pinned (OpenSpec.upto fastRoundsSpec)

end Rows
end Go.Proofs.Ytaegmhniepfdaaa
