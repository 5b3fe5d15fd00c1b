/- The Go functions as Lean functions, each with the proof that its call comes to just that; written by a program of this session, by the words of the print. -/
import Derived.Test.YtbjanbbjjnoecaaProg
import Derived.Below
import Derived.Deep.Draws
import Derived.Deep.AppendLies
import Derived.Maps.AppendAt
import Derived.OwnWalk
import Derived.Laws.BytesArg
import Derived.Laws.MakeOwn
import Derived.Laws.OwnMore
import Derived.Deep.OwnRows
import Derived.Tactics
import Derived.Lib.ConvBytes
import Derived.Laws.Slices
import Derived.WalkKit
import Derived.KernelRfl
import Derived.RowKit3
import Derived.Deep.LoopGhost
import Derived.Deep.QuietTactic
import Derived.BigQuiet
import Derived.WideLaws
import Derived.Deep.DeepCutAuto
import Derived.Deep.CutBlock
import Derived.Deep.RegionHeld3
import Derived.Laws.Rows
import Derived.Lib.AppendStr
import Derived.ArgAppend
import Derived.Laws.IdiomCopy
import Derived.OrdersHeld
import Derived.Laws.BitsLemmas
import Derived.RowKit
import Derived.Laws.Externs
import Derived.WalkSpells
import Derived.Test.YtbjanbbjjnoecaaWWords
import Derived.Test.YtbjanbbjjnoecaaWLast
import Derived.Test.YtbjanbbjjnoecaaWTab
import Derived.Test.YtbjanbbjjnoecaaWFour
import Derived.Test.YtbjanbbjjnoecaaWQPut
import Derived.Test.YtbjanbbjjnoecaaWApart
import Derived.Test.YtbjanbbjjnoecaaWArr
import Derived.Test.YtbjanbbjjnoecaaWZeros
import Derived.Test.YtbjanbbjjnoecaaWFoot
import Derived.Test.YtbjanbbjjnoecaaWKept
import Derived.Test.YtbjanbbjjnoecaaWShare
import Derived.Test.YtbjanbbjjnoecaaWN
import Derived.Test.YtbjanbbjjnoecaaWFootNe
import Derived.Test.YtbjanbbjjnoecaaWAt
import Derived.Test.YtbjanbbjjnoecaaWEqStruct
import Derived.Test.YtbjanbbjjnoecaaWRepsOne
import Derived.Test.YtbjanbbjjnoecaaWInv
import Derived.Test.YtbjanbbjjnoecaaWInvWords
import Derived.Test.YtbjanbbjjnoecaaWGuard
import Derived.Test.YtbjanbbjjnoecaaWNEv
import Derived.Test.YtbjanbbjjnoecaaWMore
namespace Go.Proofs.Ytbjanbbjjnoecaa.PPolyTrims
open Go.RowKit Go.Proofs.YtbjanbbjjnoecaaW.PrintWords Go.Proofs.YtbjanbbjjnoecaaW.PrintLast Go.Proofs.YtbjanbbjjnoecaaW.PrintMore
attribute [local go_sem] max2_int min2_int max_two min_two max_three min_three max_four min_four   -- for this text's walks alone
set_option linter.unusedVariables false
set_option linter.unusedSimpArgs false



def errW : Option Int → Value
  | none => .nilIface
  | some c => .iface 0 (.int .i64 c)
theorem errW_none : errW none = .nilIface := rfl
theorem errW_some (c : Int) : errW (some c) = .iface 0 (.int .i64 c) := rfl

theorem info34 : (Try.prog.info? 34).map (fun i => (i.zero, i.size, i.bytes)) = some (some (.int .u64 0), 1, 8) := by kernel_rfl
-- the values' own types

end Go.Proofs.Ytbjanbbjjnoecaa.PPolyTrims
