/- The Go functions as Lean functions, each with the proof that its call comes to just that; written by a program of this session, by the words of the print. -/
import Derived.Test.YthlmfgnmljhdbaaProg
import Derived.Below
import Derived.Deep.Draws
import Derived.Deep.AppendLies
import Derived.Maps.AppendAt
import Derived.OwnWalk
import Derived.Laws.BytesArg
import Derived.Laws.MakeOwn
import Derived.Laws.OwnMore
import Derived.Deep.OwnRows
import Derived.Tactics
import Derived.Lib.ConvBytes
import Derived.Laws.Slices
import Derived.WalkKit
import Derived.KernelRfl
import Derived.RowKit3
import Derived.Deep.LoopGhost
import Derived.Deep.QuietTactic
import Derived.BigQuiet
import Derived.WideLaws
import Derived.Deep.DeepCutAuto
import Derived.Deep.CutBlock
import Derived.Deep.RegionHeld3
import Derived.Laws.Rows
import Derived.Lib.AppendStr
import Derived.ArgAppend
import Derived.Laws.IdiomCopy
import Derived.OrdersHeld
import Derived.Laws.BitsLemmas
import Derived.RowKit
import Derived.Laws.Externs
import Derived.Test.YthlmfgnmljhdbaaWWords
import Derived.Test.YthlmfgnmljhdbaaWLast
import Derived.Test.YthlmfgnmljhdbaaWTab
import Derived.Test.YthlmfgnmljhdbaaWFour
import Derived.Test.YthlmfgnmljhdbaaWQPut
import Derived.Test.YthlmfgnmljhdbaaWApart
import Derived.Test.YthlmfgnmljhdbaaWArr
import Derived.Test.YthlmfgnmljhdbaaWZeros
import Derived.Test.YthlmfgnmljhdbaaWFoot
import Derived.Test.YthlmfgnmljhdbaaWKept
import Derived.Test.YthlmfgnmljhdbaaWShare
import Derived.Test.YthlmfgnmljhdbaaWN
import Derived.Test.YthlmfgnmljhdbaaWFootNe
import Derived.Test.YthlmfgnmljhdbaaWAt
import Derived.Test.YthlmfgnmljhdbaaWEqStruct
import Derived.Test.YthlmfgnmljhdbaaWRepsOne
import Derived.Test.YthlmfgnmljhdbaaWInv
import Derived.Test.YthlmfgnmljhdbaaWInvWords
import Derived.Test.YthlmfgnmljhdbaaWGuard
import Derived.Test.YthlmfgnmljhdbaaWNEv
import Derived.Test.YthlmfgnmljhdbaaWMore
namespace Go.Proofs.Ythlmfgnmljhdbaa.PFieldRing
open Go.RowKit Go.Proofs.YthlmfgnmljhdbaaW.PrintWords Go.Proofs.YthlmfgnmljhdbaaW.PrintLast Go.Proofs.YthlmfgnmljhdbaaW.PrintMore
attribute [local go_sem] max2_int min2_int max_two min_two max_three min_three max_four min_four   -- for this text's walks alone
set_option linter.unusedVariables false
set_option linter.unusedSimpArgs false



def errW : Option Int → Value
  | none => .nilIface
  | some c => .iface 0 (.int .i64 c)
theorem errW_none : errW none = .nilIface := rfl
theorem errW_some (c : Int) : errW (some c) = .iface 0 (.int .i64 c) := rfl

theorem info22 : (Try.prog.info? 22).map (fun i => (i.zero, i.size, i.bytes)) = some (some (.int .u64 0), 1, 8) := by kernel_rfl
-- the values' own types

def addLo (x y : Int) : Int := (((x.toNat + y.toNat) % 18446744073709551616 : Nat) : Int)
def addHi (x y : Int) : Int := (((x.toNat + y.toNat) / 18446744073709551616 : Nat) : Int)
def subLo (x y : Int) : Int := (((x.toNat + 18446744073709551616 - y.toNat) % 18446744073709551616 : Nat) : Int)
def subHi (x y : Int) : Int := ((if x.toNat < y.toNat then 1 else 0 : Nat) : Int)
@[go_sem] theorem run_Add6466 (x y : Int) (w : World) : (callFunc 66 #[.int .u64 x, .int .u64 y, .int .u64 0]).run Try.prog w = .ok (.value (.tuple #[.int .u64 (addLo x y), .int .u64 (addHi x y)])) w := by
  rw [run_callFunc_extern Try.func66 (by kernel_rfl) (by kernel_rfl) (by kernel_rfl) (e := (Extern.find Try.f66).getD default) (by kernel_rfl)]
  kernel_rfl
@[go_sem] theorem run_Sub6467 (x y : Int) (w : World) : (callFunc 67 #[.int .u64 x, .int .u64 y, .int .u64 0]).run Try.prog w = .ok (.value (.tuple #[.int .u64 (subLo x y), .int .u64 (subHi x y)])) w := by
  rw [run_callFunc_extern Try.func67 (by kernel_rfl) (by kernel_rfl) (by kernel_rfl) (e := (Extern.find Try.f67).getD default) (by kernel_rfl)]
  kernel_rfl

theorem C_arr3 {x0 x1 x2 : Int} {w : World} {g T : Nat} (h : w.heap[g]? = some (.cells #[.int .u64 x0, .int .u64 x1, .int .u64 x2] T (0, 0))) : Kd.C (Kd.int .u64) w (some ⟨g, 0, none⟩) ([x0, x1, x2] : List Int).length ([x0, x1, x2] : List Int) := by
  refine ⟨rfl, by simp, fun _ => ⟨_, rfl, fun j p hj => ?_⟩⟩
  refine ⟨[.int .u64 p], rfl, rfl, fun i u hu => ?_⟩
  have hc : ∀ n : Nat, w.cell? ⟨g, n, none⟩ = (#[.int .u64 x0, .int .u64 x1, .int .u64 x2] : Array Value)[n]? := fun n => blk_cell h n
  have hi : i = 0 := by
    cases i with
    | zero => rfl
    | succ i => simp at hu
  subst hi
  simp at hu
  subst hu
  have e : (⟨g, 0, none⟩ : Addr).add (j * 1 + 0) = ⟨g, j, none⟩ := by simp [Addr.add]; omega
  show w.cell? ((⟨g, 0, none⟩ : Addr).add (j * 1 + 0)) = _
  rw [e, hc]
  have hj2 : j < 3 := by
    rcases Nat.lt_or_ge j 3 with h | h
    · exact h
    · rw [List.getElem?_eq_none (by simpa using h)] at hj; cases hj
  match j, hj2 with
  | 0, _ => simpa using hj
  | 1, _ => simpa using hj
  | 2, _ => simpa using hj
end Go.Proofs.Ythlmfgnmljhdbaa.PFieldRing
