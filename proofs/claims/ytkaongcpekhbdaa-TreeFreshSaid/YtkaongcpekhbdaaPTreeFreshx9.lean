/- The Go functions as Lean functions, each with the proof that its call comes to just that; written by a program of this session, by the words of the print. -/
import Derived.Test.YtkaongcpekhbdaaPTreeFreshx0
import Derived.RangeFuncNested
import Derived.RangeFuncBound
import Derived.RangeFuncCalls
import Derived.RangeFuncLeaves
import Derived.Shelf.Abstract
import Derived.Shelf.RegionOpen
import Derived.OwnWalkIn
import Derived.TacticsInMore
import Derived.LoopNIn
import Derived.LoopIn
import Derived.Test.YtkaongcpekhbdaaMTreeFresh
namespace Go.Proofs.Ytkaongcpekhbdaa.PTreeFresh
open Go.RowKit Go.Proofs.YtkaongcpekhbdaaW.PrintWords Go.Proofs.YtkaongcpekhbdaaW.PrintLast Go.Proofs.YtkaongcpekhbdaaW.PrintMore
attribute [local go_sem] max2_int min2_int max_two min_two max_three min_three max_four min_four   -- for this text's walks alone
set_option linter.unusedVariables false
set_option linter.unusedSimpArgs false
/-! ### slices_Backward_uint64_uint64_1: function 74, by hand -/
open Go.Shelf
section
attribute [local go_sem] Oper.semAt_some
/-- The first k of the things that come. -/
def upto {α : Type} (g : Nat → α) (k : Nat) : List α := (List.range k).map g
theorem upto_succ {α : Type} (g : Nat → α) (k : Nat) : upto g (k + 1) = upto g k ++ [g k] := by simp [upto, List.range_succ]
theorem upto_length {α : Type} (g : Nat → α) (k : Nat) : (upto g k).length = k := by simp [upto]
def BKp (n₀ Bs : Nat) (W W' : World) : Prop := Below n₀ W W' ∧ W'.heap[Bs]? = W.heap[Bs]?
theorem BKp.t {n₀ Bs : Nat} {A B C : World} (h : BKp n₀ Bs A B) (k : BKp n₀ Bs B C) : BKp n₀ Bs A C := ⟨h.1.trans k.1, k.2.trans h.2⟩
theorem BKp.b {n₀ Bs : Nat} {w : World} (hn : n₀ ≤ w.heap.size) (hB : Bs < w.heap.size) (W : World) (l : Nat) (o o' : Obj) (hl : w.heap.size ≤ l) (h : W.heap[l]? = some o) (hc : o.isCells = false) (hw : o.isWalk = false) : BKp n₀ Bs W (W.putObj l o') :=
 ⟨belowK_b hn W l o o' hl h hc hw, World.putObj_heap_other (by omega)⟩
set_option maxRecDepth 100000 in
set_option maxHeartbeats 2000000 in
theorem back1_in (F : Fence) (n : Nat) (h55 : F.fn 74) (hro : F.round = none) (hn : 1 ≤ n) (l Bs : Nat) (w0 : World) (A : Option Addr) (cap : Nat) (zs : List Int) (hC : Kd.C (Kd.int .u64) w0 A zs.length zs) {α : Type} (encs : α → Array Value) (g : Nat → α) (hgx : ∀ j, j < zs.length → encs (g j) = #[.int .i64 ((zs.length - 1 - j : Nat) : Int), .int .u64 (rd zs ((zs.length - 1 - j : Nat) : Int))]) (J Jx : List α → World → Prop)
  (hY : ∀ pre x W, J pre W → pre.length < zs.length → YieldAt F (n - 1) Try.prog l (encs x) W fun e W' =>
   (e = .returned (.bool true) ∧ J (pre ++ [x]) W' ∧ BKp w0.heap.size Bs W W') ∨ (e = .returned (.bool false) ∧ Jx (pre ++ [x]) W'))
  (W : World) (hW : Below w0.heap.size w0 W) (hBs : W.cell? ⟨Bs, 0, none⟩ = some (.slice A zs.length cap)) (h0 : J [] W) :
  CallsIn F n Try.prog 74 #[.func (.yield l) #[] #[], .pointer (some ⟨Bs, 0, none⟩)] W fun e W' => (∃ v, e = .returned v) ∧
   ((∃ ys, ys = upto g zs.length ∧ J ys W') ∨ (∃ pre, (∃ k, k ≤ zs.length ∧ pre = upto g k) ∧ Jx pre W')) := by
 have hmax := Kd.C_max hC
 have hCx := Aside0.mk hC
 clear hC
 refine callsIn_of_wp Try.func74 rfl h55 ?_ hro
 simp only [Try.ntmps74, List.size_toArray, List.length_cons, List.length_nil, Nat.reduceAdd, Nat.reduceSub, Array.replicate_succ, Array.replicate_zero, List.push_toArray, List.append_toArray, List.nil_append, List.cons_append]
 gi_wp2
 gi_loopw [3] (fun i wr => ∃ k : Nat, k ≤ zs.length ∧ i = .int .i64 ((zs.length : Int) - 1 - k) ∧ J (upto g k) wr ∧ Below w0.heap.size w0 wr ∧ wr.cell? ⟨Bs, 0, none⟩ = some (.slice A zs.length cap))
  (fun i _ => ((intOf i) + 1).toNat)
 case atStart => exact ⟨0, Nat.zero_le _, by congr 1; omega, h0, hW, hBs⟩
 case round =>
  obtain ⟨k, hk, rfl, hJs, hnx, hBx⟩ := hrel
  by_cases hlt : k < zs.length
  ·have hC2 := Kd.C_below hCx.out hnx
   have hi : (zs.length : Int) - 1 - k = ((zs.length - 1 - k : Nat) : Int) := by omega
   obtain ⟨ad, c, hA, hcl, hcr, hcell⟩ := ReadsRow.get_ hC2 0 ((zs.length - 1 - k : Nat) : Int) (by omega) (by omega)
   replace hcr : c = [.int .u64 (rd zs ((zs.length - 1 - k : Nat) : Int))] := hcr
   subst hcr
   have hcc := hcell 0 _ rfl
   rw [show (Kd.int .u64).sz = 1 from rfl, Nat.mul_one, Nat.add_zero, Int.toNat_natCast] at hcc
   subst hA
   clear hcell hcl hC2
   obtain ⟨fn, tmps, assign, body, hy, hR⟩ := hY _ (g k) wr hJs (by rw [upto_length]; exact hlt)
   rw [hgx k hlt] at hy
   rw [hi]
   generalize hm : zs.length - 1 - k = m at *
   have hmlt : m < zs.length := by omega
   gi_wp2
   refine hR.mono ?_
   rintro e W3 (⟨rfl, hJ3, hk3⟩ | ⟨rfl, hJx3⟩)
   ·have hB3 : W3.cell? ⟨Bs, 0, none⟩ = some (.slice (some ad) zs.length cap) := (World.cell?_of_block (a := ⟨Bs, 0, none⟩) hk3.2).trans hBx
    gi_wp2
    go_roundw
    case rel => exact ⟨k + 1, by omega, by congr 1; omega, by rw [upto_succ]; exact hJ3, hnx.trans hk3.1, hB3⟩
    case measure => simp [intOf]
   ·gi_wp2
    refine bodyPost_ret (results_none rfl _ _ _) rfl ?_
    exact ⟨⟨_, rfl⟩, .inr ⟨_, ⟨k + 1, by omega, by rw [upto_succ]⟩, hJx3⟩⟩
  ·obtain rfl : k = zs.length := by omega
   gi_wp2
   go_end0
   exact ⟨⟨_, rfl⟩, .inl ⟨_, rfl, hJs⟩⟩
theorem back_stops (F : Fence) (n : Nat) (h55 : F.fn 74) (hro : F.round = none) (hn : 1 ≤ n) (Bs : Nat) (w0 : World) (A : Option Addr) (cap : Nat) (zs : List Int) (hC : Kd.C (Kd.int .u64) w0 A zs.length zs) {α : Type} (encs : α → Array Value) (g : Nat → α) (hgx : ∀ j, j < zs.length → encs (g j) = #[.int .i64 ((zs.length - 1 - j : Nat) : Int), .int .u64 (rd zs ((zs.length - 1 - j : Nat) : Int))])
  (w : World) (hw : Below w0.heap.size w0 w) (hBs : w.cell? ⟨Bs, 0, none⟩ = some (.slice A zs.length cap)) :
  SeqStopsK F n Try.prog 74 #[.pointer (some ⟨Bs, 0, none⟩)] encs (BKp w0.heap.size Bs) (fun ys => ys = upto g zs.length) (fun pre => ∃ k, k ≤ zs.length ∧ pre = upto g k) zs.length w := fun l J Jx W hW _ _ hY h0 =>
 back1_in F n h55 hro hn l Bs w0 A cap zs hC encs g hgx J Jx hY W (hw.trans (hW.mono hw.size)) (pw_cell_below hW hBs) h0
end
end Go.Proofs.Ytkaongcpekhbdaa.PTreeFresh
