/- The Go functions as Lean functions, each with the proof that its call comes to just that; written by a program of this session, by the words of the print. -/
import Derived.Test.YtkaongcpekhbdaaPTreeNoughtsx0
import Derived.Test.YtkaongcpekhbdaaPTreeNoughtsx5
import Derived.Test.YtkaongcpekhbdaaPTreeNoughtsx8
import Derived.Test.YtkaongcpekhbdaaPTreeNoughtsx12
import Derived.Test.YtkaongcpekhbdaaPTreeNoughtsx13
namespace Go.Proofs.Ytkaongcpekhbdaa.PTreeNoughts
open Go.RowKit Go.Proofs.YtkaongcpekhbdaaW.PrintWords Go.Proofs.YtkaongcpekhbdaaW.PrintLast Go.Proofs.YtkaongcpekhbdaaW.PrintMore
attribute [local go_sem] max2_int min2_int max_two min_two max_three min_three max_four min_four   -- for this text's walks alone
set_option linter.unusedVariables false
set_option linter.unusedSimpArgs false
/-! ### conclavelaw06_TreeNoughts: function 7 -/
mutual
def conclavelaw06_TreeNoughts.j0 : Nat → Int → Int → List Int → List Int → List Int → Int → List (List (List Int)) → Int → Bool → Option (Bool)
 | 0, _, _, _, _, _, _, _, _, _ => none
 | k + 1, x2, x7, x8, x9, x10, x11, x12, x13, x62 => if x62 = true then ((conclavelaw06_anchored.f k).bind fun t469 => (if t469 = true then (if x11 = 0 then ((cr3_Bad.f k x7 x9 ([] : List Int)).bind fun t470 => (some (t470 == 0))) else (some true)) else (none))) else (conclavelaw06_TreeNoughts.l0 k x2 x7 x8 x9 x10 x11 x12 x13 false ([] : List (List Int)) 0)
def conclavelaw06_TreeNoughts.l0 : Nat → Int → Int → List Int → List Int → List Int → Int → List (List (List Int)) → Int → Bool → List (List Int) → Int → Option (Bool)
 | 0, _, _, _, _, _, _, _, _, _, _, _ => none
 | k + 1, x2, x7, x8, x9, x10, x11, x12, x13, x14, x15, x16 => if x16 < (x9.length : Int) then (if x14 = true then (if 0 ≤ x16 then ((cr6_Factor.f x7 (rd x9 x16)).bind fun t472 => (if x15.length < 5864062014805 then (conclavelaw06_TreeNoughts.l0 k x2 x7 x8 x9 x10 x11 x12 x13 true (x15 ++ [t472]) (wrap64 (x16 + 1))) else (none))) else (none)) else (if 0 ≤ x16 then ((cr6_Factor.f x7 (rd x9 x16)).bind fun t480 => (if x15.length < 5864062014805 then (conclavelaw06_TreeNoughts.l0 k x2 x7 x8 x9 x10 x11 x12 x13 ((rd x9 x16) == x2) (x15 ++ [t480]) (wrap64 (x16 + 1))) else (none))) else (none))) else ((cr3_Eval.f k x7 x10 x2).bind fun bt486 => ((tree_Remainders.f k x7 x8 x15).bind fun bt488 => ((tree_Values.f k x7 x8 x9).bind fun bt492 => (if x11 = 0 then (if x13 = 0 then (if bt488.2 = 0 then (if bt492.2 = 0 then (if bt486.1 = 0 then (if x14 = true then (if (x10.length : Int) = (wrap64 ((x9.length : Int) + 1)) then (if (bt488.1.length : Int) = (x9.length : Int) then (conclavelaw06_TreeNoughts.j2 k x9 x10 x12 bt488.1 bt492.1 ((bt492.1.length : Int) != (x9.length : Int))) else (conclavelaw06_TreeNoughts.j2 k x9 x10 x12 bt488.1 bt492.1 true)) else (conclavelaw06_TreeNoughts.j2 k x9 x10 x12 bt488.1 bt492.1 true)) else (conclavelaw06_TreeNoughts.j2 k x9 x10 x12 bt488.1 bt492.1 true)) else (if x14 = true then (conclavelaw06_TreeNoughts.j2 k x9 x10 x12 bt488.1 bt492.1 true) else (if (x10.length : Int) = (wrap64 ((x9.length : Int) + 1)) then (if (bt488.1.length : Int) = (x9.length : Int) then (conclavelaw06_TreeNoughts.j2 k x9 x10 x12 bt488.1 bt492.1 ((bt492.1.length : Int) != (x9.length : Int))) else (conclavelaw06_TreeNoughts.j2 k x9 x10 x12 bt488.1 bt492.1 true)) else (conclavelaw06_TreeNoughts.j2 k x9 x10 x12 bt488.1 bt492.1 true)))) else (conclavelaw06_TreeNoughts.j2 k x9 x10 x12 bt488.1 bt492.1 true)) else (conclavelaw06_TreeNoughts.j2 k x9 x10 x12 bt488.1 bt492.1 true)) else (conclavelaw06_TreeNoughts.j2 k x9 x10 x12 bt488.1 bt492.1 true)) else (conclavelaw06_TreeNoughts.j2 k x9 x10 x12 bt488.1 bt492.1 true)))))
def conclavelaw06_TreeNoughts.j2 : Nat → List Int → List Int → List (List (List Int)) → List (List Int) → List Int → Bool → Option (Bool)
 | 0, _, _, _, _, _, _ => none
 | k + 1, x9, x10, x12, x19, x21, x160 => if x160 = true then (none) else (conclavelaw06_TreeNoughts.l1 k x9 x10 x12 x19 x21 0)
def conclavelaw06_TreeNoughts.l1 : Nat → List Int → List Int → List (List (List Int)) → List (List Int) → List Int → Int → Option (Bool)
 | 0, _, _, _, _, _, _ => none
 | k + 1, x9, x10, x12, x19, x21, x23 => if x23 < (x9.length : Int) then (if 0 ≤ x23 then (if x23 ≤ (wrap64 (x23 + 1)) then (if (wrap64 (x23 + 1)) ≤ (x21.length : Int) then ((cr3_Trim.f k ((x21.take ((wrap64 (x23 + 1)) : Int).toNat).drop (x23 : Int).toNat)).bind fun t510 => (if x23 < (x19.length : Int) then ((cr1_Same.f k t510 (rd_L1 x19 x23)).bind fun t514 => (if t514 = true then (conclavelaw06_TreeNoughts.l1 k x9 x10 x12 x19 x21 (wrap64 (x23 + 1))) else (none))) else (none))) else (none)) else (none)) else (none)) else ((conclavelaw06_anchored.f k).bind fun t496 => (if t496 = true then (if (x9.length : Int) = 0 then (if (x12.length : Int) = 0 then (some true) else (if (x12.length : Int) > 0 then (if 0 ≤ (wrap64 ((x12.length : Int) - 1)) then (if (wrap64 ((x12.length : Int) - 1)) < (x12.length : Int) then (if ((rd_L2 x12 (wrap64 ((x12.length : Int) - 1))).length : Int) = 1 then (if 0 < ((rd_L2 x12 (wrap64 ((x12.length : Int) - 1))).length : Int) then ((cr1_Same.f k (rd_L1 (rd_L2 x12 (wrap64 ((x12.length : Int) - 1))) 0) x10).bind fun t500 => (some t500)) else (none)) else (none)) else (none)) else (none)) else (none))) else (if (x12.length : Int) > 0 then (if 0 ≤ (wrap64 ((x12.length : Int) - 1)) then (if (wrap64 ((x12.length : Int) - 1)) < (x12.length : Int) then (if ((rd_L2 x12 (wrap64 ((x12.length : Int) - 1))).length : Int) = 1 then (if 0 < ((rd_L2 x12 (wrap64 ((x12.length : Int) - 1))).length : Int) then ((cr1_Same.f k (rd_L1 (rd_L2 x12 (wrap64 ((x12.length : Int) - 1))) 0) x10).bind fun t504 => (some t504)) else (none)) else (none)) else (none)) else (none)) else (none))) else (none)))
end
def conclavelaw06_TreeNoughts.f (k : Nat) (a0 : Int) (l1_0 : List Int) (l1_1 : List Int) (a2 : Int) : Option (Bool) := (tree_Zero.f k a0 l1_1).bind fun bt456 => ((tree_Tree.f k a0 l1_1).bind fun bt460 => ((cr3_Bad.f k a0 l1_0 l1_1).bind fun t464 => (if t464 = 0 then ((cr3_Bad.f k a0 (([a2] : List Int)) ([] : List Int)).bind fun t468 => (if t468 = 0 then (if (l1_1.length : Int) > 200 then (conclavelaw06_TreeNoughts.j0 k a2 a0 l1_0 l1_1 bt456.1 bt456.2 bt460.1 bt460.2 true) else (conclavelaw06_TreeNoughts.j0 k a2 a0 l1_0 l1_1 bt456.1 bt456.2 bt460.1 bt460.2 (decide ((l1_0.length : Int) > 200)))) else (conclavelaw06_TreeNoughts.j0 k a2 a0 l1_0 l1_1 bt456.1 bt456.2 bt460.1 bt460.2 true))) else (conclavelaw06_TreeNoughts.j0 k a2 a0 l1_0 l1_1 bt456.1 bt456.2 bt460.1 bt460.2 true))))
theorem conclavelaw06_TreeNoughts.mono_l : ∀ k, (∀ y0 y1 y2 y3 y4 y5 y6 y7 y8, LeO (conclavelaw06_TreeNoughts.j0 k y0 y1 y2 y3 y4 y5 y6 y7 y8) (conclavelaw06_TreeNoughts.j0 (k + 1) y0 y1 y2 y3 y4 y5 y6 y7 y8)) ∧ (∀ y0 y1 y2 y3 y4 y5 y6 y7 y8 y9 y10, LeO (conclavelaw06_TreeNoughts.l0 k y0 y1 y2 y3 y4 y5 y6 y7 y8 y9 y10) (conclavelaw06_TreeNoughts.l0 (k + 1) y0 y1 y2 y3 y4 y5 y6 y7 y8 y9 y10)) ∧ (∀ y0 y1 y2 y3 y4 y5, LeO (conclavelaw06_TreeNoughts.j2 k y0 y1 y2 y3 y4 y5) (conclavelaw06_TreeNoughts.j2 (k + 1) y0 y1 y2 y3 y4 y5)) ∧ (∀ y0 y1 y2 y3 y4 y5, LeO (conclavelaw06_TreeNoughts.l1 k y0 y1 y2 y3 y4 y5) (conclavelaw06_TreeNoughts.l1 (k + 1) y0 y1 y2 y3 y4 y5))
 | 0 => ⟨fun _ _ _ _ _ _ _ _ _ r h => by simp [conclavelaw06_TreeNoughts.j0] at h, fun _ _ _ _ _ _ _ _ _ _ _ r h => by simp [conclavelaw06_TreeNoughts.l0] at h, fun _ _ _ _ _ _ r h => by simp [conclavelaw06_TreeNoughts.j2] at h, fun _ _ _ _ _ _ r h => by simp [conclavelaw06_TreeNoughts.l1] at h⟩
 | k + 1 => by
  obtain ⟨ih0, ih1, ih2, ih3⟩ := conclavelaw06_TreeNoughts.mono_l k
  refine ⟨?_, ?_, ?_, ?_⟩
  ·intro y0 y1 y2 y3 y4 y5 y6 y7 y8
   unfold conclavelaw06_TreeNoughts.j0
   repeat' first
   | (with_reducible exact ih0 _ _ _ _ _ _ _ _ _)
   | (with_reducible exact ih1 _ _ _ _ _ _ _ _ _ _ _)
   | (with_reducible exact ih2 _ _ _ _ _ _)
   | (with_reducible exact ih3 _ _ _ _ _ _)
   | (with_reducible exact conclavelaw06_anchored.mono _)
   | (with_reducible exact cr1_Same.mono _ _ _)
   | (with_reducible exact cr3_Bad.mono _ _ _ _)
   | (with_reducible exact cr3_Eval.mono _ _ _ _)
   | (with_reducible exact cr3_Trim.mono _ _)
   | (with_reducible exact tree_Remainders.mono _ _ _ _)
   | (with_reducible exact tree_Tree.mono _ _ _)
   | (with_reducible exact tree_Values.mono _ _ _ _)
   | (with_reducible exact tree_Zero.mono _ _ _)
   | (with_reducible exact LeO.refl _)
   | (with_reducible exact LeO.none _)
   | (with_reducible refine LeO.ite ?_ ?_)
   | (with_reducible refine LeO.bind ?_ (fun _ => ?_))
   | exact ih0 _ _ _ _ _ _ _ _ _
   | exact ih1 _ _ _ _ _ _ _ _ _ _ _
   | exact ih2 _ _ _ _ _ _
   | exact ih3 _ _ _ _ _ _
   | exact conclavelaw06_anchored.mono _
   | exact cr1_Same.mono _ _ _
   | exact cr3_Bad.mono _ _ _ _
   | exact cr3_Eval.mono _ _ _ _
   | exact cr3_Trim.mono _ _
   | exact tree_Remainders.mono _ _ _ _
   | exact tree_Tree.mono _ _ _
   | exact tree_Values.mono _ _ _ _
   | exact tree_Zero.mono _ _ _
   | exact LeO.none _
   | refine LeO.ite ?_ ?_
   | refine LeO.bind ?_ (fun _ => ?_)
  ·intro y0 y1 y2 y3 y4 y5 y6 y7 y8 y9 y10
   unfold conclavelaw06_TreeNoughts.l0
   repeat' first
   | (with_reducible exact ih0 _ _ _ _ _ _ _ _ _)
   | (with_reducible exact ih1 _ _ _ _ _ _ _ _ _ _ _)
   | (with_reducible exact ih2 _ _ _ _ _ _)
   | (with_reducible exact ih3 _ _ _ _ _ _)
   | (with_reducible exact conclavelaw06_anchored.mono _)
   | (with_reducible exact cr1_Same.mono _ _ _)
   | (with_reducible exact cr3_Bad.mono _ _ _ _)
   | (with_reducible exact cr3_Eval.mono _ _ _ _)
   | (with_reducible exact cr3_Trim.mono _ _)
   | (with_reducible exact tree_Remainders.mono _ _ _ _)
   | (with_reducible exact tree_Tree.mono _ _ _)
   | (with_reducible exact tree_Values.mono _ _ _ _)
   | (with_reducible exact tree_Zero.mono _ _ _)
   | (with_reducible exact LeO.refl _)
   | (with_reducible exact LeO.none _)
   | (with_reducible refine LeO.ite ?_ ?_)
   | (with_reducible refine LeO.bind ?_ (fun _ => ?_))
   | exact ih0 _ _ _ _ _ _ _ _ _
   | exact ih1 _ _ _ _ _ _ _ _ _ _ _
   | exact ih2 _ _ _ _ _ _
   | exact ih3 _ _ _ _ _ _
   | exact conclavelaw06_anchored.mono _
   | exact cr1_Same.mono _ _ _
   | exact cr3_Bad.mono _ _ _ _
   | exact cr3_Eval.mono _ _ _ _
   | exact cr3_Trim.mono _ _
   | exact tree_Remainders.mono _ _ _ _
   | exact tree_Tree.mono _ _ _
   | exact tree_Values.mono _ _ _ _
   | exact tree_Zero.mono _ _ _
   | exact LeO.none _
   | refine LeO.ite ?_ ?_
   | refine LeO.bind ?_ (fun _ => ?_)
  ·intro y0 y1 y2 y3 y4 y5
   unfold conclavelaw06_TreeNoughts.j2
   repeat' first
   | (with_reducible exact ih0 _ _ _ _ _ _ _ _ _)
   | (with_reducible exact ih1 _ _ _ _ _ _ _ _ _ _ _)
   | (with_reducible exact ih2 _ _ _ _ _ _)
   | (with_reducible exact ih3 _ _ _ _ _ _)
   | (with_reducible exact conclavelaw06_anchored.mono _)
   | (with_reducible exact cr1_Same.mono _ _ _)
   | (with_reducible exact cr3_Bad.mono _ _ _ _)
   | (with_reducible exact cr3_Eval.mono _ _ _ _)
   | (with_reducible exact cr3_Trim.mono _ _)
   | (with_reducible exact tree_Remainders.mono _ _ _ _)
   | (with_reducible exact tree_Tree.mono _ _ _)
   | (with_reducible exact tree_Values.mono _ _ _ _)
   | (with_reducible exact tree_Zero.mono _ _ _)
   | (with_reducible exact LeO.refl _)
   | (with_reducible exact LeO.none _)
   | (with_reducible refine LeO.ite ?_ ?_)
   | (with_reducible refine LeO.bind ?_ (fun _ => ?_))
   | exact ih0 _ _ _ _ _ _ _ _ _
   | exact ih1 _ _ _ _ _ _ _ _ _ _ _
   | exact ih2 _ _ _ _ _ _
   | exact ih3 _ _ _ _ _ _
   | exact conclavelaw06_anchored.mono _
   | exact cr1_Same.mono _ _ _
   | exact cr3_Bad.mono _ _ _ _
   | exact cr3_Eval.mono _ _ _ _
   | exact cr3_Trim.mono _ _
   | exact tree_Remainders.mono _ _ _ _
   | exact tree_Tree.mono _ _ _
   | exact tree_Values.mono _ _ _ _
   | exact tree_Zero.mono _ _ _
   | exact LeO.none _
   | refine LeO.ite ?_ ?_
   | refine LeO.bind ?_ (fun _ => ?_)
  ·intro y0 y1 y2 y3 y4 y5
   unfold conclavelaw06_TreeNoughts.l1
   repeat' first
   | (with_reducible exact ih0 _ _ _ _ _ _ _ _ _)
   | (with_reducible exact ih1 _ _ _ _ _ _ _ _ _ _ _)
   | (with_reducible exact ih2 _ _ _ _ _ _)
   | (with_reducible exact ih3 _ _ _ _ _ _)
   | (with_reducible exact conclavelaw06_anchored.mono _)
   | (with_reducible exact cr1_Same.mono _ _ _)
   | (with_reducible exact cr3_Bad.mono _ _ _ _)
   | (with_reducible exact cr3_Eval.mono _ _ _ _)
   | (with_reducible exact cr3_Trim.mono _ _)
   | (with_reducible exact tree_Remainders.mono _ _ _ _)
   | (with_reducible exact tree_Tree.mono _ _ _)
   | (with_reducible exact tree_Values.mono _ _ _ _)
   | (with_reducible exact tree_Zero.mono _ _ _)
   | (with_reducible exact LeO.refl _)
   | (with_reducible exact LeO.none _)
   | (with_reducible refine LeO.ite ?_ ?_)
   | (with_reducible refine LeO.bind ?_ (fun _ => ?_))
   | exact ih0 _ _ _ _ _ _ _ _ _
   | exact ih1 _ _ _ _ _ _ _ _ _ _ _
   | exact ih2 _ _ _ _ _ _
   | exact ih3 _ _ _ _ _ _
   | exact conclavelaw06_anchored.mono _
   | exact cr1_Same.mono _ _ _
   | exact cr3_Bad.mono _ _ _ _
   | exact cr3_Eval.mono _ _ _ _
   | exact cr3_Trim.mono _ _
   | exact tree_Remainders.mono _ _ _ _
   | exact tree_Tree.mono _ _ _
   | exact tree_Values.mono _ _ _ _
   | exact tree_Zero.mono _ _ _
   | exact LeO.none _
   | refine LeO.ite ?_ ?_
   | refine LeO.bind ?_ (fun _ => ?_)
theorem conclavelaw06_TreeNoughts.mono : ∀ a0 a1 a2 a3 k, LeO (conclavelaw06_TreeNoughts.f k a0 a1 a2 a3) (conclavelaw06_TreeNoughts.f (k + 1) a0 a1 a2 a3) := by
 intro a0 a1 a2 a3 k
 obtain ⟨ih0, ih1, ih2, ih3⟩ := conclavelaw06_TreeNoughts.mono_l k
 unfold conclavelaw06_TreeNoughts.f
 repeat' first
   | (with_reducible exact ih0 _ _ _ _ _ _ _ _ _)
   | (with_reducible exact ih1 _ _ _ _ _ _ _ _ _ _ _)
   | (with_reducible exact ih2 _ _ _ _ _ _)
   | (with_reducible exact ih3 _ _ _ _ _ _)
   | (with_reducible exact conclavelaw06_anchored.mono _)
   | (with_reducible exact cr1_Same.mono _ _ _)
   | (with_reducible exact cr3_Bad.mono _ _ _ _)
   | (with_reducible exact cr3_Eval.mono _ _ _ _)
   | (with_reducible exact cr3_Trim.mono _ _)
   | (with_reducible exact tree_Remainders.mono _ _ _ _)
   | (with_reducible exact tree_Tree.mono _ _ _)
   | (with_reducible exact tree_Values.mono _ _ _ _)
   | (with_reducible exact tree_Zero.mono _ _ _)
   | (with_reducible exact LeO.refl _)
   | (with_reducible exact LeO.none _)
   | (with_reducible refine LeO.ite ?_ ?_)
   | (with_reducible refine LeO.bind ?_ (fun _ => ?_))
   | exact ih0 _ _ _ _ _ _ _ _ _
   | exact ih1 _ _ _ _ _ _ _ _ _ _ _
   | exact ih2 _ _ _ _ _ _
   | exact ih3 _ _ _ _ _ _
   | exact conclavelaw06_anchored.mono _
   | exact cr1_Same.mono _ _ _
   | exact cr3_Bad.mono _ _ _ _
   | exact cr3_Eval.mono _ _ _ _
   | exact cr3_Trim.mono _ _
   | exact tree_Remainders.mono _ _ _ _
   | exact tree_Tree.mono _ _ _
   | exact tree_Values.mono _ _ _ _
   | exact tree_Zero.mono _ _ _
   | exact LeO.none _
   | refine LeO.ite ?_ ?_
   | refine LeO.bind ?_ (fun _ => ?_)
def conclavelaw06_TreeNoughts.T22 : Bool × List (List Nat × List Nat) := (true, [([], []), ([], []), ([], []), ([2], [2]), ([0, 1, 3], [0, 1, 3]), ([4], [4]), ([], []), ([], []), ([6, 7], [6, 7]), ([8], [8]), ([5, 9, 5], [5, 9]), ([10], [10])])
def conclavelaw06_TreeNoughts.B22 : List Nat := [0, 0, 0, 4, 15, 31, 0, 0, 192, 448, 1023, 2047]
theorem conclavelaw06_TreeNoughts.tab22 : rtab .any (opsOf Try.f7 22) = conclavelaw06_TreeNoughts.T22 := by kernel_rfl
theorem conclavelaw06_TreeNoughts.bits22 : waitsOk conclavelaw06_TreeNoughts.T22.2 conclavelaw06_TreeNoughts.B22 = true := by kernel_rfl
set_option maxHeartbeats 8000000 in
set_option maxRecDepth 100000 in
theorem conclavelaw06_TreeNoughts.calls (k : Nat) (a0 : Int) (A1_0 : Option Addr) (c1_0 : Nat) (l1_0 : List Int) (A1_1 : Option Addr) (c1_1 : Nat) (l1_1 : List Int) (a2 : Int) (r : Bool) (w : World) (hr1_0 : Kd.C (Kd.int .u64) w A1_0 l1_0.length l1_0) (hc1_0 : l1_0.length ≤ c1_0) (hr1_1 : Kd.C (Kd.int .u64) w A1_1 l1_1.length l1_1) (hc1_1 : l1_1.length ≤ c1_1) (h : conclavelaw06_TreeNoughts.f k a0 l1_0 l1_1 a2 = some r) :
  Calls Try.prog 7 #[.int .u8 a0, .agg #[.slice A1_0 l1_0.length c1_0, .slice A1_1 l1_1.length c1_1], .int .u64 a2] w fun e w' => e = .returned (.bool r) ∧ Below w.heap.size w w' := by
 have hu48 := Try.underlying48
 have HR1_0 := Aside0.mk hr1_0
 have HC1_0 := Aside0.mk hc1_0
 clear hr1_0 hc1_0
 have HR1_1 := Aside0.mk hr1_1
 have HC1_1 := Aside0.mk hc1_1
 clear hr1_1 hc1_1
 have HB := A_ (Below.refl w.heap.size w)
 have H : ((tree_Zero.f k a0 l1_1).bind fun bt456 => ((tree_Tree.f k a0 l1_1).bind fun bt460 => ((cr3_Bad.f k a0 l1_0 l1_1).bind fun t464 => (if t464 = 0 then ((cr3_Bad.f k a0 (([a2] : List Int)) ([] : List Int)).bind fun t468 => (if t468 = 0 then (if (l1_1.length : Int) > 200 then (conclavelaw06_TreeNoughts.j0 k a2 a0 l1_0 l1_1 bt456.1 bt456.2 bt460.1 bt460.2 true) else (conclavelaw06_TreeNoughts.j0 k a2 a0 l1_0 l1_1 bt456.1 bt456.2 bt460.1 bt460.2 (decide ((l1_0.length : Int) > 200)))) else (conclavelaw06_TreeNoughts.j0 k a2 a0 l1_0 l1_1 bt456.1 bt456.2 bt460.1 bt460.2 true))) else (conclavelaw06_TreeNoughts.j0 k a2 a0 l1_0 l1_1 bt456.1 bt456.2 bt460.1 bt460.2 true))))) = some r := h
 clear h
 replace H := Option.bind_eq_some_iff.mp H
 obtain ⟨⟨t456, t459⟩, A40, H⟩ := H
 (try dsimp only at H)
 have A4 := Aside0.mk A40
 clear A40
 replace H := Option.bind_eq_some_iff.mp H
 obtain ⟨⟨t460, t463⟩, A50, H⟩ := H
 (try dsimp only at H)
 have A5 := Aside0.mk A50
 clear A50
 have HC6 := Aside0.mk H
 clear H
 go_enter Try.func7, Try.ntmps7
 try go_wp2_with (first | ((with_reducible refine gate_dst (N := 4) rfl ?_); (try (refine gate_guard (by rfl) ?_; dsimp only)); refine box_event ?hg (N := 4) ?hd (cs := #[.slice A1_0 l1_0.length c1_0, .slice A1_1 l1_1.length c1_1]) (t := 48) ?hr ?_; (case hd => rfl); (case hg => rfl); (case hr => first | (go_simp; done) | (go_simp; rfl)); intro gb455 hg w7 hbox hb; have n0_ := A_ (below_step hb_ hb); have n1_ := A_ (hbox); have n2_ := A_ ((by rw [hg]; exact (below_size hb_) : w.heap.size ≤ gb455)); have n3_ := A_ ((by rw [hg]; exact (below_size hb_) : w.heap.size ≤ gb455)); clear HB; have HB := n0_; have BK455 := n1_; have GW455 := n2_; have GE455 := n3_; clear n0_ n1_ n2_ n3_; clear hb hbox hg))
 have n0_ := A_ (blk_drew BK455.out)
 have n1_ := A_ (below_drew1 HB.out)
 clear BK455
 clear HB
 have BK455 := n0_
 have HB := n1_
 clear n0_ n1_
 refine start_ (n := 6) (S := fun w' => w'.cell? ⟨gb455, 0, none⟩ = some (.slice A1_0 l1_0.length c1_0) ∧ w'.cell? ⟨gb455, 1, none⟩ = some (.slice A1_1 l1_1.length c1_1)) (ds := []) #[false, false, false, false, false, false] (by kernel_rfl) rfl rfl ⟨(blk_cell BK455.out 0).trans rfl, (blk_cell BK455.out 1).trans rfl⟩ (fun hHeld => ?_)
 generalize w7.drew = w8 at BK455 HB hHeld ⊢
 refine pure_ (i := 0) (N := some 25) (v := ?_) (a' := ?_) #[true, false, false, false, false, false] rfl rfl (by kernel_rfl) (fun _ _ _ h => h) (Or.inl ⟨by rfl, ?_⟩) ?_ ?_
 rotate_left
 ·intro w'
  go_simp
  with_reducible rfl
 rotate_left
 ·simp only [Act.put, List.setIfInBounds_toArray, List.set_cons_zero, List.set_cons_succ, i64_w, i32_w]
  rfl
 refine pure_ (i := 2) (N := some 27) (v := ?_) (a' := ?_) #[true, false, true, false, false, false] rfl rfl (by kernel_rfl) (fun _ _ _ h => h) (Or.inl ⟨by rfl, ?_⟩) ?_ ?_
 rotate_left
 ·intro w'
  go_simp
  with_reducible rfl
 rotate_left
 ·simp only [Act.put, List.setIfInBounds_toArray, List.set_cons_zero, List.set_cons_succ, i64_w, i32_w]
  rfl
 refine take_ (i := 1) (N := some 26) (v := ?_) (a' := ?_) #[true, true, true, false, false, false] rfl rfl (by kernel_rfl) (fun _ _ _ h => h) (Or.inl ⟨by rfl, ?_⟩) hHeld ?_ ?_
 rotate_left
 ·rintro w' ⟨s0, s1⟩
  go_simp
  with_reducible rfl
 rotate_left
 ·simp only [Act.put, List.setIfInBounds_toArray, List.set_cons_zero, List.set_cons_succ, i64_w, i32_w]
  rfl
 refine pure_ (i := 4) (N := some 8) (v := ?_) (a' := ?_) #[true, true, true, false, true, false] rfl rfl (by kernel_rfl) (fun _ _ _ h => h) (Or.inl ⟨by rfl, ?_⟩) ?_ ?_
 rotate_left
 ·intro w'
  go_simp
  with_reducible rfl
 rotate_left
 ·simp only [Act.put, List.setIfInBounds_toArray, List.set_cons_zero, List.set_cons_succ, i64_w, i32_w]
  rfl
 refine take_ (i := 3) (N := some 28) (v := ?_) (a' := ?_) #[true, true, true, true, true, false] rfl rfl (by kernel_rfl) (fun _ _ _ h => h) (Or.inl ⟨by rfl, ?_⟩) hHeld ?_ ?_
 rotate_left
 ·rintro w' ⟨s0, s1⟩
  go_simp
  with_reducible rfl
 rotate_left
 ·simp only [Act.put, List.setIfInBounds_toArray, List.set_cons_zero, List.set_cons_succ, i64_w, i32_w]
  rfl
 refine pure_ (i := 5) (N := some 9) (v := ?_) (a' := ?_) #[true, true, true, true, true, true] rfl rfl (by kernel_rfl) (fun _ _ _ h => h) (Or.inl ⟨by rfl, ?_⟩) ?_ ?_
 rotate_left
 ·intro w'
  go_simp
  with_reducible rfl
 rotate_left
 ·simp only [Act.put, List.setIfInBounds_toArray, List.set_cons_zero, List.set_cons_succ, i64_w, i32_w]
  rfl
 refine done_ (by kernel_rfl) ?_
 go_upto_region 5 with (first | ((with_reducible refine gate_callee (f := 15) rfl ?_); refine goesM_ (some 32) Try.func15 #[.int .u8 a0, .slice A1_1 l1_1.length c1_1] ?_; (with_reducible refine (tree_Zero.calls k a0 (fun k_ => k_ < w.heap.size) _ _ l1_1 t456 t459 _ ?side1 A4.out).mono ?_); (case side1 => exact Kd.V_mk HC1_1.out (Kd.F_below (Kd.C_F (Kd.heap_int .u64) HR1_1.out) hs_)); rintro e w9 ⟨v457, rfl, ho0, hb⟩; refine ⟨_, rfl, ?_⟩; have n0_ := A_ (Kd.V_lower (Kd.V_mono (ok' := fun k_ => k_ ≠ gb455) ho0 (fun k_ hk_ => Or.elim hk_ (fun hs_ => fun e_ => Nat.not_le.2 hs_ (by rw [e_]; exact GW455.out)) (fun hn_ => (Kd.freshB (g := gb455) (o := .cells #[.slice A1_0 l1_0.length c1_0, .slice A1_1 l1_1.length c1_1] 48 (0, 0)) (nb_ BK455) k_ hn_)))) (below_size hs_)); have n1_ := A_ (blk_below (g := gb455) (o := .cells #[.slice A1_0 l1_0.length c1_0, .slice A1_1 l1_1.length c1_1] 48 (0, 0)) (nb_ BK455) hb); have n2_ := A_ (below_step hs_ hb); clear BK455 HB; have HO458 := n0_; have BK455 := n1_; have HB := n2_; clear n0_ n1_ n2_; (try clear hb); (try clear ho0)) | ((with_reducible refine gate_callee (f := 17) rfl ?_); refine goesM_ (some 38) Try.func17 #[.int .u8 a0, .slice A1_1 l1_1.length c1_1] ?_; (with_reducible refine (tree_Tree.calls k a0 (fun k_ => k_ < w.heap.size) _ _ l1_1 t460 t463 _ ?side1 A5.out).mono ?_); (case side1 => exact Kd.V_mk HC1_1.out (Kd.F_below (Kd.C_F (Kd.heap_int .u64) HR1_1.out) hs_)); rintro e w10 ⟨v461, rfl, ho0, hb⟩; refine ⟨_, rfl, ?_⟩; have n0_ := A_ (Kd.V_elder' (nV_ HO458) (Kd.N_base ho0) hb); have n1_ := A_ (Kd.N_lower (Kd.N_mono (ok' := fun k_ => k_ ≠ gb455) ho0 (fun k_ hk_ => Or.elim hk_ (fun hs_ => fun e_ => Nat.not_le.2 hs_ (by rw [e_]; exact GW455.out)) (fun hn_ => (Kd.freshB (g := gb455) (o := .cells #[.slice A1_0 l1_0.length c1_0, .slice A1_1 l1_1.length c1_1] 48 (0, 0)) (nb_ BK455) k_ hn_)))) (below_size hs_)); have n2_ := A_ (blk_below (g := gb455) (o := .cells #[.slice A1_0 l1_0.length c1_0, .slice A1_1 l1_1.length c1_1] 48 (0, 0)) (nb_ BK455) hb); have n3_ := A_ (below_step hs_ hb); clear HO458 BK455 HB; have HO458 := n0_; have HO462 := n1_; have BK455 := n2_; have HB := n3_; clear n0_ n1_ n2_ n3_; (try clear hb); (try clear ho0)))
 (try simp only [Act.put, List.setIfInBounds_toArray, List.set_cons_zero, List.set_cons_succ])
 go_cut [62] (fun v62 wc => ∃ (kq : Nat) (x62_5 : Bool), v62 = .bool x62_5 ∧ Aside0 (conclavelaw06_TreeNoughts.j0 kq a2 a0 l1_0 l1_1 t456 t459 t460 t463 x62_5 = some r) ∧ Aside0 (kq ≤ k) ∧ Aside0 (Kd.V (Kd.int .u64) 49 wc w.heap.size (fun k_ => some k_ ≠ (v461 : Value).ownBlock ∧ k_ ≠ gb455) v457 t456) ∧ Aside0 (Kd.N (Kd.slice 22 (Kd.slice 49 (Kd.int .u64))) 23 wc w.heap.size (fun k_ => k_ ≠ gb455) v461 t460) ∧ Aside0 (wc.heap[gb455]? = some (.cells #[(.slice A1_0 l1_0.length c1_0), (.slice A1_1 l1_1.length c1_1)] 48 (0, 0))) ∧ Aside0 (Below w.heap.size w wc))
 case first =>
  as_aux_lemma =>
  have H := HC6.out
  clear HC6
  replace H := Option.bind_eq_some_iff.mp H
  obtain ⟨t464, A110, H⟩ := H
  (try dsimp only at H)
  have A11 := Aside0.mk A110
  clear A110
  by_cases c12 : t464 = 0
  ·rw [if_pos c12] at H
   have c12b0 : (t464 == 0) = true := beq_iff_eq.mpr c12
   have c12b1 : (t464 != 0) = false := bne_eq_false_iff_eq.mpr c12
   clear c12
   (first | rw [c12b0] | rw [c12b1] | (simp only [i64_w, i32_w]; first | rw [c12b0] | rw [c12b1]) | skip)
   obtain ⟨y465, hy465⟩ : ∃ y_ : List Int, y_ = (([a2] : List Int)) := ⟨_, rfl⟩
   replace H : ((cr3_Bad.f k a0 y465 ([] : List Int)).bind fun t468 => (if t468 = 0 then (if (l1_1.length : Int) > 200 then (conclavelaw06_TreeNoughts.j0 k a2 a0 l1_0 l1_1 t456 t459 t460 t463 true) else (conclavelaw06_TreeNoughts.j0 k a2 a0 l1_0 l1_1 t456 t459 t460 t463 (decide ((l1_0.length : Int) > 200)))) else (conclavelaw06_TreeNoughts.j0 k a2 a0 l1_0 l1_1 t456 t459 t460 t463 true))) = some r := by first | (rw [hy465]; with_reducible exact H) | (have H2_ := (Option.bind_some _ _).symm.trans H; rw [hy465]; with_reducible exact H2_) | (have H2_ := (Option.bind_some _ _).symm.trans H; with_reducible exact H2_) | with_reducible exact H | (rw [hy465]; exact H) | exact H
   have Ny465 := Aside0.mk hy465
   clear hy465
   replace H := Option.bind_eq_some_iff.mp H
   obtain ⟨t468, A130, H⟩ := H
   (try dsimp only at H)
   have A13 := Aside0.mk A130
   clear A130
   by_cases c14 : t468 = 0
   ·rw [if_pos c14] at H
    have c14b0 : (t468 == 0) = true := beq_iff_eq.mpr c14
    have c14b1 : (t468 != 0) = false := bne_eq_false_iff_eq.mpr c14
    clear c14
    by_cases c15 : (l1_1.length : Int) > 200
    ·rw [if_pos c15] at H
     have c15b0 : decide (200 < (l1_1.length : Int)) = true := decide_eq_true c15
     have c15b1 : decide (200 < l1_1.length) = true := decide_eq_true (by omega)
     clear c15
     have H' := Aside0.mk H
     clear H
     go_wp2_with (first | ((with_reducible refine gate_callee (f := 22) rfl ?_); refine goesM_ (some 44) Try.func22 #[.int .u8 a0, .slice A1_0 l1_0.length c1_0, .slice A1_1 l1_1.length c1_1] ?_; (with_reducible refine (cr3_Bad.calls k a0 _ _ l1_0 _ _ l1_1 t464 _ ?side1 ?side2 ?side3 ?side4 A11.out).mono ?_); (case side1 => repeat (first | exact (Kd.C_below HR1_0.out HB.out) | (with_reducible refine Kd.C_alloc ?_ _) | (with_reducible refine Kd.C_drewN ?_ _) | (with_reducible refine Kd.C_drew ?_))); (case side2 => exact HC1_0.out); (case side3 => repeat (first | exact (Kd.C_below HR1_1.out HB.out) | (with_reducible refine Kd.C_alloc ?_ _) | (with_reducible refine Kd.C_drewN ?_ _) | (with_reducible refine Kd.C_drew ?_))); (case side4 => exact HC1_1.out); rintro e w' ⟨rfl, ⟨nd, rfl⟩⟩; refine ⟨_, rfl, ?_⟩) | ((with_reducible refine gate_dst (N := 49) rfl ?_); (try (refine gate_guard (by rfl) ?_; dsimp only)); refine Kd.R_lit (Kd.int .u64) _ 49 ?hg (N := 49) ?hd (xs := ([a2] : List Int)) (inner := [.int .u64 a2]) (ok := fun _ => True) (okp := fun _ => True) ?hr ?hp (fun _ hk => hk) trivial (Below.refl _ _) (Nat.le_refl _) (by simp) ?_; (case hd => rfl); (case hg => rfl); (case hr => first | (go_simp; done) | (go_simp; rfl)); (case hp => exact (Reps.one (show Kd.M (Kd.int .u64) _ _ _ a2 [.int .u64 a2] from rfl) (Reps.none _ _))); intro v466 w16 ho17 hb hg_ hnew_; clear hg_ hnew_; (first | rw [← Ny465.out] at ho17 | (simp only [Int.reduceToNat] at ho17; rw [← Ny465.out] at ho17)); have n0_ := A_ (Kd.V_elder' (nV_ HO458) (Kd.R_base ho17) hb); have n1_ := A_ (Kd.N_elder' (nN_ HO462) (Kd.R_base ho17) hb); have n2_ := A_ (Kd.R_lower ho17 (below_size hs_)); have n3_ := A_ (blk_below (g := gb455) (o := .cells #[.slice A1_0 l1_0.length c1_0, .slice A1_1 l1_1.length c1_1] 48 (0, 0)) (nb_ BK455) hb); have n4_ := A_ (below_step hs_ hb); clear HO458 HO462 BK455 HB; have HO458 := n0_; have HO462 := n1_; have HO467 := n2_; have BK455 := n3_; have HB := n4_; clear n0_ n1_ n2_ n3_ n4_; clear hb ho17; obtain ⟨Ao18, co18, eo18⟩ := Kd.R_slice HO467.out; subst eo18) | (go_at_call 22; (refine (cr3_Bad.calls k a0 _ _ y465 _ _ ([] : List Int) t468 _ ?side1 ?side2 ?side3 ?side4 A13.out).mono ?_); (case side1 => repeat (first | exact (Kd.R_reads' HO467.out).2.2 | (with_reducible refine Kd.C_alloc ?_ _) | (with_reducible refine Kd.C_drewN ?_ _) | (with_reducible refine Kd.C_drew ?_))); (case side2 => exact (Kd.R_reads' HO467.out).2.1); (case side3 => exact Kd.C_nil _ _); (case side4 => exact Nat.le_refl _); rintro e w' ⟨rfl, ⟨nd, rfl⟩⟩))
     go_meet
     case rel => exact ⟨_, (true), (fs_), H', ⟨fo_⟩, ⟨by (with_reducible repeat (first | apply Kd.V_alloc | apply Kd.V_drewN | apply Kd.V_drew)); exact Kd.V_mono HO458.out (fun _ hk => ⟨hk.1.2, hk.1.1⟩)⟩, ⟨by (with_reducible repeat (first | apply Kd.N_alloc | apply Kd.N_drewN | apply Kd.N_drew)); exact Kd.N_mono HO462.out (fun _ hk => hk.1)⟩, ⟨mb_ BK455.out⟩, ⟨hs_⟩⟩
    ·rw [if_neg c15] at H
     have c15b0 : decide (200 < (l1_1.length : Int)) = false := decide_eq_false c15
     have c15b1 : decide (200 < l1_1.length) = false := decide_eq_false (by omega)
     clear c15
     have H' := Aside0.mk H
     clear H
     go_wp2_with (first | ((with_reducible refine gate_callee (f := 22) rfl ?_); refine goesM_ (some 44) Try.func22 #[.int .u8 a0, .slice A1_0 l1_0.length c1_0, .slice A1_1 l1_1.length c1_1] ?_; (with_reducible refine (cr3_Bad.calls k a0 _ _ l1_0 _ _ l1_1 t464 _ ?side1 ?side2 ?side3 ?side4 A11.out).mono ?_); (case side1 => repeat (first | exact (Kd.C_below HR1_0.out HB.out) | (with_reducible refine Kd.C_alloc ?_ _) | (with_reducible refine Kd.C_drewN ?_ _) | (with_reducible refine Kd.C_drew ?_))); (case side2 => exact HC1_0.out); (case side3 => repeat (first | exact (Kd.C_below HR1_1.out HB.out) | (with_reducible refine Kd.C_alloc ?_ _) | (with_reducible refine Kd.C_drewN ?_ _) | (with_reducible refine Kd.C_drew ?_))); (case side4 => exact HC1_1.out); rintro e w' ⟨rfl, ⟨nd, rfl⟩⟩; refine ⟨_, rfl, ?_⟩) | ((with_reducible refine gate_dst (N := 49) rfl ?_); (try (refine gate_guard (by rfl) ?_; dsimp only)); refine Kd.R_lit (Kd.int .u64) _ 49 ?hg (N := 49) ?hd (xs := ([a2] : List Int)) (inner := [.int .u64 a2]) (ok := fun _ => True) (okp := fun _ => True) ?hr ?hp (fun _ hk => hk) trivial (Below.refl _ _) (Nat.le_refl _) (by simp) ?_; (case hd => rfl); (case hg => rfl); (case hr => first | (go_simp; done) | (go_simp; rfl)); (case hp => exact (Reps.one (show Kd.M (Kd.int .u64) _ _ _ a2 [.int .u64 a2] from rfl) (Reps.none _ _))); intro v466 w19 ho20 hb hg_ hnew_; clear hg_ hnew_; (first | rw [← Ny465.out] at ho20 | (simp only [Int.reduceToNat] at ho20; rw [← Ny465.out] at ho20)); have n0_ := A_ (Kd.V_elder' (nV_ HO458) (Kd.R_base ho20) hb); have n1_ := A_ (Kd.N_elder' (nN_ HO462) (Kd.R_base ho20) hb); have n2_ := A_ (Kd.R_lower ho20 (below_size hs_)); have n3_ := A_ (blk_below (g := gb455) (o := .cells #[.slice A1_0 l1_0.length c1_0, .slice A1_1 l1_1.length c1_1] 48 (0, 0)) (nb_ BK455) hb); have n4_ := A_ (below_step hs_ hb); clear HO458 HO462 BK455 HB; have HO458 := n0_; have HO462 := n1_; have HO467 := n2_; have BK455 := n3_; have HB := n4_; clear n0_ n1_ n2_ n3_ n4_; clear hb ho20; obtain ⟨Ao21, co21, eo21⟩ := Kd.R_slice HO467.out; subst eo21) | (go_at_call 22; (refine (cr3_Bad.calls k a0 _ _ y465 _ _ ([] : List Int) t468 _ ?side1 ?side2 ?side3 ?side4 A13.out).mono ?_); (case side1 => repeat (first | exact (Kd.R_reads' HO467.out).2.2 | (with_reducible refine Kd.C_alloc ?_ _) | (with_reducible refine Kd.C_drewN ?_ _) | (with_reducible refine Kd.C_drew ?_))); (case side2 => exact (Kd.R_reads' HO467.out).2.1); (case side3 => exact Kd.C_nil _ _); (case side4 => exact Nat.le_refl _); rintro e w' ⟨rfl, ⟨nd, rfl⟩⟩))
     go_meet
     case rel => exact ⟨_, (decide ((l1_0.length : Int) > 200)), (fs_), H', ⟨fo_⟩, ⟨by (with_reducible repeat (first | apply Kd.V_alloc | apply Kd.V_drewN | apply Kd.V_drew)); exact Kd.V_mono HO458.out (fun _ hk => ⟨hk.1.2, hk.1.1⟩)⟩, ⟨by (with_reducible repeat (first | apply Kd.N_alloc | apply Kd.N_drewN | apply Kd.N_drew)); exact Kd.N_mono HO462.out (fun _ hk => hk.1)⟩, ⟨mb_ BK455.out⟩, ⟨hs_⟩⟩
   ·rw [if_neg c14] at H
    have c14b0 : (t468 == 0) = false := beq_eq_false_iff_ne.mpr c14
    have c14b1 : (t468 != 0) = true := bne_iff_ne.mpr c14
    have H' := Aside0.mk H
    clear H
    go_wp2_with (first | ((with_reducible refine gate_callee (f := 22) rfl ?_); refine goesM_ (some 44) Try.func22 #[.int .u8 a0, .slice A1_0 l1_0.length c1_0, .slice A1_1 l1_1.length c1_1] ?_; (with_reducible refine (cr3_Bad.calls k a0 _ _ l1_0 _ _ l1_1 t464 _ ?side1 ?side2 ?side3 ?side4 A11.out).mono ?_); (case side1 => repeat (first | exact (Kd.C_below HR1_0.out HB.out) | (with_reducible refine Kd.C_alloc ?_ _) | (with_reducible refine Kd.C_drewN ?_ _) | (with_reducible refine Kd.C_drew ?_))); (case side2 => exact HC1_0.out); (case side3 => repeat (first | exact (Kd.C_below HR1_1.out HB.out) | (with_reducible refine Kd.C_alloc ?_ _) | (with_reducible refine Kd.C_drewN ?_ _) | (with_reducible refine Kd.C_drew ?_))); (case side4 => exact HC1_1.out); rintro e w' ⟨rfl, ⟨nd, rfl⟩⟩; refine ⟨_, rfl, ?_⟩) | ((with_reducible refine gate_dst (N := 49) rfl ?_); (try (refine gate_guard (by rfl) ?_; dsimp only)); refine Kd.R_lit (Kd.int .u64) _ 49 ?hg (N := 49) ?hd (xs := ([a2] : List Int)) (inner := [.int .u64 a2]) (ok := fun _ => True) (okp := fun _ => True) ?hr ?hp (fun _ hk => hk) trivial (Below.refl _ _) (Nat.le_refl _) (by simp) ?_; (case hd => rfl); (case hg => rfl); (case hr => first | (go_simp; done) | (go_simp; rfl)); (case hp => exact (Reps.one (show Kd.M (Kd.int .u64) _ _ _ a2 [.int .u64 a2] from rfl) (Reps.none _ _))); intro v466 w22 ho23 hb hg_ hnew_; clear hg_ hnew_; (first | rw [← Ny465.out] at ho23 | (simp only [Int.reduceToNat] at ho23; rw [← Ny465.out] at ho23)); have n0_ := A_ (Kd.V_elder' (nV_ HO458) (Kd.R_base ho23) hb); have n1_ := A_ (Kd.N_elder' (nN_ HO462) (Kd.R_base ho23) hb); have n2_ := A_ (Kd.R_lower ho23 (below_size hs_)); have n3_ := A_ (blk_below (g := gb455) (o := .cells #[.slice A1_0 l1_0.length c1_0, .slice A1_1 l1_1.length c1_1] 48 (0, 0)) (nb_ BK455) hb); have n4_ := A_ (below_step hs_ hb); clear HO458 HO462 BK455 HB; have HO458 := n0_; have HO462 := n1_; have HO467 := n2_; have BK455 := n3_; have HB := n4_; clear n0_ n1_ n2_ n3_ n4_; clear hb ho23; obtain ⟨Ao24, co24, eo24⟩ := Kd.R_slice HO467.out; subst eo24) | (go_at_call 22; (refine (cr3_Bad.calls k a0 _ _ y465 _ _ ([] : List Int) t468 _ ?side1 ?side2 ?side3 ?side4 A13.out).mono ?_); (case side1 => repeat (first | exact (Kd.R_reads' HO467.out).2.2 | (with_reducible refine Kd.C_alloc ?_ _) | (with_reducible refine Kd.C_drewN ?_ _) | (with_reducible refine Kd.C_drew ?_))); (case side2 => exact (Kd.R_reads' HO467.out).2.1); (case side3 => exact Kd.C_nil _ _); (case side4 => exact Nat.le_refl _); rintro e w' ⟨rfl, ⟨nd, rfl⟩⟩))
    go_meet
    case rel => exact ⟨_, (true), (fs_), H', ⟨fo_⟩, ⟨by (with_reducible repeat (first | apply Kd.V_alloc | apply Kd.V_drewN | apply Kd.V_drew)); exact Kd.V_mono HO458.out (fun _ hk => ⟨hk.1.2, hk.1.1⟩)⟩, ⟨by (with_reducible repeat (first | apply Kd.N_alloc | apply Kd.N_drewN | apply Kd.N_drew)); exact Kd.N_mono HO462.out (fun _ hk => hk.1)⟩, ⟨mb_ BK455.out⟩, ⟨hs_⟩⟩
  ·rw [if_neg c12] at H
   have c12b0 : (t464 == 0) = false := beq_eq_false_iff_ne.mpr c12
   have c12b1 : (t464 != 0) = true := bne_iff_ne.mpr c12
   (first | rw [c12b0] | rw [c12b1] | (simp only [i64_w, i32_w]; first | rw [c12b0] | rw [c12b1]) | skip)
   have H' := Aside0.mk H
   clear H
   go_wp2_with (first | ((with_reducible refine gate_callee (f := 22) rfl ?_); refine goesM_ (some 44) Try.func22 #[.int .u8 a0, .slice A1_0 l1_0.length c1_0, .slice A1_1 l1_1.length c1_1] ?_; (with_reducible refine (cr3_Bad.calls k a0 _ _ l1_0 _ _ l1_1 t464 _ ?side1 ?side2 ?side3 ?side4 A11.out).mono ?_); (case side1 => repeat (first | exact (Kd.C_below HR1_0.out HB.out) | (with_reducible refine Kd.C_alloc ?_ _) | (with_reducible refine Kd.C_drewN ?_ _) | (with_reducible refine Kd.C_drew ?_))); (case side2 => exact HC1_0.out); (case side3 => repeat (first | exact (Kd.C_below HR1_1.out HB.out) | (with_reducible refine Kd.C_alloc ?_ _) | (with_reducible refine Kd.C_drewN ?_ _) | (with_reducible refine Kd.C_drew ?_))); (case side4 => exact HC1_1.out); rintro e w' ⟨rfl, ⟨nd, rfl⟩⟩; refine ⟨_, rfl, ?_⟩))
   go_meet
   case rel => exact ⟨_, (true), (fs_), H', ⟨fo_⟩, ⟨by (with_reducible repeat (first | apply Kd.V_alloc | apply Kd.V_drewN | apply Kd.V_drew)); exact Kd.V_mono HO458.out (fun _ hk => ⟨hk.2, hk.1⟩)⟩, ⟨mN_ HO462.out⟩, ⟨mb_ BK455.out⟩, ⟨hs_⟩⟩
 case rest =>
  clear HC6
  try clear c1
  try clear c2
  try clear p2
  try clear c7
  try clear c12
  try clear c12b0
  try clear c12b1
  try clear c14
  try clear c14b0
  try clear c14b1
  try clear c15
  try clear c15b0
  try clear c15b1
  try clear c17
  try clear c22
  obtain ⟨kq, x62_5, rfl, HA, HJ5, HO_10, HO_12, BK455, HB⟩ := hcut
  cases kq with
  | zero => exact absurd HA.out (by simp [conclavelaw06_TreeNoughts.j0])
  | succ kj5 =>
   as_aux_lemma =>
   have H := HA.out
   clear HA
   simp only [conclavelaw06_TreeNoughts.j0] at H
   by_cases c25 : x62_5 = true
   ·subst c25
    have H1 : ((conclavelaw06_anchored.f kj5).bind fun t469 => (if t469 = true then (if t459 = 0 then ((cr3_Bad.f kj5 a0 l1_1 ([] : List Int)).bind fun t470 => (some (t470 == 0))) else (some true)) else (none))) = some r := by rw [if_pos rfl] at H; exact H
    clear H
    have H := H1
    clear H1
    replace H := Option.bind_eq_some_iff.mp H
    obtain ⟨t469, A260, H⟩ := H
    replace H : (if t469 = true then (if t459 = 0 then ((cr3_Bad.f kj5 a0 l1_1 ([] : List Int)).bind fun t470 => (some (t470 == 0))) else (some true)) else (none)) = some r := H
    have A26 := Aside0.mk A260
    clear A260
    by_cases c27 : t469 = true
    ·subst c27
     have H1 : (if t459 = 0 then ((cr3_Bad.f kj5 a0 l1_1 ([] : List Int)).bind fun t470 => (some (t470 == 0))) else (some true)) = some r := by rw [if_pos rfl] at H; exact H
     clear H
     have H := H1
     clear H1
     by_cases c28 : t459 = 0
     ·rw [if_pos c28] at H
      have c28b0 : (t459 == 0) = true := beq_iff_eq.mpr c28
      have c28b1 : (t459 != 0) = false := bne_eq_false_iff_eq.mpr c28
      clear c28
      replace H := Option.bind_eq_some_iff.mp H
      obtain ⟨t470, A290, H⟩ := H
      replace H : (some (t470 == 0)) = some r := H
      have A29 := Aside0.mk A290
      clear A290
      obtain rfl := Option.some.inj H
      go_wp2_with (first | ((with_reducible refine gate_callee (f := 19) rfl ?_); refine goesM_ (some 63) Try.func19 #[] ?_; (with_reducible refine (conclavelaw06_anchored.calls kj5  true _ A26.out).mono ?_); rintro e w30 ⟨rfl, hb⟩; refine ⟨_, rfl, ?_⟩; have n0_ := A_ (Kd.V_below (nV_ HO_10) hb); have n1_ := A_ (Kd.N_below (nN_ HO_12) hb); have n2_ := A_ (blk_below (g := gb455) (o := .cells #[.slice A1_0 l1_0.length c1_0, .slice A1_1 l1_1.length c1_1] 48 (0, 0)) (nb_ BK455) hb); have n3_ := A_ (below_step hs_ hb); clear HO_10 HO_12 BK455 HB; have HO_10 := n0_; have HO_12 := n1_; have BK455 := n2_; have HB := n3_; clear n0_ n1_ n2_ n3_; (try clear hb)) | (go_at_call 22; (refine (cr3_Bad.calls kj5 a0 _ _ l1_1 _ _ ([] : List Int) t470 _ ?side1 ?side2 ?side3 ?side4 A29.out).mono ?_); (case side1 => repeat (first | exact (Kd.C_below HR1_1.out HB.out) | (with_reducible refine Kd.C_alloc ?_ _) | (with_reducible refine Kd.C_drewN ?_ _) | (with_reducible refine Kd.C_drew ?_))); (case side2 => exact HC1_1.out); (case side3 => exact Kd.C_nil _ _); (case side4 => exact Nat.le_refl _); rintro e w' ⟨rfl, ⟨nd, rfl⟩⟩))
      go_ret
      exact ⟨fr_, hs_⟩
     ·rw [if_neg c28] at H
      have c28b0 : (t459 == 0) = false := beq_eq_false_iff_ne.mpr c28
      have c28b1 : (t459 != 0) = true := bne_iff_ne.mpr c28
      obtain rfl := Option.some.inj H
      go_wp2_with (first | ((with_reducible refine gate_callee (f := 19) rfl ?_); refine goesM_ (some 63) Try.func19 #[] ?_; (with_reducible refine (conclavelaw06_anchored.calls kj5  true _ A26.out).mono ?_); rintro e w31 ⟨rfl, hb⟩; refine ⟨_, rfl, ?_⟩; have n0_ := A_ (Kd.V_below (nV_ HO_10) hb); have n1_ := A_ (Kd.N_below (nN_ HO_12) hb); have n2_ := A_ (blk_below (g := gb455) (o := .cells #[.slice A1_0 l1_0.length c1_0, .slice A1_1 l1_1.length c1_1] 48 (0, 0)) (nb_ BK455) hb); have n3_ := A_ (below_step hs_ hb); clear HO_10 HO_12 BK455 HB; have HO_10 := n0_; have HO_12 := n1_; have BK455 := n2_; have HB := n3_; clear n0_ n1_ n2_ n3_; (try clear hb)))
      go_ret
      exact ⟨fr_, hs_⟩
    ·replace c27 := Bool.eq_false_iff.mpr c27
     subst c27
     have H1 : (none) = some r := by rw [if_neg (show ¬ (false = true) by decide)] at H; exact H
     clear H
     have H := H1
     clear H1
     exact absurd H (by simp)
   ·replace c25 := Bool.eq_false_iff.mpr c25
    subst c25
    have H1 : (conclavelaw06_TreeNoughts.l0 kj5 a2 a0 l1_0 l1_1 t456 t459 t460 t463 false ([] : List (List Int)) 0) = some r := by rw [if_neg (show ¬ (false = true) by decide)] at H; exact H
    clear H
    have H := H1
    clear H1
    have H' := Aside0.mk H
    clear H
    go_wp2
    go_loopg [14, 15, 16] kj5 (fun kq v14 v15 v16 w' => ∃ (x14_2 : Bool) (x15_2 : List (List Int)) (x16_2 : Int), v14 = .bool x14_2 ∧ v16 = .int .i64 x16_2 ∧ Aside0 (conclavelaw06_TreeNoughts.l0 kq a2 a0 l1_0 l1_1 t456 t459 t460 t463 x14_2 x15_2 x16_2 = some r) ∧ Aside0 (kq ≤ kj5) ∧ Aside0 (Kd.V (Kd.int .u64) 49 w' w.heap.size (fun k_ => some k_ ≠ (v461 : Value).ownBlock ∧ some k_ ≠ (v15 : Value).ownBlock ∧ k_ ≠ gb455) v457 t456) ∧ Aside0 (Kd.N (Kd.slice 22 (Kd.slice 49 (Kd.int .u64))) 23 w' w.heap.size (fun k_ => some k_ ≠ (v15 : Value).ownBlock ∧ k_ ≠ gb455) v461 t460) ∧ Aside0 (Kd.N (Kd.slice 49 (Kd.int .u64)) 22 w' w.heap.size (fun k_ => some k_ ≠ (v461 : Value).ownBlock ∧ k_ ≠ gb455) v15 x15_2) ∧ Aside0 (w'.heap[gb455]? = some (.cells #[(.slice A1_0 l1_0.length c1_0), (.slice A1_1 l1_1.length c1_1)] 48 (0, 0))) ∧ Aside0 (Below w.heap.size w w'))
    case atStart => exact ⟨(false), (([] : List (List Int))), (0), (fs_), (fs_), H', ⟨Nat.le_refl _⟩, ⟨by (with_reducible repeat (first | apply Kd.V_alloc | apply Kd.V_drewN | apply Kd.V_drew)); exact Kd.V_mono HO_10.out (fun _ hk => ⟨hk.1, ⟨(by simp [Value.ownBlock]), hk.2⟩⟩)⟩, ⟨by (with_reducible repeat (first | apply Kd.N_alloc | apply Kd.N_drewN | apply Kd.N_drew)); exact Kd.N_mono HO_12.out (fun _ hk => ⟨(by simp [Value.ownBlock]), hk⟩)⟩, ⟨by first | exact Kd.S_nil _ _ _ _ _ | exact Kd.N_nil _ _ _ _ _ | exact Kd.V_nil _ _ _ _ _ | exact Kd.Q_nil _ _ _ _ _ | exact Kd.R_nil _ _ _ _ _⟩, ⟨mb_ BK455.out⟩, ⟨hs_⟩⟩
    case round =>
     clear H'
     try clear c1
     try clear c2
     try clear p2
     try clear c7
     try clear c12
     try clear c12b0
     try clear c12b1
     try clear c14
     try clear c14b0
     try clear c14b1
     try clear c15
     try clear c15b0
     try clear c15b1
     try clear c17
     try clear c19
     try clear c22
     try clear c25
     try clear c27
     try clear c28
     try clear c28b0
     try clear c28b1
     try clear p2
     obtain ⟨x14_2, x15_2, x16_2, rfl, rfl, HA, HK2, HO_10, HO_12, HO_15, BK455, HB⟩ := hrel
     cases gk with
     | zero => exact absurd HA.out (by simp [conclavelaw06_TreeNoughts.l0])
     | succ k2 =>
      as_aux_lemma =>
      have H := HA.out
      clear HA
      simp only [conclavelaw06_TreeNoughts.l0] at H
      by_cases c32 : x16_2 < (l1_1.length : Int)
      ·rw [if_pos c32] at H
       have c32b0 : decide (x16_2 < (l1_1.length : Int)) = true := decide_eq_true c32
       clear c32
       by_cases c33 : x14_2 = true
       ·subst c33
        have H1 : (if 0 ≤ x16_2 then ((cr6_Factor.f a0 (rd l1_1 x16_2)).bind fun t472 => (if x15_2.length < 5864062014805 then (conclavelaw06_TreeNoughts.l0 k2 a2 a0 l1_0 l1_1 t456 t459 t460 t463 true (x15_2 ++ [t472]) (wrap64 (x16_2 + 1))) else (none))) else (none)) = some r := by rw [if_pos rfl] at H; exact H
        clear H
        have H := H1
        clear H1
        by_cases c34 : 0 ≤ x16_2
        ·rw [if_pos c34] at H
         have c34b0 : decide (0 ≤ x16_2) = true := decide_eq_true c34
         clear c34
         replace H := Option.bind_eq_some_iff.mp H
         obtain ⟨t472, A350, H⟩ := H
         replace H : (if x15_2.length < 5864062014805 then (conclavelaw06_TreeNoughts.l0 k2 a2 a0 l1_0 l1_1 t456 t459 t460 t463 true (x15_2 ++ [t472]) (wrap64 (x16_2 + 1))) else (none)) = some r := H
         have A35 := Aside0.mk A350
         clear A350
         by_cases c36 : x15_2.length < 5864062014805
         ·rw [if_pos c36] at H
          have LMc36 := Aside0.mk c36
          clear c36
          obtain ⟨y475, hy475⟩ : ∃ y_ : List (List Int), y_ = (x15_2 ++ [t472]) := ⟨_, rfl⟩
          replace H : (conclavelaw06_TreeNoughts.l0 k2 a2 a0 l1_0 l1_1 t456 t459 t460 t463 true y475 (wrap64 (x16_2 + 1))) = some r := by first | (rw [hy475]; with_reducible exact H) | (have H2_ := (Option.bind_some _ _).symm.trans H; rw [hy475]; with_reducible exact H2_) | (have H2_ := (Option.bind_some _ _).symm.trans H; with_reducible exact H2_) | with_reducible exact H | (rw [hy475]; exact H) | exact H
          have Ny475 := Aside0.mk hy475
          clear hy475
          have H' := Aside0.mk H
          clear H
          have p471 : 0 ≤ (x16_2 : Int) := of_decide_eq_true (by first | (with_reducible assumption) | assumption)
          have q471 : x16_2 < (l1_1.length : Int) := of_decide_eq_true (by first | (with_reducible assumption) | assumption)
          obtain ⟨ad471, e471, hx471_0⟩ := Kd.at_int HR1_1.out x16_2 p471 q471
          cases e471
          replace hx471_0 := (HB.out.cell (World.block_lt_of_cell? w _ hx471_0)).trans hx471_0
          replace p471 := eq_true p471
          replace q471 := eq_true q471
          go_wp2_with (first | ((with_reducible refine gate_callee (f := 25) rfl ?_); refine goesM_ (some 95) Try.func25 #[.int .u8 a0, .int .u64 (rd l1_1 x16_2)] ?_; (with_reducible refine (cr6_Factor.calls a0 (rd l1_1 x16_2) t472 _ A35.out).mono ?_); rintro e w37 ⟨v473, rfl, ho0, hb⟩; refine ⟨_, rfl, ?_⟩; have n0_ := A_ (Kd.V_elder' (nV_ HO_10) (Kd.R_base ho0) hb); have n1_ := A_ (Kd.N_elder' (nN_ HO_12) (Kd.R_base ho0) hb); have n2_ := A_ (Kd.N_elder' (nN_ HO_15) (Kd.R_base ho0) hb); have n3_ := A_ (Kd.R_lower ho0 (below_size hs_)); have n4_ := A_ (blk_below (g := gb455) (o := .cells #[.slice A1_0 l1_0.length c1_0, .slice (some ad471) l1_1.length c1_1] 48 (0, 0)) (nb_ BK455) hb); have n5_ := A_ (below_step hs_ hb); clear HO_10 HO_12 HO_15 BK455 HB; have HO_10 := n0_; have HO_12 := n1_; have HO_15 := n2_; have HO474 := n3_; have BK455 := n4_; have HB := n5_; clear n0_ n1_ n2_ n3_ n4_ n5_; (try clear hb); (try clear ho0); obtain ⟨Ao39, co39, eo39⟩ := Kd.R_slice HO474.out; subst eo39) | ((with_reducible refine gate_builtin (b := .append) (xs := #[.tmp 89, .tmp 96]) rfl ?_); (try (refine gate_guard (by rfl) ?_; dsimp only)); at_builtin; refine Kd.N_append (Kd.slice 49 (Kd.int .u64)) (w0 := w) w.heap.size rfl (.tmp 89) (.tmp 96) 23 22 (.slice none 0 0) 24 rfl Try.underlying23 info22 rfl (by decide) (by omega) u15 x15_2 t472 [.slice Ao39 t472.length co39] (fun k_ => some k_ ≠ (v461 : Value).ownBlock ∧ k_ ≠ gb455) (fun k_ => ((fun k_ => some k_ ≠ (v461 : Value).ownBlock ∧ k_ ≠ gb455)) k_ ∧ some k_ ≠ (u15 : Value).ownBlock) rfl rfl ?aP (fun _ hk => hk) ?aF ?aO ?aB ?aS ?aL ?_; (case aP => exact (Kd.FK_slice_mk (Kd.R_reads' (Kd.R_mono (ok' := (fun k_ => ((fun k_ => some k_ ≠ (v461 : Value).ownBlock ∧ k_ ≠ gb455)) k_ ∧ some k_ ≠ (u15 : Value).ownBlock)) (Kd.R_types (Kd.R_apart' (Kd.R_apart' (HO474.out) (Kd.N_typed HO_12.out) (by decide)) (Kd.N_typed HO_15.out) (by decide)) BK455.out (by decide)) (fun k_ hk => ⟨⟨hk.1.1.2, hk.2⟩, hk.1.2⟩))).2.1 (Kd.R_F (Kd.R_mono (ok' := (fun k_ => ((fun k_ => some k_ ≠ (v461 : Value).ownBlock ∧ k_ ≠ gb455)) k_ ∧ some k_ ≠ (u15 : Value).ownBlock)) (Kd.R_types (Kd.R_apart' (Kd.R_apart' (HO474.out) (Kd.N_typed HO_12.out) (by decide)) (Kd.N_typed HO_15.out) (by decide)) BK455.out (by decide)) (fun k_ hk => ⟨⟨hk.1.1.2, hk.2⟩, hk.1.2⟩))))); (case aB => exact hs_); (case aF => exact (fun k_ hk => ⟨Kd.fresh' (Kd.N_lt (nN_ HO_12)) k_ hk, Kd.freshB (g := gb455) (o := .cells #[.slice A1_0 l1_0.length c1_0, .slice (some ad471) l1_1.length c1_1] 48 (0, 0)) (nb_ BK455) k_ hk⟩)); (case aO => exact (by (with_reducible repeat (first | apply Kd.N_alloc | apply Kd.N_drewN | apply Kd.N_drew)); exact Kd.N_mono HO_15.out (fun _ hk => ⟨hk.1.1, hk.1.2⟩))); (case aS => exact (below_size hs_)); (case aL => have := LMc36.out; omega); intro v476 w38 ho hb hg hat; rw [← Ny475.out] at ho; have n0_ := A_ (Kd.V_afterv (ok := (fun k_ => some k_ ≠ (v461 : Value).ownBlock ∧ some k_ ≠ (.slice Ao39 t472.length co39 : Value).ownBlock ∧ k_ ≠ gb455)) (by (with_reducible repeat (first | apply Kd.V_alloc | apply Kd.V_drewN | apply Kd.V_drew)); exact Kd.V_mono HO_10.out (fun _ hk => ⟨⟨hk.1.1, ⟨hk.2, hk.1.2.2⟩⟩, hk.1.2.1⟩)) hg hat); have n1_ := A_ (Kd.N_afterv (ok := (fun k_ => some k_ ≠ (.slice Ao39 t472.length co39 : Value).ownBlock ∧ k_ ≠ gb455)) (by (with_reducible repeat (first | apply Kd.N_alloc | apply Kd.N_drewN | apply Kd.N_drew)); exact Kd.N_mono HO_12.out (fun _ hk => ⟨⟨hk.2, hk.1.2⟩, hk.1.1⟩)) hg hat); have n2_ := A_ (blk_grown (g := gb455) (o := .cells #[.slice A1_0 l1_0.length c1_0, .slice (some ad471) l1_1.length c1_1] 48 (0, 0)) (nb_ BK455) hg (Kd.N_ne HO_15.out BK455.out (by decide))); have n3_ := A_ (hb); have n4_ := A_ (ho); clear HO_10 HO_12 BK455 HB HO_15 HO474; have HO_10 := n0_; have HO_12 := n1_; have BK455 := n2_; have HB := n3_; have HO477 := n4_; clear n0_ n1_ n2_ n3_ n4_; clear ho hb hg hat))
          go_roundg k2
          case measure => have := HJ5.out; have := HK2.out; omega
          case rel => exact ⟨(true), (y475), (wrap64 (x16_2 + 1)), (fs_), (fs_), H', ⟨by have := HJ5.out; have := HK2.out; omega⟩, ⟨by (with_reducible repeat (first | apply Kd.V_alloc | apply Kd.V_drewN | apply Kd.V_drew)); exact Kd.V_mono HO_10.out (fun _ hk => ⟨hk.1.1, ⟨hk.2, hk.1.2.2⟩⟩)⟩, ⟨by (with_reducible repeat (first | apply Kd.N_alloc | apply Kd.N_drewN | apply Kd.N_drew)); exact Kd.N_mono HO_12.out (fun _ hk => ⟨hk.2, hk.1.2⟩)⟩, ⟨mN_ HO477.out⟩, ⟨mb_ BK455.out⟩, ⟨hs_⟩⟩
         ·rw [if_neg c36] at H
          exact absurd H (by simp)
        ·rw [if_neg c34] at H
         exact absurd H (by simp)
       ·replace c33 := Bool.eq_false_iff.mpr c33
        subst c33
        have H1 : (if 0 ≤ x16_2 then ((cr6_Factor.f a0 (rd l1_1 x16_2)).bind fun t480 => (if x15_2.length < 5864062014805 then (conclavelaw06_TreeNoughts.l0 k2 a2 a0 l1_0 l1_1 t456 t459 t460 t463 ((rd l1_1 x16_2) == a2) (x15_2 ++ [t480]) (wrap64 (x16_2 + 1))) else (none))) else (none)) = some r := by rw [if_neg (show ¬ (false = true) by decide)] at H; exact H
        clear H
        have H := H1
        clear H1
        by_cases c40 : 0 ≤ x16_2
        ·rw [if_pos c40] at H
         have c40b0 : decide (0 ≤ x16_2) = true := decide_eq_true c40
         clear c40
         replace H := Option.bind_eq_some_iff.mp H
         obtain ⟨t480, A410, H⟩ := H
         replace H : (if x15_2.length < 5864062014805 then (conclavelaw06_TreeNoughts.l0 k2 a2 a0 l1_0 l1_1 t456 t459 t460 t463 ((rd l1_1 x16_2) == a2) (x15_2 ++ [t480]) (wrap64 (x16_2 + 1))) else (none)) = some r := H
         have A41 := Aside0.mk A410
         clear A410
         by_cases c42 : x15_2.length < 5864062014805
         ·rw [if_pos c42] at H
          have LMc42 := Aside0.mk c42
          clear c42
          obtain ⟨y483, hy483⟩ : ∃ y_ : List (List Int), y_ = (x15_2 ++ [t480]) := ⟨_, rfl⟩
          replace H : (conclavelaw06_TreeNoughts.l0 k2 a2 a0 l1_0 l1_1 t456 t459 t460 t463 ((rd l1_1 x16_2) == a2) y483 (wrap64 (x16_2 + 1))) = some r := by first | (rw [hy483]; with_reducible exact H) | (have H2_ := (Option.bind_some _ _).symm.trans H; rw [hy483]; with_reducible exact H2_) | (have H2_ := (Option.bind_some _ _).symm.trans H; with_reducible exact H2_) | with_reducible exact H | (rw [hy483]; exact H) | exact H
          have Ny483 := Aside0.mk hy483
          clear hy483
          have H' := Aside0.mk H
          clear H
          have p478 : 0 ≤ (x16_2 : Int) := of_decide_eq_true (by first | (with_reducible assumption) | assumption)
          have q478 : x16_2 < (l1_1.length : Int) := of_decide_eq_true (by first | (with_reducible assumption) | assumption)
          obtain ⟨ad478, e478, hx478_0⟩ := Kd.at_int HR1_1.out x16_2 p478 q478
          cases e478
          replace hx478_0 := (HB.out.cell (World.block_lt_of_cell? w _ hx478_0)).trans hx478_0
          replace p478 := eq_true p478
          replace q478 := eq_true q478
          have p479 : 0 ≤ (x16_2 : Int) := of_decide_eq_true (by first | (with_reducible assumption) | assumption)
          have q479 : x16_2 < (l1_1.length : Int) := of_decide_eq_true (by first | (with_reducible assumption) | assumption)
          obtain ⟨ad479, e479, hx479_0⟩ := Kd.at_int HR1_1.out x16_2 p479 q479
          obtain rfl : ad478 = ad479 := (by injection e479)
          replace hx479_0 := (HB.out.cell (World.block_lt_of_cell? w _ hx479_0)).trans hx479_0
          replace p479 := eq_true p479
          replace q479 := eq_true q479
          go_wp2_with (first | ((with_reducible refine gate_callee (f := 25) rfl ?_); refine goesM_ (some 95) Try.func25 #[.int .u8 a0, .int .u64 (rd l1_1 x16_2)] ?_; (with_reducible refine (cr6_Factor.calls a0 (rd l1_1 x16_2) t480 _ A41.out).mono ?_); rintro e w43 ⟨v481, rfl, ho0, hb⟩; refine ⟨_, rfl, ?_⟩; have n0_ := A_ (Kd.V_elder' (nV_ HO_10) (Kd.R_base ho0) hb); have n1_ := A_ (Kd.N_elder' (nN_ HO_12) (Kd.R_base ho0) hb); have n2_ := A_ (Kd.N_elder' (nN_ HO_15) (Kd.R_base ho0) hb); have n3_ := A_ (Kd.R_lower ho0 (below_size hs_)); have n4_ := A_ (blk_below (g := gb455) (o := .cells #[.slice A1_0 l1_0.length c1_0, .slice (some ad478) l1_1.length c1_1] 48 (0, 0)) (nb_ BK455) hb); have n5_ := A_ (below_step hs_ hb); clear HO_10 HO_12 HO_15 BK455 HB; have HO_10 := n0_; have HO_12 := n1_; have HO_15 := n2_; have HO482 := n3_; have BK455 := n4_; have HB := n5_; clear n0_ n1_ n2_ n3_ n4_ n5_; (try clear hb); (try clear ho0); obtain ⟨Ao45, co45, eo45⟩ := Kd.R_slice HO482.out; subst eo45) | ((with_reducible refine gate_builtin (b := .append) (xs := #[.tmp 89, .tmp 96]) rfl ?_); (try (refine gate_guard (by rfl) ?_; dsimp only)); at_builtin; refine Kd.N_append (Kd.slice 49 (Kd.int .u64)) (w0 := w) w.heap.size rfl (.tmp 89) (.tmp 96) 23 22 (.slice none 0 0) 24 rfl Try.underlying23 info22 rfl (by decide) (by omega) u15 x15_2 t480 [.slice Ao45 t480.length co45] (fun k_ => some k_ ≠ (v461 : Value).ownBlock ∧ k_ ≠ gb455) (fun k_ => ((fun k_ => some k_ ≠ (v461 : Value).ownBlock ∧ k_ ≠ gb455)) k_ ∧ some k_ ≠ (u15 : Value).ownBlock) rfl rfl ?aP (fun _ hk => hk) ?aF ?aO ?aB ?aS ?aL ?_; (case aP => exact (Kd.FK_slice_mk (Kd.R_reads' (Kd.R_mono (ok' := (fun k_ => ((fun k_ => some k_ ≠ (v461 : Value).ownBlock ∧ k_ ≠ gb455)) k_ ∧ some k_ ≠ (u15 : Value).ownBlock)) (Kd.R_types (Kd.R_apart' (Kd.R_apart' (HO482.out) (Kd.N_typed HO_12.out) (by decide)) (Kd.N_typed HO_15.out) (by decide)) BK455.out (by decide)) (fun k_ hk => ⟨⟨hk.1.1.2, hk.2⟩, hk.1.2⟩))).2.1 (Kd.R_F (Kd.R_mono (ok' := (fun k_ => ((fun k_ => some k_ ≠ (v461 : Value).ownBlock ∧ k_ ≠ gb455)) k_ ∧ some k_ ≠ (u15 : Value).ownBlock)) (Kd.R_types (Kd.R_apart' (Kd.R_apart' (HO482.out) (Kd.N_typed HO_12.out) (by decide)) (Kd.N_typed HO_15.out) (by decide)) BK455.out (by decide)) (fun k_ hk => ⟨⟨hk.1.1.2, hk.2⟩, hk.1.2⟩))))); (case aB => exact hs_); (case aF => exact (fun k_ hk => ⟨Kd.fresh' (Kd.N_lt (nN_ HO_12)) k_ hk, Kd.freshB (g := gb455) (o := .cells #[.slice A1_0 l1_0.length c1_0, .slice (some ad478) l1_1.length c1_1] 48 (0, 0)) (nb_ BK455) k_ hk⟩)); (case aO => exact (by (with_reducible repeat (first | apply Kd.N_alloc | apply Kd.N_drewN | apply Kd.N_drew)); exact Kd.N_mono HO_15.out (fun _ hk => ⟨hk.1.1, hk.1.2⟩))); (case aS => exact (below_size hs_)); (case aL => have := LMc42.out; omega); intro v484 w44 ho hb hg hat; rw [← Ny483.out] at ho; have n0_ := A_ (Kd.V_afterv (ok := (fun k_ => some k_ ≠ (v461 : Value).ownBlock ∧ some k_ ≠ (.slice Ao45 t480.length co45 : Value).ownBlock ∧ k_ ≠ gb455)) (by (with_reducible repeat (first | apply Kd.V_alloc | apply Kd.V_drewN | apply Kd.V_drew)); exact Kd.V_mono HO_10.out (fun _ hk => ⟨⟨hk.1.1, ⟨hk.2, hk.1.2.2⟩⟩, hk.1.2.1⟩)) hg hat); have n1_ := A_ (Kd.N_afterv (ok := (fun k_ => some k_ ≠ (.slice Ao45 t480.length co45 : Value).ownBlock ∧ k_ ≠ gb455)) (by (with_reducible repeat (first | apply Kd.N_alloc | apply Kd.N_drewN | apply Kd.N_drew)); exact Kd.N_mono HO_12.out (fun _ hk => ⟨⟨hk.2, hk.1.2⟩, hk.1.1⟩)) hg hat); have n2_ := A_ (blk_grown (g := gb455) (o := .cells #[.slice A1_0 l1_0.length c1_0, .slice (some ad478) l1_1.length c1_1] 48 (0, 0)) (nb_ BK455) hg (Kd.N_ne HO_15.out BK455.out (by decide))); have n3_ := A_ (hb); have n4_ := A_ (ho); clear HO_10 HO_12 BK455 HB HO_15 HO482; have HO_10 := n0_; have HO_12 := n1_; have BK455 := n2_; have HB := n3_; have HO485 := n4_; clear n0_ n1_ n2_ n3_ n4_; clear ho hb hg hat))
          go_roundg k2
          case measure => have := HJ5.out; have := HK2.out; omega
          case rel => exact ⟨(((rd l1_1 x16_2) == a2)), (y483), (wrap64 (x16_2 + 1)), (fs_), (fs_), H', ⟨by have := HJ5.out; have := HK2.out; omega⟩, ⟨by (with_reducible repeat (first | apply Kd.V_alloc | apply Kd.V_drewN | apply Kd.V_drew)); exact Kd.V_mono HO_10.out (fun _ hk => ⟨hk.1.1, ⟨hk.2, hk.1.2.2⟩⟩)⟩, ⟨by (with_reducible repeat (first | apply Kd.N_alloc | apply Kd.N_drewN | apply Kd.N_drew)); exact Kd.N_mono HO_12.out (fun _ hk => ⟨hk.2, hk.1.2⟩)⟩, ⟨mN_ HO485.out⟩, ⟨mb_ BK455.out⟩, ⟨hs_⟩⟩
         ·rw [if_neg c42] at H
          exact absurd H (by simp)
        ·rw [if_neg c40] at H
         exact absurd H (by simp)
      ·rw [if_neg c32] at H
       have c32b0 : decide (x16_2 < (l1_1.length : Int)) = false := decide_eq_false c32
       clear c32
       replace H := Option.bind_eq_some_iff.mp H
       obtain ⟨⟨t486, t487⟩, A460, H⟩ := H
       (try dsimp only at H)
       have A46 := Aside0.mk A460
       clear A460
       replace H := Option.bind_eq_some_iff.mp H
       obtain ⟨⟨t488, t491⟩, A470, H⟩ := H
       (try dsimp only at H)
       have A47 := Aside0.mk A470
       clear A470
       replace H := Option.bind_eq_some_iff.mp H
       obtain ⟨⟨t492, t495⟩, A480, H⟩ := H
       (try dsimp only at H)
       have A48 := Aside0.mk A480
       clear A480
       have HC49 := Aside0.mk H
       clear H
       obtain ⟨Ao50, co50, eo50⟩ := Kd.V_slice HO_10.out
       subst eo50
       go_upto_region 17 with (first | ((with_reducible refine gate_callee (f := 26) rfl ?_); refine goesM_ (some 102) Try.func26 #[.int .u8 a0, .slice Ao50 t456.length co50, .int .u64 a2] ?_; (with_reducible refine (cr3_Eval.calls k2 a0 _ _ t456 a2 t486 t487 _ ?side1 ?side2 A46.out).mono ?_); (case side1 => repeat (first | exact (Kd.V_reads' HO_10.out).2.2 | (with_reducible refine Kd.C_alloc ?_ _) | (with_reducible refine Kd.C_drewN ?_ _) | (with_reducible refine Kd.C_drew ?_))); (case side2 => exact (Kd.V_reads' HO_10.out).2.1); rintro e w51 ⟨rfl, hb⟩; refine ⟨_, rfl, ?_⟩; have n0_ := A_ (Kd.V_below (nV_ HO_10) hb); have n1_ := A_ (Kd.N_below (nN_ HO_12) hb); have n2_ := A_ (Kd.N_below (nN_ HO_15) hb); have n3_ := A_ (blk_below (g := gb455) (o := .cells #[.slice A1_0 l1_0.length c1_0, .slice A1_1 l1_1.length c1_1] 48 (0, 0)) (nb_ BK455) hb); have n4_ := A_ (below_step hs_ hb); clear HO_10 HO_12 HO_15 BK455 HB; have HO_10 := n0_; have HO_12 := n1_; have HO_15 := n2_; have BK455 := n3_; have HB := n4_; clear n0_ n1_ n2_ n3_ n4_; (try clear hb); obtain ⟨Ao52, co52, eo52⟩ := Kd.N_slice HO_15.out; subst eo52) | ((with_reducible refine gate_callee (f := 9) rfl ?_); refine goesM_ (some 109) Try.func9 #[.int .u8 a0, .slice A1_0 l1_0.length c1_0, .slice Ao52 x15_2.length co52] ?_; (with_reducible refine (tree_Remainders.calls k2 a0 (fun k_ => k_ < w.heap.size) _ _ l1_0 (fun k_ => (some k_ ≠ (v461 : Value).ownBlock ∧ k_ ≠ gb455)) _ _ x15_2 t488 t491 _ ?side1 ?side2 A47.out).mono ?_); (case side1 => exact Kd.V_mk HC1_0.out (Kd.F_below (Kd.C_F (Kd.heap_int .u64) HR1_0.out) hs_)); (case side2 => exact Kd.N_V (HO_15.out)); rintro e w53 ⟨v489, rfl, ho0, hb⟩; refine ⟨_, rfl, ?_⟩; have n0_ := A_ (Kd.V_elder' (nV_ HO_10) (Kd.N_base ho0) hb); have n1_ := A_ (Kd.N_elder' (nN_ HO_12) (Kd.N_base ho0) hb); have n2_ := A_ (Kd.N_elder' (nN_ HO_15) (Kd.N_base ho0) hb); have n3_ := A_ (Kd.N_lower (Kd.N_mono (ok' := fun k_ => some k_ ≠ (v461 : Value).ownBlock ∧ k_ ≠ gb455) ho0 (fun k_ hk_ => ⟨Or.elim hk_ (fun hs_ => Or.elim hs_ (fun hs_ => fun e_ => Nat.not_le.2 hs_ (Kd.N_base HO_12.out k_ e_.symm)) (fun hs_ => hs_.1)) (fun hn_ => (Kd.fresh' (Kd.N_lt (nN_ HO_12)) k_ hn_)), Or.elim hk_ (fun hs_ => Or.elim hs_ (fun hs_ => fun e_ => Nat.not_le.2 hs_ (by rw [e_]; exact GW455.out)) (fun hs_ => hs_.2)) (fun hn_ => (Kd.freshB (g := gb455) (o := .cells #[.slice A1_0 l1_0.length c1_0, .slice A1_1 l1_1.length c1_1] 48 (0, 0)) (nb_ BK455) k_ hn_))⟩)) (below_size hs_)); have n4_ := A_ (blk_below (g := gb455) (o := .cells #[.slice A1_0 l1_0.length c1_0, .slice A1_1 l1_1.length c1_1] 48 (0, 0)) (nb_ BK455) hb); have n5_ := A_ (below_step hs_ hb); clear HO_10 HO_12 HO_15 BK455 HB; have HO_10 := n0_; have HO_12 := n1_; have HO_15 := n2_; have HO490 := n3_; have BK455 := n4_; have HB := n5_; clear n0_ n1_ n2_ n3_ n4_ n5_; (try clear hb); (try clear ho0)) | ((with_reducible refine gate_callee (f := 20) rfl ?_); refine goesM_ (some 116) Try.func20 #[.int .u8 a0, .slice A1_0 l1_0.length c1_0, .slice A1_1 l1_1.length c1_1] ?_; (with_reducible refine (tree_Values.calls k2 a0 (fun k_ => k_ < w.heap.size) _ _ l1_0 (fun k_ => k_ < w.heap.size) _ _ l1_1 t492 t495 _ ?side1 ?side2 A48.out).mono ?_); (case side1 => exact Kd.V_mk HC1_0.out (Kd.F_below (Kd.C_F (Kd.heap_int .u64) HR1_0.out) hs_)); (case side2 => exact Kd.V_mk HC1_1.out (Kd.F_below (Kd.C_F (Kd.heap_int .u64) HR1_1.out) hs_)); rintro e w54 ⟨v493, rfl, ho0, hb⟩; refine ⟨_, rfl, ?_⟩; have n0_ := A_ (Kd.V_elder' (nV_ HO_10) (Kd.R_base ho0) hb); have n1_ := A_ (Kd.N_elder' (nN_ HO_12) (Kd.R_base ho0) hb); have n2_ := A_ (Kd.N_elder' (nN_ HO_15) (Kd.R_base ho0) hb); have n3_ := A_ (Kd.N_elder' (nN_ HO490) (Kd.R_base ho0) hb); have n4_ := A_ (Kd.R_lower (Kd.R_mono (ok' := fun k_ => True) ho0 (fun _ hk_ => trivial)) (below_size hs_)); have n5_ := A_ (blk_below (g := gb455) (o := .cells #[.slice A1_0 l1_0.length c1_0, .slice A1_1 l1_1.length c1_1] 48 (0, 0)) (nb_ BK455) hb); have n6_ := A_ (below_step hs_ hb); clear HO_10 HO_12 HO_15 HO490 BK455 HB; have HO_10 := n0_; have HO_12 := n1_; have HO_15 := n2_; have HO490 := n3_; have HO494 := n4_; have BK455 := n5_; have HB := n6_; clear n0_ n1_ n2_ n3_ n4_ n5_ n6_; (try clear hb); (try clear ho0)))
       (try simp only [Act.put, List.setIfInBounds_toArray, List.set_cons_zero, List.set_cons_succ])
       go_cut [160] (fun v160 wc => ∃ (kq : Nat) (x160_48 : Bool), v160 = .bool x160_48 ∧ Aside0 (conclavelaw06_TreeNoughts.j2 kq l1_1 t456 t460 t488 t492 x160_48 = some r) ∧ Aside0 (kq ≤ k2) ∧ Aside0 (Kd.V (Kd.int .u64) 49 wc w.heap.size (fun k_ => some k_ ≠ (v461 : Value).ownBlock ∧ some k_ ≠ (v489 : Value).ownBlock ∧ some k_ ≠ (v493 : Value).ownBlock ∧ k_ ≠ gb455) (.slice Ao50 t456.length co50) t456) ∧ Aside0 (Kd.N (Kd.slice 22 (Kd.slice 49 (Kd.int .u64))) 23 wc w.heap.size (fun k_ => some k_ ≠ (v489 : Value).ownBlock ∧ some k_ ≠ (v493 : Value).ownBlock ∧ k_ ≠ gb455) v461 t460) ∧ Aside0 (Kd.N (Kd.slice 49 (Kd.int .u64)) 22 wc w.heap.size (fun k_ => some k_ ≠ (v461 : Value).ownBlock ∧ some k_ ≠ (v493 : Value).ownBlock ∧ k_ ≠ gb455) v489 t488) ∧ Aside0 (Kd.R (Kd.int .u64) 49 wc w.heap.size (fun _ => True) v493 t492) ∧ Aside0 (wc.heap[gb455]? = some (.cells #[(.slice A1_0 l1_0.length c1_0), (.slice A1_1 l1_1.length c1_1)] 48 (0, 0))) ∧ Aside0 (Below w.heap.size w wc))
       case first =>
        as_aux_lemma =>
        have H := HC49.out
        clear HC49
        by_cases c55 : t459 = 0
        ·rw [if_pos c55] at H
         have c55b0 : (t459 == 0) = true := beq_iff_eq.mpr c55
         have c55b1 : (t459 != 0) = false := bne_eq_false_iff_eq.mpr c55
         clear c55
         (first | rw [c55b0] | rw [c55b1] | (simp only [i64_w, i32_w]; first | rw [c55b0] | rw [c55b1]) | skip)
         by_cases c56 : t463 = 0
         ·rw [if_pos c56] at H
          have c56b0 : (t463 == 0) = true := beq_iff_eq.mpr c56
          have c56b1 : (t463 != 0) = false := bne_eq_false_iff_eq.mpr c56
          clear c56
          by_cases c57 : t491 = 0
          ·rw [if_pos c57] at H
           have c57b0 : (t491 == 0) = true := beq_iff_eq.mpr c57
           have c57b1 : (t491 != 0) = false := bne_eq_false_iff_eq.mpr c57
           clear c57
           by_cases c58 : t495 = 0
           ·rw [if_pos c58] at H
            have c58b0 : (t495 == 0) = true := beq_iff_eq.mpr c58
            have c58b1 : (t495 != 0) = false := bne_eq_false_iff_eq.mpr c58
            clear c58
            by_cases c59 : t486 = 0
            ·rw [if_pos c59] at H
             have c59b0 : (t486 == 0) = true := beq_iff_eq.mpr c59
             have c59b1 : (t486 != 0) = false := bne_eq_false_iff_eq.mpr c59
             clear c59
             by_cases c60 : x14_2 = true
             ·subst c60
              have H1 : (if (t456.length : Int) = (wrap64 ((l1_1.length : Int) + 1)) then (if (t488.length : Int) = (l1_1.length : Int) then (conclavelaw06_TreeNoughts.j2 k2 l1_1 t456 t460 t488 t492 ((t492.length : Int) != (l1_1.length : Int))) else (conclavelaw06_TreeNoughts.j2 k2 l1_1 t456 t460 t488 t492 true)) else (conclavelaw06_TreeNoughts.j2 k2 l1_1 t456 t460 t488 t492 true)) = some r := by rw [if_pos rfl] at H; exact H
              clear H
              have H := H1
              clear H1
              by_cases c61 : (t456.length : Int) = (wrap64 ((l1_1.length : Int) + 1))
              ·rw [if_pos c61] at H
               have c61b0 : ((t456.length : Int) == (wrap64 ((l1_1.length : Int) + 1))) = true := beq_iff_eq.mpr c61
               have c61b1 : ((t456.length : Int) != (wrap64 ((l1_1.length : Int) + 1))) = false := bne_eq_false_iff_eq.mpr c61
               clear c61
               by_cases c62 : (t488.length : Int) = (l1_1.length : Int)
               ·rw [if_pos c62] at H
                have c62b0 : ((t488.length : Int) == (l1_1.length : Int)) = true := beq_iff_eq.mpr c62
                have c62b1 : ((t488.length : Int) != (l1_1.length : Int)) = false := bne_eq_false_iff_eq.mpr c62
                have c62b2 : (t488.length == l1_1.length) = true := by first | simpa using c62 | (simp at c62 ⊢; omega)
                clear c62
                have H' := Aside0.mk H
                clear H
                obtain ⟨Ao63, co63, eo63⟩ := Kd.N_slice HO490.out
                subst eo63
                obtain ⟨Ao64, co64, eo64⟩ := Kd.R_slice HO494.out
                subst eo64
                go_wp2
                go_meet
                case rel => exact ⟨_, (((t492.length : Int) != (l1_1.length : Int))), (fs_), H', ⟨by have := HJ5.out; have := HK2.out; first | omega | exact Nat.le_refl _⟩, ⟨by (with_reducible repeat (first | apply Kd.V_alloc | apply Kd.V_drewN | apply Kd.V_drew)); exact Kd.V_mono HO_10.out (fun _ hk => ⟨hk.1.1.1, ⟨hk.1.2, ⟨hk.2, hk.1.1.2.2⟩⟩⟩)⟩, ⟨by (with_reducible repeat (first | apply Kd.N_alloc | apply Kd.N_drewN | apply Kd.N_drew)); exact Kd.N_mono HO_12.out (fun _ hk => ⟨hk.1.2, ⟨hk.2, hk.1.1.2⟩⟩)⟩, ⟨by (with_reducible repeat (first | apply Kd.N_alloc | apply Kd.N_drewN | apply Kd.N_drew)); exact Kd.N_mono HO490.out (fun _ hk => ⟨hk.1.1, ⟨hk.2, hk.1.2⟩⟩)⟩, ⟨mR_ HO494.out⟩, ⟨mb_ BK455.out⟩, ⟨hs_⟩⟩
               ·rw [if_neg c62] at H
                have c62b0 : ((t488.length : Int) == (l1_1.length : Int)) = false := beq_eq_false_iff_ne.mpr c62
                have c62b1 : ((t488.length : Int) != (l1_1.length : Int)) = true := bne_iff_ne.mpr c62
                have c62b2 : (t488.length == l1_1.length) = false := by first | simpa using c62 | (simp at c62 ⊢; omega)
                have H' := Aside0.mk H
                clear H
                obtain ⟨Ao65, co65, eo65⟩ := Kd.N_slice HO490.out
                subst eo65
                go_wp2
                go_meet
                case rel => exact ⟨_, (true), (fs_), H', ⟨by have := HJ5.out; have := HK2.out; first | omega | exact Nat.le_refl _⟩, ⟨by (with_reducible repeat (first | apply Kd.V_alloc | apply Kd.V_drewN | apply Kd.V_drew)); exact Kd.V_mono HO_10.out (fun _ hk => ⟨hk.1.1.1, ⟨hk.1.2, ⟨hk.2, hk.1.1.2.2⟩⟩⟩)⟩, ⟨by (with_reducible repeat (first | apply Kd.N_alloc | apply Kd.N_drewN | apply Kd.N_drew)); exact Kd.N_mono HO_12.out (fun _ hk => ⟨hk.1.2, ⟨hk.2, hk.1.1.2⟩⟩)⟩, ⟨by (with_reducible repeat (first | apply Kd.N_alloc | apply Kd.N_drewN | apply Kd.N_drew)); exact Kd.N_mono HO490.out (fun _ hk => ⟨hk.1.1, ⟨hk.2, hk.1.2⟩⟩)⟩, ⟨mR_ HO494.out⟩, ⟨mb_ BK455.out⟩, ⟨hs_⟩⟩
              ·rw [if_neg c61] at H
               have c61b0 : ((t456.length : Int) == (wrap64 ((l1_1.length : Int) + 1))) = false := beq_eq_false_iff_ne.mpr c61
               have c61b1 : ((t456.length : Int) != (wrap64 ((l1_1.length : Int) + 1))) = true := bne_iff_ne.mpr c61
               have H' := Aside0.mk H
               clear H
               go_wp2
               go_meet
               case rel => exact ⟨_, (true), (fs_), H', ⟨by have := HJ5.out; have := HK2.out; first | omega | exact Nat.le_refl _⟩, ⟨by (with_reducible repeat (first | apply Kd.V_alloc | apply Kd.V_drewN | apply Kd.V_drew)); exact Kd.V_mono HO_10.out (fun _ hk => ⟨hk.1.1.1, ⟨hk.1.2, ⟨hk.2, hk.1.1.2.2⟩⟩⟩)⟩, ⟨by (with_reducible repeat (first | apply Kd.N_alloc | apply Kd.N_drewN | apply Kd.N_drew)); exact Kd.N_mono HO_12.out (fun _ hk => ⟨hk.1.2, ⟨hk.2, hk.1.1.2⟩⟩)⟩, ⟨by (with_reducible repeat (first | apply Kd.N_alloc | apply Kd.N_drewN | apply Kd.N_drew)); exact Kd.N_mono HO490.out (fun _ hk => ⟨hk.1.1, ⟨hk.2, hk.1.2⟩⟩)⟩, ⟨mR_ HO494.out⟩, ⟨mb_ BK455.out⟩, ⟨hs_⟩⟩
             ·replace c60 := Bool.eq_false_iff.mpr c60
              subst c60
              have H1 : (conclavelaw06_TreeNoughts.j2 k2 l1_1 t456 t460 t488 t492 true) = some r := by rw [if_neg (show ¬ (false = true) by decide)] at H; exact H
              clear H
              have H := H1
              clear H1
              have H' := Aside0.mk H
              clear H
              go_wp2
              go_meet
              case rel => exact ⟨_, (true), (fs_), H', ⟨by have := HJ5.out; have := HK2.out; first | omega | exact Nat.le_refl _⟩, ⟨by (with_reducible repeat (first | apply Kd.V_alloc | apply Kd.V_drewN | apply Kd.V_drew)); exact Kd.V_mono HO_10.out (fun _ hk => ⟨hk.1.1.1, ⟨hk.1.2, ⟨hk.2, hk.1.1.2.2⟩⟩⟩)⟩, ⟨by (with_reducible repeat (first | apply Kd.N_alloc | apply Kd.N_drewN | apply Kd.N_drew)); exact Kd.N_mono HO_12.out (fun _ hk => ⟨hk.1.2, ⟨hk.2, hk.1.1.2⟩⟩)⟩, ⟨by (with_reducible repeat (first | apply Kd.N_alloc | apply Kd.N_drewN | apply Kd.N_drew)); exact Kd.N_mono HO490.out (fun _ hk => ⟨hk.1.1, ⟨hk.2, hk.1.2⟩⟩)⟩, ⟨mR_ HO494.out⟩, ⟨mb_ BK455.out⟩, ⟨hs_⟩⟩
            ·rw [if_neg c59] at H
             have c59b0 : (t486 == 0) = false := beq_eq_false_iff_ne.mpr c59
             have c59b1 : (t486 != 0) = true := bne_iff_ne.mpr c59
             by_cases c66 : x14_2 = true
             ·subst c66
              have H1 : (conclavelaw06_TreeNoughts.j2 k2 l1_1 t456 t460 t488 t492 true) = some r := by rw [if_pos rfl] at H; exact H
              clear H
              have H := H1
              clear H1
              have H' := Aside0.mk H
              clear H
              go_wp2
              go_meet
              case rel => exact ⟨_, (true), (fs_), H', ⟨by have := HJ5.out; have := HK2.out; first | omega | exact Nat.le_refl _⟩, ⟨by (with_reducible repeat (first | apply Kd.V_alloc | apply Kd.V_drewN | apply Kd.V_drew)); exact Kd.V_mono HO_10.out (fun _ hk => ⟨hk.1.1.1, ⟨hk.1.2, ⟨hk.2, hk.1.1.2.2⟩⟩⟩)⟩, ⟨by (with_reducible repeat (first | apply Kd.N_alloc | apply Kd.N_drewN | apply Kd.N_drew)); exact Kd.N_mono HO_12.out (fun _ hk => ⟨hk.1.2, ⟨hk.2, hk.1.1.2⟩⟩)⟩, ⟨by (with_reducible repeat (first | apply Kd.N_alloc | apply Kd.N_drewN | apply Kd.N_drew)); exact Kd.N_mono HO490.out (fun _ hk => ⟨hk.1.1, ⟨hk.2, hk.1.2⟩⟩)⟩, ⟨mR_ HO494.out⟩, ⟨mb_ BK455.out⟩, ⟨hs_⟩⟩
             ·replace c66 := Bool.eq_false_iff.mpr c66
              subst c66
              have H1 : (if (t456.length : Int) = (wrap64 ((l1_1.length : Int) + 1)) then (if (t488.length : Int) = (l1_1.length : Int) then (conclavelaw06_TreeNoughts.j2 k2 l1_1 t456 t460 t488 t492 ((t492.length : Int) != (l1_1.length : Int))) else (conclavelaw06_TreeNoughts.j2 k2 l1_1 t456 t460 t488 t492 true)) else (conclavelaw06_TreeNoughts.j2 k2 l1_1 t456 t460 t488 t492 true)) = some r := by rw [if_neg (show ¬ (false = true) by decide)] at H; exact H
              clear H
              have H := H1
              clear H1
              by_cases c67 : (t456.length : Int) = (wrap64 ((l1_1.length : Int) + 1))
              ·rw [if_pos c67] at H
               have c67b0 : ((t456.length : Int) == (wrap64 ((l1_1.length : Int) + 1))) = true := beq_iff_eq.mpr c67
               have c67b1 : ((t456.length : Int) != (wrap64 ((l1_1.length : Int) + 1))) = false := bne_eq_false_iff_eq.mpr c67
               clear c67
               by_cases c68 : (t488.length : Int) = (l1_1.length : Int)
               ·rw [if_pos c68] at H
                have c68b0 : ((t488.length : Int) == (l1_1.length : Int)) = true := beq_iff_eq.mpr c68
                have c68b1 : ((t488.length : Int) != (l1_1.length : Int)) = false := bne_eq_false_iff_eq.mpr c68
                have c68b2 : (t488.length == l1_1.length) = true := by first | simpa using c68 | (simp at c68 ⊢; omega)
                clear c68
                have H' := Aside0.mk H
                clear H
                obtain ⟨Ao69, co69, eo69⟩ := Kd.N_slice HO490.out
                subst eo69
                obtain ⟨Ao70, co70, eo70⟩ := Kd.R_slice HO494.out
                subst eo70
                go_wp2
                go_meet
                case rel => exact ⟨_, (((t492.length : Int) != (l1_1.length : Int))), (fs_), H', ⟨by have := HJ5.out; have := HK2.out; first | omega | exact Nat.le_refl _⟩, ⟨by (with_reducible repeat (first | apply Kd.V_alloc | apply Kd.V_drewN | apply Kd.V_drew)); exact Kd.V_mono HO_10.out (fun _ hk => ⟨hk.1.1.1, ⟨hk.1.2, ⟨hk.2, hk.1.1.2.2⟩⟩⟩)⟩, ⟨by (with_reducible repeat (first | apply Kd.N_alloc | apply Kd.N_drewN | apply Kd.N_drew)); exact Kd.N_mono HO_12.out (fun _ hk => ⟨hk.1.2, ⟨hk.2, hk.1.1.2⟩⟩)⟩, ⟨by (with_reducible repeat (first | apply Kd.N_alloc | apply Kd.N_drewN | apply Kd.N_drew)); exact Kd.N_mono HO490.out (fun _ hk => ⟨hk.1.1, ⟨hk.2, hk.1.2⟩⟩)⟩, ⟨mR_ HO494.out⟩, ⟨mb_ BK455.out⟩, ⟨hs_⟩⟩
               ·rw [if_neg c68] at H
                have c68b0 : ((t488.length : Int) == (l1_1.length : Int)) = false := beq_eq_false_iff_ne.mpr c68
                have c68b1 : ((t488.length : Int) != (l1_1.length : Int)) = true := bne_iff_ne.mpr c68
                have c68b2 : (t488.length == l1_1.length) = false := by first | simpa using c68 | (simp at c68 ⊢; omega)
                have H' := Aside0.mk H
                clear H
                obtain ⟨Ao71, co71, eo71⟩ := Kd.N_slice HO490.out
                subst eo71
                go_wp2
                go_meet
                case rel => exact ⟨_, (true), (fs_), H', ⟨by have := HJ5.out; have := HK2.out; first | omega | exact Nat.le_refl _⟩, ⟨by (with_reducible repeat (first | apply Kd.V_alloc | apply Kd.V_drewN | apply Kd.V_drew)); exact Kd.V_mono HO_10.out (fun _ hk => ⟨hk.1.1.1, ⟨hk.1.2, ⟨hk.2, hk.1.1.2.2⟩⟩⟩)⟩, ⟨by (with_reducible repeat (first | apply Kd.N_alloc | apply Kd.N_drewN | apply Kd.N_drew)); exact Kd.N_mono HO_12.out (fun _ hk => ⟨hk.1.2, ⟨hk.2, hk.1.1.2⟩⟩)⟩, ⟨by (with_reducible repeat (first | apply Kd.N_alloc | apply Kd.N_drewN | apply Kd.N_drew)); exact Kd.N_mono HO490.out (fun _ hk => ⟨hk.1.1, ⟨hk.2, hk.1.2⟩⟩)⟩, ⟨mR_ HO494.out⟩, ⟨mb_ BK455.out⟩, ⟨hs_⟩⟩
              ·rw [if_neg c67] at H
               have c67b0 : ((t456.length : Int) == (wrap64 ((l1_1.length : Int) + 1))) = false := beq_eq_false_iff_ne.mpr c67
               have c67b1 : ((t456.length : Int) != (wrap64 ((l1_1.length : Int) + 1))) = true := bne_iff_ne.mpr c67
               have H' := Aside0.mk H
               clear H
               go_wp2
               go_meet
               case rel => exact ⟨_, (true), (fs_), H', ⟨by have := HJ5.out; have := HK2.out; first | omega | exact Nat.le_refl _⟩, ⟨by (with_reducible repeat (first | apply Kd.V_alloc | apply Kd.V_drewN | apply Kd.V_drew)); exact Kd.V_mono HO_10.out (fun _ hk => ⟨hk.1.1.1, ⟨hk.1.2, ⟨hk.2, hk.1.1.2.2⟩⟩⟩)⟩, ⟨by (with_reducible repeat (first | apply Kd.N_alloc | apply Kd.N_drewN | apply Kd.N_drew)); exact Kd.N_mono HO_12.out (fun _ hk => ⟨hk.1.2, ⟨hk.2, hk.1.1.2⟩⟩)⟩, ⟨by (with_reducible repeat (first | apply Kd.N_alloc | apply Kd.N_drewN | apply Kd.N_drew)); exact Kd.N_mono HO490.out (fun _ hk => ⟨hk.1.1, ⟨hk.2, hk.1.2⟩⟩)⟩, ⟨mR_ HO494.out⟩, ⟨mb_ BK455.out⟩, ⟨hs_⟩⟩
           ·rw [if_neg c58] at H
            have c58b0 : (t495 == 0) = false := beq_eq_false_iff_ne.mpr c58
            have c58b1 : (t495 != 0) = true := bne_iff_ne.mpr c58
            have H' := Aside0.mk H
            clear H
            go_wp2
            go_meet
            case rel => exact ⟨_, (true), (fs_), H', ⟨by have := HJ5.out; have := HK2.out; first | omega | exact Nat.le_refl _⟩, ⟨by (with_reducible repeat (first | apply Kd.V_alloc | apply Kd.V_drewN | apply Kd.V_drew)); exact Kd.V_mono HO_10.out (fun _ hk => ⟨hk.1.1.1, ⟨hk.1.2, ⟨hk.2, hk.1.1.2.2⟩⟩⟩)⟩, ⟨by (with_reducible repeat (first | apply Kd.N_alloc | apply Kd.N_drewN | apply Kd.N_drew)); exact Kd.N_mono HO_12.out (fun _ hk => ⟨hk.1.2, ⟨hk.2, hk.1.1.2⟩⟩)⟩, ⟨by (with_reducible repeat (first | apply Kd.N_alloc | apply Kd.N_drewN | apply Kd.N_drew)); exact Kd.N_mono HO490.out (fun _ hk => ⟨hk.1.1, ⟨hk.2, hk.1.2⟩⟩)⟩, ⟨mR_ HO494.out⟩, ⟨mb_ BK455.out⟩, ⟨hs_⟩⟩
          ·rw [if_neg c57] at H
           have c57b0 : (t491 == 0) = false := beq_eq_false_iff_ne.mpr c57
           have c57b1 : (t491 != 0) = true := bne_iff_ne.mpr c57
           have H' := Aside0.mk H
           clear H
           go_wp2
           go_meet
           case rel => exact ⟨_, (true), (fs_), H', ⟨by have := HJ5.out; have := HK2.out; first | omega | exact Nat.le_refl _⟩, ⟨by (with_reducible repeat (first | apply Kd.V_alloc | apply Kd.V_drewN | apply Kd.V_drew)); exact Kd.V_mono HO_10.out (fun _ hk => ⟨hk.1.1.1, ⟨hk.1.2, ⟨hk.2, hk.1.1.2.2⟩⟩⟩)⟩, ⟨by (with_reducible repeat (first | apply Kd.N_alloc | apply Kd.N_drewN | apply Kd.N_drew)); exact Kd.N_mono HO_12.out (fun _ hk => ⟨hk.1.2, ⟨hk.2, hk.1.1.2⟩⟩)⟩, ⟨by (with_reducible repeat (first | apply Kd.N_alloc | apply Kd.N_drewN | apply Kd.N_drew)); exact Kd.N_mono HO490.out (fun _ hk => ⟨hk.1.1, ⟨hk.2, hk.1.2⟩⟩)⟩, ⟨mR_ HO494.out⟩, ⟨mb_ BK455.out⟩, ⟨hs_⟩⟩
         ·rw [if_neg c56] at H
          have c56b0 : (t463 == 0) = false := beq_eq_false_iff_ne.mpr c56
          have c56b1 : (t463 != 0) = true := bne_iff_ne.mpr c56
          have H' := Aside0.mk H
          clear H
          go_wp2
          go_meet
          case rel => exact ⟨_, (true), (fs_), H', ⟨by have := HJ5.out; have := HK2.out; first | omega | exact Nat.le_refl _⟩, ⟨by (with_reducible repeat (first | apply Kd.V_alloc | apply Kd.V_drewN | apply Kd.V_drew)); exact Kd.V_mono HO_10.out (fun _ hk => ⟨hk.1.1.1, ⟨hk.1.2, ⟨hk.2, hk.1.1.2.2⟩⟩⟩)⟩, ⟨by (with_reducible repeat (first | apply Kd.N_alloc | apply Kd.N_drewN | apply Kd.N_drew)); exact Kd.N_mono HO_12.out (fun _ hk => ⟨hk.1.2, ⟨hk.2, hk.1.1.2⟩⟩)⟩, ⟨by (with_reducible repeat (first | apply Kd.N_alloc | apply Kd.N_drewN | apply Kd.N_drew)); exact Kd.N_mono HO490.out (fun _ hk => ⟨hk.1.1, ⟨hk.2, hk.1.2⟩⟩)⟩, ⟨mR_ HO494.out⟩, ⟨mb_ BK455.out⟩, ⟨hs_⟩⟩
        ·rw [if_neg c55] at H
         have c55b0 : (t459 == 0) = false := beq_eq_false_iff_ne.mpr c55
         have c55b1 : (t459 != 0) = true := bne_iff_ne.mpr c55
         (first | rw [c55b0] | rw [c55b1] | (simp only [i64_w, i32_w]; first | rw [c55b0] | rw [c55b1]) | skip)
         have H' := Aside0.mk H
         clear H
         go_wp2
         go_meet
         case rel => exact ⟨_, (true), (fs_), H', ⟨by have := HJ5.out; have := HK2.out; first | omega | exact Nat.le_refl _⟩, ⟨by (with_reducible repeat (first | apply Kd.V_alloc | apply Kd.V_drewN | apply Kd.V_drew)); exact Kd.V_mono HO_10.out (fun _ hk => ⟨hk.1.1.1, ⟨hk.1.2, ⟨hk.2, hk.1.1.2.2⟩⟩⟩)⟩, ⟨by (with_reducible repeat (first | apply Kd.N_alloc | apply Kd.N_drewN | apply Kd.N_drew)); exact Kd.N_mono HO_12.out (fun _ hk => ⟨hk.1.2, ⟨hk.2, hk.1.1.2⟩⟩)⟩, ⟨by (with_reducible repeat (first | apply Kd.N_alloc | apply Kd.N_drewN | apply Kd.N_drew)); exact Kd.N_mono HO490.out (fun _ hk => ⟨hk.1.1, ⟨hk.2, hk.1.2⟩⟩)⟩, ⟨mR_ HO494.out⟩, ⟨mb_ BK455.out⟩, ⟨hs_⟩⟩
       case rest =>
        clear HC49
        try clear c1
        try clear c2
        try clear p2
        try clear c3
        try clear c4
        try clear p4
        try clear q4
        try clear hx4
        try clear c5
        try clear c6
        try clear p6
        try clear c7
        try clear c9
        try clear c12
        try clear c12b0
        try clear c12b1
        try clear c14
        try clear c14b0
        try clear c14b1
        try clear c15
        try clear c15b0
        try clear c15b1
        try clear c17
        try clear c19
        try clear c20
        try clear c22
        try clear c25
        try clear c26
        try clear c27
        try clear c28
        try clear c28b0
        try clear c28b1
        try clear c32
        try clear c32b0
        try clear c33
        try clear c34
        try clear c34b0
        try clear c36
        try clear c40
        try clear c40b0
        try clear c42
        try clear p47
        try clear q47
        try clear hx47
        try clear c55
        try clear c55b0
        try clear c55b1
        try clear c56
        try clear c56b0
        try clear c56b1
        try clear c57
        try clear c57b0
        try clear c57b1
        try clear c58
        try clear c58b0
        try clear c58b1
        try clear c59
        try clear c59b0
        try clear c59b1
        try clear c60
        try clear c61
        try clear c61b0
        try clear c61b1
        try clear c62
        try clear c62b0
        try clear c62b1
        try clear c62b2
        try clear p64
        try clear c66
        try clear c67
        try clear c67b0
        try clear c67b1
        try clear c68
        try clear c68b0
        try clear c68b1
        try clear c68b2
        try clear hx471_0
        try clear hx478_0
        try clear hx479_0
        try clear p2
        try clear p471
        try clear p478
        try clear p479
        try clear q471
        try clear q478
        try clear q479
        obtain ⟨kq, x160_48, rfl, HA, HJ48, HO_10, HO_12, HO_19, HO_21, BK455, HB⟩ := hcut
        cases kq with
        | zero => exact absurd HA.out (by simp [conclavelaw06_TreeNoughts.j2])
        | succ kj48 =>
         as_aux_lemma =>
         have H := HA.out
         clear HA
         simp only [conclavelaw06_TreeNoughts.j2] at H
         by_cases c72 : x160_48 = true
         ·subst c72
          have H1 : (none) = some r := by rw [if_pos rfl] at H; exact H
          clear H
          have H := H1
          clear H1
          exact absurd H (by simp)
         ·replace c72 := Bool.eq_false_iff.mpr c72
          subst c72
          have H1 : (conclavelaw06_TreeNoughts.l1 kj48 l1_1 t456 t460 t488 t492 0) = some r := by rw [if_neg (show ¬ (false = true) by decide)] at H; exact H
          clear H
          have H := H1
          clear H1
          have H' := Aside0.mk H
          clear H
          go_wp2
          go_loopg [23] kj48 (fun kq v23 w' => ∃ (x23_4 : Int), v23 = .int .i64 x23_4 ∧ Aside0 (conclavelaw06_TreeNoughts.l1 kq l1_1 t456 t460 t488 t492 x23_4 = some r) ∧ Aside0 (kq ≤ kj48) ∧ Aside0 (Kd.V (Kd.int .u64) 49 w' w.heap.size (fun k_ => some k_ ≠ (v461 : Value).ownBlock ∧ some k_ ≠ (v489 : Value).ownBlock ∧ some k_ ≠ (v493 : Value).ownBlock ∧ k_ ≠ gb455) (.slice Ao50 t456.length co50) t456) ∧ Aside0 (Kd.N (Kd.slice 22 (Kd.slice 49 (Kd.int .u64))) 23 w' w.heap.size (fun k_ => some k_ ≠ (v489 : Value).ownBlock ∧ some k_ ≠ (v493 : Value).ownBlock ∧ k_ ≠ gb455) v461 t460) ∧ Aside0 (Kd.N (Kd.slice 49 (Kd.int .u64)) 22 w' w.heap.size (fun k_ => some k_ ≠ (v461 : Value).ownBlock ∧ some k_ ≠ (v493 : Value).ownBlock ∧ k_ ≠ gb455) v489 t488) ∧ Aside0 (Kd.R (Kd.int .u64) 49 w' w.heap.size (fun _ => True) v493 t492) ∧ Aside0 (w'.heap[gb455]? = some (.cells #[(.slice A1_0 l1_0.length c1_0), (.slice A1_1 l1_1.length c1_1)] 48 (0, 0))) ∧ Aside0 (Below w.heap.size w w'))
          case atStart => exact ⟨(0), (fs_), H', ⟨Nat.le_refl _⟩, ⟨mV_ HO_10.out⟩, ⟨mN_ HO_12.out⟩, ⟨mN_ HO_19.out⟩, ⟨mR_ HO_21.out⟩, ⟨mb_ BK455.out⟩, ⟨hs_⟩⟩
          case round =>
           clear H'
           try clear c1
           try clear c2
           try clear p2
           try clear c3
           try clear c4
           try clear p4
           try clear q4
           try clear hx4
           try clear c5
           try clear c6
           try clear p6
           try clear c7
           try clear c9
           try clear c12
           try clear c12b0
           try clear c12b1
           try clear c14
           try clear c14b0
           try clear c14b1
           try clear c15
           try clear c15b0
           try clear c15b1
           try clear c17
           try clear c19
           try clear c20
           try clear c22
           try clear c25
           try clear c26
           try clear c27
           try clear c28
           try clear c28b0
           try clear c28b1
           try clear c32
           try clear c32b0
           try clear c33
           try clear c34
           try clear c34b0
           try clear c36
           try clear c40
           try clear c40b0
           try clear c42
           try clear p47
           try clear q47
           try clear hx47
           try clear c55
           try clear c55b0
           try clear c55b1
           try clear c56
           try clear c56b0
           try clear c56b1
           try clear c57
           try clear c57b0
           try clear c57b1
           try clear c58
           try clear c58b0
           try clear c58b1
           try clear c59
           try clear c59b0
           try clear c59b1
           try clear c60
           try clear c61
           try clear c61b0
           try clear c61b1
           try clear c62
           try clear c62b0
           try clear c62b1
           try clear c62b2
           try clear p64
           try clear c66
           try clear c67
           try clear c67b0
           try clear c67b1
           try clear c68
           try clear c68b0
           try clear c68b1
           try clear c68b2
           try clear c72
           try clear hx471_0
           try clear hx478_0
           try clear hx479_0
           try clear p2
           try clear p4
           try clear p47
           try clear p471
           try clear p478
           try clear p479
           try clear p6
           try clear p64
           try clear q4
           try clear q47
           try clear q471
           try clear q478
           try clear q479
           obtain ⟨x23_4, rfl, HA, HK4, HO_10, HO_12, HO_19, HO_21, BK455, HB⟩ := hrel
           cases gk with
           | zero => exact absurd HA.out (by simp [conclavelaw06_TreeNoughts.l1])
           | succ k4 =>
            as_aux_lemma =>
            have H := HA.out
            clear HA
            simp only [conclavelaw06_TreeNoughts.l1] at H
            by_cases c73 : x23_4 < (l1_1.length : Int)
            ·rw [if_pos c73] at H
             have c73b0 : decide (x23_4 < (l1_1.length : Int)) = true := decide_eq_true c73
             clear c73
             by_cases c74 : 0 ≤ x23_4
             ·rw [if_pos c74] at H
              have c74b0 := eq_true c74
              have c74b1 : decide (0 ≤ x23_4) = true := decide_eq_true c74
              clear c74
              by_cases c75 : x23_4 ≤ (wrap64 (x23_4 + 1))
              ·rw [if_pos c75] at H
               have c75b0 := eq_true c75
               have c75b1 : decide (x23_4 ≤ (wrap64 (x23_4 + 1))) = true := decide_eq_true c75
               by_cases c76 : (wrap64 (x23_4 + 1)) ≤ (t492.length : Int)
               ·rw [if_pos c76] at H
                have c76b0 := eq_true c76
                have c76b1 : decide ((wrap64 (x23_4 + 1)) ≤ (t492.length : Int)) = true := decide_eq_true c76
                obtain ⟨y505, hy505⟩ : ∃ y_ : List Int, y_ = ((t492.take ((wrap64 (x23_4 + 1)) : Int).toNat).drop (x23_4 : Int).toNat) := ⟨_, rfl⟩
                replace H : ((cr3_Trim.f k4 y505).bind fun t510 => (if x23_4 < (t488.length : Int) then ((cr1_Same.f k4 t510 (rd_L1 t488 x23_4)).bind fun t514 => (if t514 = true then (conclavelaw06_TreeNoughts.l1 k4 l1_1 t456 t460 t488 t492 (wrap64 (x23_4 + 1))) else (none))) else (none))) = some r := by first | (rw [hy505]; with_reducible exact H) | (have H2_ := (Option.bind_some _ _).symm.trans H; rw [hy505]; with_reducible exact H2_) | (have H2_ := (Option.bind_some _ _).symm.trans H; with_reducible exact H2_) | with_reducible exact H | (rw [hy505]; exact H) | exact H
                have Ny505 := Aside0.mk hy505
                clear hy505
                replace H := Option.bind_eq_some_iff.mp H
                obtain ⟨t510, A770, H⟩ := H
                replace H : (if x23_4 < (t488.length : Int) then ((cr1_Same.f k4 t510 (rd_L1 t488 x23_4)).bind fun t514 => (if t514 = true then (conclavelaw06_TreeNoughts.l1 k4 l1_1 t456 t460 t488 t492 (wrap64 (x23_4 + 1))) else (none))) else (none)) = some r := H
                have A77 := Aside0.mk A770
                clear A770
                by_cases c78 : x23_4 < (t488.length : Int)
                ·rw [if_pos c78] at H
                 have c78b0 : decide (x23_4 < (t488.length : Int)) = true := decide_eq_true c78
                 clear c78
                 replace H := Option.bind_eq_some_iff.mp H
                 obtain ⟨t514, A790, H⟩ := H
                 replace H : (if t514 = true then (conclavelaw06_TreeNoughts.l1 k4 l1_1 t456 t460 t488 t492 (wrap64 (x23_4 + 1))) else (none)) = some r := H
                 have A79 := Aside0.mk A790
                 clear A790
                 by_cases c80 : t514 = true
                 ·subst c80
                  have H1 : (conclavelaw06_TreeNoughts.l1 k4 l1_1 t456 t460 t488 t492 (wrap64 (x23_4 + 1))) = some r := by rw [if_pos rfl] at H; exact H
                  clear H
                  have H := H1
                  clear H1
                  have H' := Aside0.mk H
                  clear H
                  try go_wp2
                  have n0_ := A_ (Kd.V_drew HO_10.out)
                  have n1_ := A_ (Kd.N_drew HO_12.out)
                  have n2_ := A_ (Kd.N_drew HO_19.out)
                  have n3_ := A_ (Kd.R_drew HO_21.out)
                  have n4_ := A_ (blk_drew BK455.out)
                  have n5_ := A_ (below_drew1 HB.out)
                  clear HO_10
                  clear HO_12
                  clear HO_19
                  clear HO_21
                  clear BK455
                  clear HB
                  have HO_10 := n0_
                  have HO_12 := n1_
                  have HO_19 := n2_
                  have HO_21 := n3_
                  have BK455 := n4_
                  have HB := n5_
                  clear n0_ n1_ n2_ n3_ n4_ n5_
                  obtain ⟨Ao83, co83, eo83⟩ := Kd.R_slice HO_21.out
                  (first | subst eo83 | (injection eo83 with f1_ f2_ f3_; have f4_ := f1_.symm; have f5_ := f3_.symm; clear f1_ f2_ f3_; subst f4_; subst f5_))
                  have q82 : ((wrap64 (x23_4 + 1)) : Int) ≤ ((t492.length : Int) : Int) := of_decide_eq_true (by first | (with_reducible assumption) | assumption)
                  obtain ⟨i082, hi082, _, hsz82, _⟩ := info_parts info49
                  have hroom82 : t492.length ≤ co83 := (Kd.R_reads' HO_21.out).2.1
                  have hC82 : Kd.F (Kd.int .u64) _ _ Ao83 t492.length t492 := (Kd.V_at (base := w.heap.size) (Kd.R_V (Kd.R_types (Kd.R_apart' (Kd.R_apart' (HO_21.out) (Kd.N_typed HO_12.out) (by decide)) (Kd.N_typed HO_19.out) (by decide)) BK455.out (by decide)))).2.2
                  have ql82 : (x23_4 : Int) ≤ ((wrap64 (x23_4 + 1)) : Int) := of_decide_eq_true (by first | (with_reducible assumption) | assumption)
                  have q082 : (0 : Int) ≤ (x23_4 : Int) := of_decide_eq_true (by first | (with_reducible assumption) | assumption)
                  have hcut82 := cut_mid (P := Try.prog) 22 49 .i64 .i64 Try.underlying22 hi082 1 hsz82 Ao83 t492.length co83 x23_4 (wrap64 (x23_4 + 1)) q082 ql82 q82 hroom82
                  have hr82 := Kd.F_mid (lo := (x23_4 : Int).toNat) (hi := ((wrap64 (x23_4 + 1)) : Int).toNat) (c := co83) hC82 (by omega) (by omega) hroom82
                  obtain ⟨A82, hA82⟩ : ∃ A1, A1 = (if co83 = (x23_4 : Int).toNat then Ao83 else (Ao83 : Option Addr).map (·.add ((x23_4 : Int).toNat * 1))) := ⟨_, rfl⟩
                  obtain ⟨c82, hc82⟩ : ∃ c1, c1 = co83 - (x23_4 : Int).toNat := ⟨_, rfl⟩
                  have hy82 : y505.length = ((wrap64 (x23_4 + 1)) : Int).toNat - (x23_4 : Int).toNat := (by rw [Ny505.out, List.length_drop, List.length_take] <;> omega)
                  rw [show ((t492).take ((wrap64 (x23_4 + 1)) : Int).toNat).drop (x23_4 : Int).toNat = y505 from Ny505.out.symm] at hr82
                  replace hr82 : Kd.F (Kd.int .u64) _ _ A82 y505.length y505 := (by rw [hA82]; exact hr82)
                  rw [← hy82, ← hA82, ← hc82] at hcut82
                  have HO509 := A_ (show Kd.V (Kd.int .u64) 49 _ w.heap.size _ (.slice A82 y505.length c82) y505 from Kd.V_mk (by rw [hy82, hc82]; exact Nat.sub_le_sub_right (Nat.le_trans (by omega) hroom82) _) hr82)
                  have HC509 := A_ (show y505.length ≤ c82 from by rw [hy82, hc82]; exact Nat.sub_le_sub_right (Nat.le_trans (by omega) hroom82) _)
                  clear hr82 hC82 hroom82 hi082 hsz82 hc82
                  have KY82 := Aside0.mk hy82
                  have KA82 := Aside0.mk hA82
                  clear hy82 hA82
                  replace q82 := eq_true q82
                  obtain ⟨Ao84, co84, eo84⟩ := Kd.N_slice HO_19.out
                  (first | subst eo84 | (injection eo84 with f1_ f2_ f3_; have f4_ := f1_.symm; have f5_ := f3_.symm; clear f1_ f2_ f3_; subst f4_; subst f5_))
                  have p513 : 0 ≤ (x23_4 : Int) := of_decide_eq_true (by first | (with_reducible assumption) | assumption)
                  have q513 : x23_4 < (t488.length : Int) := of_decide_eq_true (by first | (with_reducible assumption) | assumption)
                  obtain ⟨ad513, A513_0, c513_0, e513, hx513_0, hl513_0, hi513_0⟩ := at_L1 (Kd.N_reads' HO_19.out).2.2 x23_4 p513 q513
                  cases e513
                  obtain ⟨ce513, hce513, hMe513, hcc513⟩ := Kd.N_get HO_19.out [] x23_4 p513 (by first | exact q513 | exact of_decide_eq_true (by first | (with_reducible assumption) | assumption) | (have e_ := (Kd.N_reads' HO_19.out).1; omega))
                  obtain ⟨ua513_0, uc513_0, rfl, ul513_0, ge513_0⟩ := Kd.FK_slice_open hMe513
                  have hv513_0 := hcc513 0 _ rfl
                  rw [Nat.add_zero, show ((Kd.slice 49 (Kd.int .u64))).sz = 1 from rfl, Nat.mul_one] at hv513_0
                  replace hv513_0 := Option.some.inj (hv513_0.symm.trans hx513_0)
                  injection hv513_0 with hva_ hvn_ hvc_
                  rw [hva_] at ge513_0
                  rw [hvc_] at ul513_0
                  have HL513_0 := A_ (show Kd.V (Kd.int .u64) 49 _ w.heap.size _ _ (rd_L1 t488 x23_4) from Kd.V_mk ul513_0 ge513_0)
                  clear hva_ hvn_ hvc_ ge513_0 ul513_0
                  clear hcc513 hce513
                  have HR513_0 := Aside0.mk hi513_0
                  have HC513_0 := Aside0.mk hl513_0
                  clear hi513_0 hl513_0
                  replace p513 := eq_true p513
                  replace q513 := eq_true q513
                  refine start_ (n := 12) (S := fun w' => w'.cell? (ad513.add (x23_4).toNat) = some (.slice A513_0 (rd_L1 t488 x23_4).length c513_0)) (ds := []) #[false, false, false, false, false, false, false, false, false, false, false, false] (by kernel_rfl) rfl rfl (hx513_0) (fun hHeld => ?_); refine with_tabW conclavelaw06_TreeNoughts.tab22 conclavelaw06_TreeNoughts.bits22 (fun HT_ HW_ => ?_)
                  generalize wr.drew = w81 at HO_10 HO_12 HO_19 HO_21 BK455 HB HL513_0 HO509 HR513_0 hx513_0 hHeld ⊢
                  refine pure_ (i := 0) (N := some 167) (v := ?_) (a' := ?_) #[true, false, false, false, false, false, false, false, false, false, false, false] rfl rfl (any_of HT_.out (by kernel_rfl)) (fun _ _ _ h => h) (Or.inl ⟨by rfl, ?_⟩) ?_ ?_
                  rotate_left
                  ·intro w'
                   go_simp
                   with_reducible rfl
                  rotate_left
                  ·simp only [Act.put, List.setIfInBounds_toArray, List.set_cons_zero, List.set_cons_succ, i64_w, i32_w]
                   rfl
                  refine pure_ (i := 1) (N := some 168) (v := ?_) (a' := ?_) #[true, true, false, false, false, false, false, false, false, false, false, false] rfl rfl (any_of HT_.out (by kernel_rfl)) (fun _ _ _ h => h) (Or.inl ⟨by rfl, ?_⟩) ?_ ?_
                  rotate_left
                  ·intro w'
                   go_simp
                   with_reducible rfl
                  rotate_left
                  ·simp only [Act.put, List.setIfInBounds_toArray, List.set_cons_zero, List.set_cons_succ, i64_w, i32_w]
                   rfl
                  refine pure_ (i := 2) (N := some 169) (v := ?_) (a' := ?_) #[true, true, true, false, false, false, false, false, false, false, false, false] rfl rfl (any_of HT_.out (by kernel_rfl)) (fun _ _ _ h => h) (Or.inl ⟨by rfl, ?_⟩) ?_ ?_
                  rotate_left
                  ·intro w'
                   go_simp
                   with_reducible rfl
                  rotate_left
                  ·simp only [Act.put, List.setIfInBounds_toArray, List.set_cons_zero, List.set_cons_succ, i64_w, i32_w]
                   rfl
                  refine pure_ (i := 3) (N := some 170) (v := ?_) (a' := ?_) #[true, true, true, true, false, false, false, false, false, false, false, false] rfl rfl (any_of HT_.out (by kernel_rfl)) (fun _ _ _ h => h) (Or.inl ⟨by rfl, ?_⟩) ?_ ?_
                  rotate_left
                  ·intro w'
                   go_simp
                   with_reducible rfl
                  rotate_left
                  ·simp only [Act.put, List.setIfInBounds_toArray, List.set_cons_zero, List.set_cons_succ, i64_w, i32_w]
                   rfl
                  refine pure_ (i := 4) (N := some 171) (v := ?_) (a' := ?_) #[true, true, true, true, true, false, false, false, false, false, false, false] rfl rfl (any_of HT_.out (by kernel_rfl)) (fun _ _ _ h => h) (Or.inl ⟨by rfl, ?_⟩) ?_ ?_
                  rotate_left
                  ·intro w'
                   go_simp
                   with_reducible rfl
                  rotate_left
                  ·simp only [Act.put, List.setIfInBounds_toArray, List.set_cons_zero, List.set_cons_succ, i64_w, i32_w]
                   rfl
                  refine pure_ (i := 6) (N := some 173) (v := ?_) (a' := ?_) #[true, true, true, true, true, false, true, false, false, false, false, false] rfl rfl (any_of HT_.out (by kernel_rfl)) (fun _ _ _ h => h) (Or.inl ⟨by rfl, ?_⟩) ?_ ?_
                  rotate_left
                  ·intro w'
                   go_simp
                   with_reducible rfl
                  rotate_left
                  ·simp only [Act.put, List.setIfInBounds_toArray, List.set_cons_zero, List.set_cons_succ, i64_w, i32_w]
                   rfl
                  refine pure_ (i := 7) (N := some 174) (v := ?_) (a' := ?_) #[true, true, true, true, true, false, true, true, false, false, false, false] rfl rfl (any_of HT_.out (by kernel_rfl)) (fun _ _ _ h => h) (Or.inl ⟨by rfl, ?_⟩) ?_ ?_
                  rotate_left
                  ·intro w'
                   go_simp
                   with_reducible rfl
                  rotate_left
                  ·simp only [Act.put, List.setIfInBounds_toArray, List.set_cons_zero, List.set_cons_succ, i64_w, i32_w]
                   rfl
                  refine pure_ (i := 8) (N := some 175) (v := ?_) (a' := ?_) #[true, true, true, true, true, false, true, true, true, false, false, false] rfl rfl (any_of HT_.out (by kernel_rfl)) (fun _ _ _ h => h) (Or.inl ⟨by rfl, ?_⟩) ?_ ?_
                  rotate_left
                  ·intro w'
                   go_simp
                   with_reducible rfl
                  rotate_left
                  ·simp only [Act.put, List.setIfInBounds_toArray, List.set_cons_zero, List.set_cons_succ, i64_w, i32_w]
                   rfl
                  refine take_ (i := 9) (N := some 176) (v := ?_) (a' := ?_) #[true, true, true, true, true, false, true, true, true, true, false, false] rfl rfl (take_ofW HT_.out HW_.out (by kernel_rfl)) (fun _ _ _ h => h) (Or.inl ⟨by rfl, ?_⟩) hHeld ?_ ?_
                  rotate_left
                  ·intro w' s0
                   go_simp
                   with_reducible rfl
                  rotate_left
                  ·simp only [Act.put, List.setIfInBounds_toArray, List.set_cons_zero, List.set_cons_succ, i64_w, i32_w]
                   rfl
                  refine one_ (i := 5) (N := some 172) #[true, true, true, true, true, true, true, true, true, true, false, false] rfl rfl (one_of HT_.out (by kernel_rfl)) (by decide) (fun K hK => ?_)
                  refine goes_ Try.func27 (by kernel_rfl) rfl #[.slice A82 y505.length c82] (by rfl) rfl rfl (by (try simp only [List.map_toArray, List.map_cons, List.map_nil]); first | done | rfl | (simp only [List.length_drop, List.length_take]; rfl)) ?_
                  with_reducible refine (cr3_Trim.calls k4 _ _ y505 t510 _ ?side1 ?side2 A77.out).mono ?_
                  (case side1 => repeat (first | exact (Kd.V_reads' HO509.out).2.2 | (with_reducible refine Kd.C_alloc ?_ _) | (with_reducible refine Kd.C_drewN ?_ _) | (with_reducible refine Kd.C_drew ?_)))
                  (case side2 => exact (Kd.V_reads' HO509.out).2.1)
                  rintro e w85 ⟨v511, rfl, ho0, hb⟩
                  have HS0_ := (hb.cell (World.block_lt_of_cell? _ _ (hHeld))).trans (hHeld)
                  refine ⟨_, rfl, ?_⟩
                  have n0_ := A_ (Kd.V_elder' (nV_ HO_10) (Kd.R_base ho0) hb)
                  have n1_ := A_ (Kd.N_elder' (nN_ HO_12) (Kd.R_base ho0) hb)
                  have n2_ := A_ (Kd.N_elder' (nN_ HO_19) (Kd.R_base ho0) hb)
                  have n3_ := A_ (Kd.R_elder' (nR_ HO_21) (Kd.R_base ho0) hb)
                  have n4_ := A_ (Kd.V_elder' (nV_ HO509) (Kd.R_base ho0) hb)
                  have n5_ := A_ (Kd.V_elder' (nV_ HL513_0) (Kd.R_base ho0) hb)
                  have n6_ := A_ (Kd.R_lower (Kd.R_new' ho0 (Kd.R_lt (nR_ HO_21))) (below_size hs_))
                  have n7_ := A_ (blk_below (g := gb455) (o := .cells #[.slice A1_0 l1_0.length c1_0, .slice A1_1 l1_1.length c1_1] 48 (0, 0)) (nb_ BK455) hb)
                  have n8_ := A_ (Kd.C_below (by repeat (first | (with_reducible exact HR513_0.out) | (with_reducible refine Kd.C_alloc ?_ _) | (with_reducible refine Kd.C_drewN ?_ _) | (with_reducible refine Kd.C_drew ?_) | exact HR513_0.out)) hb)
                  have n9_ := A_ (below_step hs_ hb)
                  clear HO_10
                  clear HO_12
                  clear HO_19
                  clear HO_21
                  clear HO509
                  clear HL513_0
                  clear BK455
                  clear HR513_0
                  clear HB
                  have HO_10 := n0_
                  have HO_12 := n1_
                  have HO_19 := n2_
                  have HO_21 := n3_
                  have HO509 := n4_
                  have HL513_0 := n5_
                  have HO512 := n6_
                  have BK455 := n7_
                  have HR513_0 := n8_
                  have HB := n9_
                  clear n0_ n1_ n2_ n3_ n4_ n5_ n6_ n7_ n8_ n9_
                  (try clear hb)
                  (try clear hb2)
                  (try clear hk)
                  (try clear hi)
                  (try clear ho0)
                  obtain ⟨Ao86, co86, eo86⟩ := Kd.R_slice HO512.out
                  (first | subst eo86 | (injection eo86 with f1_ f2_ f3_; have f4_ := f1_.symm; have f5_ := f3_.symm; clear f1_ f2_ f3_; subst f4_; subst f5_))
                  refine hK.out _ _ (HS0_) (fun hHeld => ?_)
                  clear hK K
                  refine norm_ (a' := ?_) ?_ ?_
                  rotate_left
                  ·show Act.put _ (some 172) _ = _
                   simp only [Act.put, List.setIfInBounds_toArray, List.set_cons_zero, List.set_cons_succ, i64_w, i32_w]
                   rfl
                  refine one_ (i := 10) (N := some 177) #[true, true, true, true, true, true, true, true, true, true, true, false] rfl rfl (one_of HT_.out (by kernel_rfl)) (by decide) (fun K hK => ?_)
                  refine goes_ Try.func14 (by kernel_rfl) rfl #[.slice Ao86 t510.length co86, .slice A513_0 (rd_L1 t488 x23_4).length c513_0] (by rfl) rfl rfl (by (try simp only [List.map_toArray, List.map_cons, List.map_nil]); first | done | rfl | (simp only [List.length_drop, List.length_take]; rfl)) ?_
                  with_reducible refine (cr1_Same.calls k4 _ _ t510 _ _ (rd_L1 t488 x23_4) true _ ?side1 ?side2 ?side3 ?side4 A79.out).mono ?_
                  (case side1 => repeat (first | exact (Kd.R_reads' HO512.out).2.2 | (with_reducible refine Kd.C_alloc ?_ _) | (with_reducible refine Kd.C_drewN ?_ _) | (with_reducible refine Kd.C_drew ?_)))
                  (case side2 => exact (Kd.R_reads' HO512.out).2.1)
                  (case side3 => repeat (first | exact (by repeat (first | (with_reducible exact HR513_0.out) | (with_reducible refine Kd.C_alloc ?_ _) | (with_reducible refine Kd.C_drewN ?_ _) | (with_reducible refine Kd.C_drew ?_) | exact HR513_0.out)) | (with_reducible refine Kd.C_alloc ?_ _) | (with_reducible refine Kd.C_drewN ?_ _) | (with_reducible refine Kd.C_drew ?_)))
                  (case side4 => exact HC513_0.out)
                  rintro e w' ⟨rfl, ⟨nd, rfl⟩⟩
                  refine ⟨_, rfl, ?_⟩
                  refine hK.out _ _ (hHeld) (fun hHeld => ?_)
                  clear hK K
                  refine norm_ (a' := ?_) ?_ ?_
                  rotate_left
                  ·show Act.put _ (some 177) _ = _
                   simp only [Act.put, List.setIfInBounds_toArray, List.set_cons_zero, List.set_cons_succ, i64_w, i32_w]
                   rfl
                  refine pure_ (i := 11) (N := some 178) (v := ?_) (a' := ?_) #[true, true, true, true, true, true, true, true, true, true, true, true] rfl rfl (any_of HT_.out (by kernel_rfl)) (fun _ _ _ h => h) (Or.inl ⟨by rfl, ?_⟩) ?_ ?_
                  rotate_left
                  ·intro w'
                   go_simp
                   with_reducible rfl
                  rotate_left
                  ·simp only [Act.put, List.setIfInBounds_toArray, List.set_cons_zero, List.set_cons_succ, i64_w, i32_w]
                   rfl
                  refine done_ (done_of HT_.out (by kernel_rfl)) ?_
                  try go_wp2
                  go_roundg k4
                  case measure => have := HJ5.out; have := HK2.out; have := HJ48.out; have := HK4.out; omega
                  case rel => exact ⟨(wrap64 (x23_4 + 1)), (fs_), H', ⟨by have := HJ5.out; have := HK2.out; have := HJ48.out; have := HK4.out; omega⟩, ⟨by (with_reducible repeat (first | apply Kd.V_alloc | apply Kd.V_drewN | apply Kd.V_drew)); exact Kd.V_mono HO_10.out (fun _ hk => ⟨hk.1.1, ⟨hk.1.2.1, ⟨hk.1.2.2.1, hk.1.2.2.2⟩⟩⟩)⟩, ⟨by (with_reducible repeat (first | apply Kd.N_alloc | apply Kd.N_drewN | apply Kd.N_drew)); exact Kd.N_mono HO_12.out (fun _ hk => ⟨hk.1.1, ⟨hk.1.2.1, hk.1.2.2⟩⟩)⟩, ⟨by (with_reducible repeat (first | apply Kd.N_alloc | apply Kd.N_drewN | apply Kd.N_drew)); exact Kd.N_mono HO_19.out (fun _ hk => ⟨hk.1.1, ⟨hk.1.2.1, hk.1.2.2⟩⟩)⟩, ⟨by (with_reducible repeat (first | apply Kd.R_alloc | apply Kd.R_drewN | apply Kd.R_drew)); exact Kd.R_mono HO_21.out (fun _ hk => trivial)⟩, ⟨mb_ BK455.out⟩, ⟨hs_⟩⟩
                 ·replace c80 := Bool.eq_false_iff.mpr c80
                  subst c80
                  have H1 : (none) = some r := by rw [if_neg (show ¬ (false = true) by decide)] at H; exact H
                  clear H
                  have H := H1
                  clear H1
                  exact absurd H (by simp)
                ·rw [if_neg c78] at H
                 exact absurd H (by simp)
               ·rw [if_neg c76] at H
                exact absurd H (by simp)
              ·rw [if_neg c75] at H
               exact absurd H (by simp)
             ·rw [if_neg c74] at H
              exact absurd H (by simp)
            ·rw [if_neg c73] at H
             have c73b0 : decide (x23_4 < (l1_1.length : Int)) = false := decide_eq_false c73
             clear c73
             replace H := Option.bind_eq_some_iff.mp H
             obtain ⟨t496, A870, H⟩ := H
             (try dsimp only at H)
             have A87 := Aside0.mk A870
             clear A870
             by_cases c88 : t496 = true
             ·subst c88
              have H1 : (if (l1_1.length : Int) = 0 then (if (t460.length : Int) = 0 then (some true) else (if (t460.length : Int) > 0 then (if 0 ≤ (wrap64 ((t460.length : Int) - 1)) then (if (wrap64 ((t460.length : Int) - 1)) < (t460.length : Int) then (if ((rd_L2 t460 (wrap64 ((t460.length : Int) - 1))).length : Int) = 1 then (if 0 < ((rd_L2 t460 (wrap64 ((t460.length : Int) - 1))).length : Int) then ((cr1_Same.f k4 (rd_L1 (rd_L2 t460 (wrap64 ((t460.length : Int) - 1))) 0) t456).bind fun t500 => (some t500)) else (none)) else (none)) else (none)) else (none)) else (none))) else (if (t460.length : Int) > 0 then (if 0 ≤ (wrap64 ((t460.length : Int) - 1)) then (if (wrap64 ((t460.length : Int) - 1)) < (t460.length : Int) then (if ((rd_L2 t460 (wrap64 ((t460.length : Int) - 1))).length : Int) = 1 then (if 0 < ((rd_L2 t460 (wrap64 ((t460.length : Int) - 1))).length : Int) then ((cr1_Same.f k4 (rd_L1 (rd_L2 t460 (wrap64 ((t460.length : Int) - 1))) 0) t456).bind fun t504 => (some t504)) else (none)) else (none)) else (none)) else (none)) else (none))) = some r := by rw [if_pos rfl] at H; exact H
              clear H
              have H := H1
              clear H1
              by_cases c89 : (l1_1.length : Int) = 0
              ·rw [if_pos c89] at H
               have c89b0 : ((l1_1.length : Int) == 0) = true := beq_iff_eq.mpr c89
               have c89b1 : ((l1_1.length : Int) != 0) = false := bne_eq_false_iff_eq.mpr c89
               clear c89
               by_cases c90 : (t460.length : Int) = 0
               ·rw [if_pos c90] at H
                have c90b0 : ((t460.length : Int) == 0) = true := beq_iff_eq.mpr c90
                have c90b1 : ((t460.length : Int) != 0) = false := bne_eq_false_iff_eq.mpr c90
                clear c90
                obtain rfl := Option.some.inj H
                go_wp2_with (first | ((with_reducible refine gate_callee (f := 19) rfl ?_); refine goesM_ (some 179) Try.func19 #[] ?_; (with_reducible refine (conclavelaw06_anchored.calls k4  true _ A87.out).mono ?_); rintro e w91 ⟨rfl, hb⟩; refine ⟨_, rfl, ?_⟩; have n0_ := A_ (Kd.V_below (nV_ HO_10) hb); have n1_ := A_ (Kd.N_below (nN_ HO_12) hb); have n2_ := A_ (Kd.N_below (nN_ HO_19) hb); have n3_ := A_ (Kd.R_below (nR_ HO_21) hb); have n4_ := A_ (blk_below (g := gb455) (o := .cells #[.slice A1_0 l1_0.length c1_0, .slice A1_1 l1_1.length c1_1] 48 (0, 0)) (nb_ BK455) hb); have n5_ := A_ (below_step hs_ hb); clear HO_10 HO_12 HO_19 HO_21 BK455 HB; have HO_10 := n0_; have HO_12 := n1_; have HO_19 := n2_; have HO_21 := n3_; have BK455 := n4_; have HB := n5_; clear n0_ n1_ n2_ n3_ n4_ n5_; (try clear hb); obtain ⟨Ao92, co92, eo92⟩ := Kd.N_slice HO_12.out; subst eo92))
                go_ret
                exact ⟨fr_, hs_⟩
               ·rw [if_neg c90] at H
                have c90b0 : ((t460.length : Int) == 0) = false := beq_eq_false_iff_ne.mpr c90
                have c90b1 : ((t460.length : Int) != 0) = true := bne_iff_ne.mpr c90
                have c90b2 : ¬ (t460 = []) := fun h_ => c90 (by rw [h_]; rfl)
                by_cases c93 : (t460.length : Int) > 0
                ·rw [if_pos c93] at H
                 have c93b0 : decide (0 < (t460.length : Int)) = true := decide_eq_true c93
                 have c93b1 : decide (0 < t460.length) = true := decide_eq_true (by omega)
                 clear c93
                 obtain ⟨ji94, hji94⟩ : ∃ j_ : Int, (wrap64 ((t460.length : Int) - 1)) = j_ := ⟨_, rfl⟩
                 replace H : (if 0 ≤ (ji94) then (if (ji94) < (t460.length : Int) then (if ((rd_L2 t460 (ji94)).length : Int) = 1 then (if 0 < ((rd_L2 t460 (ji94)).length : Int) then ((cr1_Same.f k4 (rd_L1 (rd_L2 t460 (ji94)) 0) t456).bind fun t500 => (some t500)) else (none)) else (none)) else (none)) else (none)) = some r := by first | (rw [hji94] at H; exact H) | (simp only [hji94] at H ⊢; exact H)
                 (try rw [hji94] at A87)
                 have hji94w : (IntKind.i64.wrap ((t460.length : Int) - 1)) = ji94 := (i64_w _).trans hji94
                 by_cases c95 : 0 ≤ (ji94)
                 ·rw [if_pos c95] at H
                  have c95b0 : decide (0 ≤ (ji94)) = true := decide_eq_true c95
                  clear c95
                  by_cases c96 : (ji94) < (t460.length : Int)
                  ·rw [if_pos c96] at H
                   have c96b0 : decide ((ji94) < (t460.length : Int)) = true := decide_eq_true c96
                   clear c96
                   by_cases c97 : ((rd_L2 t460 (ji94)).length : Int) = 1
                   ·rw [if_pos c97] at H
                    have c97b0 : (((rd_L2 t460 (ji94)).length : Int) == 1) = true := beq_iff_eq.mpr c97
                    have c97b1 : (((rd_L2 t460 (ji94)).length : Int) != 1) = false := bne_eq_false_iff_eq.mpr c97
                    clear c97
                    by_cases c98 : 0 < ((rd_L2 t460 (ji94)).length : Int)
                    ·rw [if_pos c98] at H
                     have c98b0 : decide (0 < ((rd_L2 t460 (ji94)).length : Int)) = true := decide_eq_true c98
                     have c98b1 : decide (0 < (rd_L2 t460 (ji94)).length) = true := decide_eq_true (by omega)
                     clear c98
                     replace H := Option.bind_eq_some_iff.mp H
                     obtain ⟨t500, A990, H⟩ := H
                     replace H : (some t500) = some r := H
                     have A99 := Aside0.mk A990
                     clear A990
                     obtain rfl := Option.some.inj H
                     go_wp2_with (first | ((with_reducible refine gate_callee (f := 19) rfl ?_); refine goesM_ (some 179) Try.func19 #[] ?_; (with_reducible refine (conclavelaw06_anchored.calls k4  true _ A87.out).mono ?_); rintro e w100 ⟨rfl, hb⟩; refine ⟨_, rfl, ?_⟩; have n0_ := A_ (Kd.V_below (nV_ HO_10) hb); have n1_ := A_ (Kd.N_below (nN_ HO_12) hb); have n2_ := A_ (Kd.N_below (nN_ HO_19) hb); have n3_ := A_ (Kd.R_below (nR_ HO_21) hb); have n4_ := A_ (blk_below (g := gb455) (o := .cells #[.slice A1_0 l1_0.length c1_0, .slice A1_1 l1_1.length c1_1] 48 (0, 0)) (nb_ BK455) hb); have n5_ := A_ (below_step hs_ hb); clear HO_10 HO_12 HO_19 HO_21 BK455 HB; have HO_10 := n0_; have HO_12 := n1_; have HO_19 := n2_; have HO_21 := n3_; have BK455 := n4_; have HB := n5_; clear n0_ n1_ n2_ n3_ n4_ n5_; (try clear hb); obtain ⟨Ao101, co101, eo101⟩ := Kd.N_slice HO_12.out; subst eo101; have p497 : 0 ≤ ((ji94) : Int) := of_decide_eq_true (by first | (with_reducible assumption) | assumption); have q497 : (ji94) < (t460.length : Int) := of_decide_eq_true (by first | (with_reducible assumption) | assumption); obtain ⟨ad497, A497_0, c497_0, e497, hx497_0, hl497_0, hi497_0⟩ := at_L2 (Kd.N_reads' HO_12.out).2.2 (ji94) p497 q497; cases e497; obtain ⟨ce497, hce497, hMe497, hcc497⟩ := Kd.N_get HO_12.out [] (ji94) p497 (by first | exact q497 | exact of_decide_eq_true (by first | (with_reducible assumption) | assumption) | (have e_ := (Kd.N_reads' HO_12.out).1; omega)); obtain ⟨ua497_0, uc497_0, rfl, ul497_0, ge497_0⟩ := Kd.FK_slice_open hMe497; have hv497_0 := hcc497 0 _ rfl; rw [Nat.add_zero, show ((Kd.slice 22 (Kd.slice 49 (Kd.int .u64)))).sz = 1 from rfl, Nat.mul_one] at hv497_0; replace hv497_0 := Option.some.inj (hv497_0.symm.trans hx497_0); injection hv497_0 with hva_ hvn_ hvc_; rw [hva_] at ge497_0; rw [hvc_] at ul497_0; have HL497_0 := A_ (show Kd.V (Kd.slice 49 (Kd.int .u64)) 22 _ w.heap.size _ _ (rd_L2 t460 (ji94)) from Kd.V_mk ul497_0 ge497_0); clear hva_ hvn_ hvc_ ge497_0 ul497_0; clear hcc497 hce497; have HR497_0 := Aside0.mk hi497_0; have HC497_0 := Aside0.mk hl497_0; clear hi497_0 hl497_0; replace p497 := eq_true p497; replace q497 := eq_true q497; have p498 : 0 ≤ ((ji94) : Int) := of_decide_eq_true (by first | (with_reducible assumption) | assumption); have q498 : (ji94) < (t460.length : Int) := of_decide_eq_true (by first | (with_reducible assumption) | assumption); obtain ⟨ad498, A498_0, c498_0, e498, hx498_0, hl498_0, hi498_0⟩ := at_L2 (Kd.N_reads' HO_12.out).2.2 (ji94) p498 q498; obtain rfl : ad497 = ad498 := (by injection e498); obtain ⟨ce498, hce498, hMe498, hcc498⟩ := Kd.N_get HO_12.out [] (ji94) p498 (by first | exact q498 | exact of_decide_eq_true (by first | (with_reducible assumption) | assumption) | (have e_ := (Kd.N_reads' HO_12.out).1; omega)); obtain ⟨ua498_0, uc498_0, rfl, ul498_0, ge498_0⟩ := Kd.FK_slice_open hMe498; have hv498_0 := hcc498 0 _ rfl; rw [Nat.add_zero, show ((Kd.slice 22 (Kd.slice 49 (Kd.int .u64)))).sz = 1 from rfl, Nat.mul_one] at hv498_0; replace hv498_0 := Option.some.inj (hv498_0.symm.trans hx498_0); injection hv498_0 with hva_ hvn_ hvc_; rw [hva_] at ge498_0; rw [hvc_] at ul498_0; have HL498_0 := A_ (show Kd.V (Kd.slice 49 (Kd.int .u64)) 22 _ w.heap.size _ _ (rd_L2 t460 (ji94)) from Kd.V_mk ul498_0 ge498_0); clear hva_ hvn_ hvc_ ge498_0 ul498_0; clear hcc498 hce498; have HR498_0 := Aside0.mk hi498_0; have HC498_0 := Aside0.mk hl498_0; clear hi498_0 hl498_0; replace p498 := eq_true p498; replace q498 := eq_true q498; have ea_ := Option.some.inj (hx497_0.symm.trans hx498_0); injection ea_ with ea_ en_ ec_; subst ea_; subst ec_; clear en_; have p499 : 0 ≤ (0 : Int) := (by omega); have q499 : 0 < ((rd_L2 t460 (ji94)).length : Int) := of_decide_eq_true (by first | (with_reducible assumption) | assumption); obtain ⟨ad499, A499_0, c499_0, e499, hx499_0, hl499_0, hi499_0⟩ := at_L1 (by repeat (first | (with_reducible exact HR498_0.out) | (with_reducible refine Kd.C_alloc ?_ _) | (with_reducible refine Kd.C_drewN ?_ _) | (with_reducible refine Kd.C_drew ?_) | exact HR498_0.out)) 0 p499 q499; cases e499; obtain ⟨ce499, hce499, hMe499, hcc499⟩ := Kd.V_get HL498_0.out [] 0 p499 (by first | exact q499 | exact of_decide_eq_true (by first | (with_reducible assumption) | assumption) | (have e_ := (Kd.V_reads' HL498_0.out).1; omega)); obtain ⟨ua499_0, uc499_0, rfl, ul499_0, ge499_0⟩ := Kd.FK_slice_open hMe499; have hv499_0 := hcc499 0 _ rfl; rw [Nat.add_zero, show ((Kd.slice 49 (Kd.int .u64))).sz = 1 from rfl, Nat.mul_one] at hv499_0; replace hv499_0 := Option.some.inj (hv499_0.symm.trans hx499_0); injection hv499_0 with hva_ hvn_ hvc_; rw [hva_] at ge499_0; rw [hvc_] at ul499_0; have HL499_0 := A_ (show Kd.V (Kd.int .u64) 49 _ w.heap.size _ _ (rd_L1 (rd_L2 t460 (ji94)) 0) from Kd.V_mk ul499_0 ge499_0); clear hva_ hvn_ hvc_ ge499_0 ul499_0; clear hcc499 hce499; have qi499 : (0 < (rd_L2 t460 (ji94)).length) = True := eq_true (by omega); (try rw [show ((0 : Int)).toNat = 0 from rfl] at hx499_0); (try rw [Addr.add_zero'] at hx499_0); have HR499_0 := Aside0.mk hi499_0; have HC499_0 := Aside0.mk hl499_0; clear hi499_0 hl499_0; replace p499 := eq_true p499; replace q499 := eq_true q499) | (go_at_call 14; (with_reducible refine (cr1_Same.calls k4 _ _ (rd_L1 (rd_L2 t460 (ji94)) 0) _ _ t456 t500 _ ?side1 ?side2 ?side3 ?side4 A99.out).mono ?_); (case side1 => repeat (first | exact (by repeat (first | (with_reducible exact HR499_0.out) | (with_reducible refine Kd.C_alloc ?_ _) | (with_reducible refine Kd.C_drewN ?_ _) | (with_reducible refine Kd.C_drew ?_) | exact HR499_0.out)) | (with_reducible refine Kd.C_alloc ?_ _) | (with_reducible refine Kd.C_drewN ?_ _) | (with_reducible refine Kd.C_drew ?_))); (case side2 => exact HC499_0.out); (case side3 => repeat (first | exact (Kd.V_reads' HO_10.out).2.2 | (with_reducible refine Kd.C_alloc ?_ _) | (with_reducible refine Kd.C_drewN ?_ _) | (with_reducible refine Kd.C_drew ?_))); (case side4 => exact (Kd.V_reads' HO_10.out).2.1); rintro e w' ⟨rfl, ⟨nd, rfl⟩⟩))
                     go_ret
                     exact ⟨by first | rfl | (simp [errW_none, errW_some] <;> rfl) | (simp only [← hji94]; first | rfl | (simp [errW_none, errW_some] <;> rfl)) | (simp [*, errW_none, errW_some] <;> rfl), hs_⟩
                    ·rw [if_neg c98] at H
                     exact absurd H (by simp)
                   ·rw [if_neg c97] at H
                    exact absurd H (by simp)
                  ·rw [if_neg c96] at H
                   exact absurd H (by simp)
                 ·rw [if_neg c95] at H
                  exact absurd H (by simp)
                ·rw [if_neg c93] at H
                 exact absurd H (by simp)
              ·rw [if_neg c89] at H
               have c89b0 : ((l1_1.length : Int) == 0) = false := beq_eq_false_iff_ne.mpr c89
               have c89b1 : ((l1_1.length : Int) != 0) = true := bne_iff_ne.mpr c89
               have c89b2 : ¬ (l1_1 = []) := fun h_ => c89 (by rw [h_]; rfl)
               by_cases c102 : (t460.length : Int) > 0
               ·rw [if_pos c102] at H
                have c102b0 : decide (0 < (t460.length : Int)) = true := decide_eq_true c102
                have c102b1 : decide (0 < t460.length) = true := decide_eq_true (by omega)
                clear c102
                obtain ⟨ji103, hji103⟩ : ∃ j_ : Int, (wrap64 ((t460.length : Int) - 1)) = j_ := ⟨_, rfl⟩
                replace H : (if 0 ≤ (ji103) then (if (ji103) < (t460.length : Int) then (if ((rd_L2 t460 (ji103)).length : Int) = 1 then (if 0 < ((rd_L2 t460 (ji103)).length : Int) then ((cr1_Same.f k4 (rd_L1 (rd_L2 t460 (ji103)) 0) t456).bind fun t504 => (some t504)) else (none)) else (none)) else (none)) else (none)) = some r := by first | (rw [hji103] at H; exact H) | (simp only [hji103] at H ⊢; exact H)
                (try rw [hji103] at A87)
                have hji103w : (IntKind.i64.wrap ((t460.length : Int) - 1)) = ji103 := (i64_w _).trans hji103
                by_cases c104 : 0 ≤ (ji103)
                ·rw [if_pos c104] at H
                 have c104b0 : decide (0 ≤ (ji103)) = true := decide_eq_true c104
                 clear c104
                 by_cases c105 : (ji103) < (t460.length : Int)
                 ·rw [if_pos c105] at H
                  have c105b0 : decide ((ji103) < (t460.length : Int)) = true := decide_eq_true c105
                  clear c105
                  by_cases c106 : ((rd_L2 t460 (ji103)).length : Int) = 1
                  ·rw [if_pos c106] at H
                   have c106b0 : (((rd_L2 t460 (ji103)).length : Int) == 1) = true := beq_iff_eq.mpr c106
                   have c106b1 : (((rd_L2 t460 (ji103)).length : Int) != 1) = false := bne_eq_false_iff_eq.mpr c106
                   clear c106
                   by_cases c107 : 0 < ((rd_L2 t460 (ji103)).length : Int)
                   ·rw [if_pos c107] at H
                    have c107b0 : decide (0 < ((rd_L2 t460 (ji103)).length : Int)) = true := decide_eq_true c107
                    have c107b1 : decide (0 < (rd_L2 t460 (ji103)).length) = true := decide_eq_true (by omega)
                    clear c107
                    replace H := Option.bind_eq_some_iff.mp H
                    obtain ⟨t504, A1080, H⟩ := H
                    replace H : (some t504) = some r := H
                    have A108 := Aside0.mk A1080
                    clear A1080
                    obtain rfl := Option.some.inj H
                    go_wp2_with (first | ((with_reducible refine gate_callee (f := 19) rfl ?_); refine goesM_ (some 179) Try.func19 #[] ?_; (with_reducible refine (conclavelaw06_anchored.calls k4  true _ A87.out).mono ?_); rintro e w109 ⟨rfl, hb⟩; refine ⟨_, rfl, ?_⟩; have n0_ := A_ (Kd.V_below (nV_ HO_10) hb); have n1_ := A_ (Kd.N_below (nN_ HO_12) hb); have n2_ := A_ (Kd.N_below (nN_ HO_19) hb); have n3_ := A_ (Kd.R_below (nR_ HO_21) hb); have n4_ := A_ (blk_below (g := gb455) (o := .cells #[.slice A1_0 l1_0.length c1_0, .slice A1_1 l1_1.length c1_1] 48 (0, 0)) (nb_ BK455) hb); have n5_ := A_ (below_step hs_ hb); clear HO_10 HO_12 HO_19 HO_21 BK455 HB; have HO_10 := n0_; have HO_12 := n1_; have HO_19 := n2_; have HO_21 := n3_; have BK455 := n4_; have HB := n5_; clear n0_ n1_ n2_ n3_ n4_ n5_; (try clear hb); obtain ⟨Ao110, co110, eo110⟩ := Kd.N_slice HO_12.out; subst eo110; have p501 : 0 ≤ ((ji103) : Int) := of_decide_eq_true (by first | (with_reducible assumption) | assumption); have q501 : (ji103) < (t460.length : Int) := of_decide_eq_true (by first | (with_reducible assumption) | assumption); obtain ⟨ad501, A501_0, c501_0, e501, hx501_0, hl501_0, hi501_0⟩ := at_L2 (Kd.N_reads' HO_12.out).2.2 (ji103) p501 q501; cases e501; obtain ⟨ce501, hce501, hMe501, hcc501⟩ := Kd.N_get HO_12.out [] (ji103) p501 (by first | exact q501 | exact of_decide_eq_true (by first | (with_reducible assumption) | assumption) | (have e_ := (Kd.N_reads' HO_12.out).1; omega)); obtain ⟨ua501_0, uc501_0, rfl, ul501_0, ge501_0⟩ := Kd.FK_slice_open hMe501; have hv501_0 := hcc501 0 _ rfl; rw [Nat.add_zero, show ((Kd.slice 22 (Kd.slice 49 (Kd.int .u64)))).sz = 1 from rfl, Nat.mul_one] at hv501_0; replace hv501_0 := Option.some.inj (hv501_0.symm.trans hx501_0); injection hv501_0 with hva_ hvn_ hvc_; rw [hva_] at ge501_0; rw [hvc_] at ul501_0; have HL501_0 := A_ (show Kd.V (Kd.slice 49 (Kd.int .u64)) 22 _ w.heap.size _ _ (rd_L2 t460 (ji103)) from Kd.V_mk ul501_0 ge501_0); clear hva_ hvn_ hvc_ ge501_0 ul501_0; clear hcc501 hce501; have HR501_0 := Aside0.mk hi501_0; have HC501_0 := Aside0.mk hl501_0; clear hi501_0 hl501_0; replace p501 := eq_true p501; replace q501 := eq_true q501; have p502 : 0 ≤ ((ji103) : Int) := of_decide_eq_true (by first | (with_reducible assumption) | assumption); have q502 : (ji103) < (t460.length : Int) := of_decide_eq_true (by first | (with_reducible assumption) | assumption); obtain ⟨ad502, A502_0, c502_0, e502, hx502_0, hl502_0, hi502_0⟩ := at_L2 (Kd.N_reads' HO_12.out).2.2 (ji103) p502 q502; obtain rfl : ad501 = ad502 := (by injection e502); obtain ⟨ce502, hce502, hMe502, hcc502⟩ := Kd.N_get HO_12.out [] (ji103) p502 (by first | exact q502 | exact of_decide_eq_true (by first | (with_reducible assumption) | assumption) | (have e_ := (Kd.N_reads' HO_12.out).1; omega)); obtain ⟨ua502_0, uc502_0, rfl, ul502_0, ge502_0⟩ := Kd.FK_slice_open hMe502; have hv502_0 := hcc502 0 _ rfl; rw [Nat.add_zero, show ((Kd.slice 22 (Kd.slice 49 (Kd.int .u64)))).sz = 1 from rfl, Nat.mul_one] at hv502_0; replace hv502_0 := Option.some.inj (hv502_0.symm.trans hx502_0); injection hv502_0 with hva_ hvn_ hvc_; rw [hva_] at ge502_0; rw [hvc_] at ul502_0; have HL502_0 := A_ (show Kd.V (Kd.slice 49 (Kd.int .u64)) 22 _ w.heap.size _ _ (rd_L2 t460 (ji103)) from Kd.V_mk ul502_0 ge502_0); clear hva_ hvn_ hvc_ ge502_0 ul502_0; clear hcc502 hce502; have HR502_0 := Aside0.mk hi502_0; have HC502_0 := Aside0.mk hl502_0; clear hi502_0 hl502_0; replace p502 := eq_true p502; replace q502 := eq_true q502; have ea_ := Option.some.inj (hx501_0.symm.trans hx502_0); injection ea_ with ea_ en_ ec_; subst ea_; subst ec_; clear en_; have p503 : 0 ≤ (0 : Int) := (by omega); have q503 : 0 < ((rd_L2 t460 (ji103)).length : Int) := of_decide_eq_true (by first | (with_reducible assumption) | assumption); obtain ⟨ad503, A503_0, c503_0, e503, hx503_0, hl503_0, hi503_0⟩ := at_L1 (by repeat (first | (with_reducible exact HR502_0.out) | (with_reducible refine Kd.C_alloc ?_ _) | (with_reducible refine Kd.C_drewN ?_ _) | (with_reducible refine Kd.C_drew ?_) | exact HR502_0.out)) 0 p503 q503; cases e503; obtain ⟨ce503, hce503, hMe503, hcc503⟩ := Kd.V_get HL502_0.out [] 0 p503 (by first | exact q503 | exact of_decide_eq_true (by first | (with_reducible assumption) | assumption) | (have e_ := (Kd.V_reads' HL502_0.out).1; omega)); obtain ⟨ua503_0, uc503_0, rfl, ul503_0, ge503_0⟩ := Kd.FK_slice_open hMe503; have hv503_0 := hcc503 0 _ rfl; rw [Nat.add_zero, show ((Kd.slice 49 (Kd.int .u64))).sz = 1 from rfl, Nat.mul_one] at hv503_0; replace hv503_0 := Option.some.inj (hv503_0.symm.trans hx503_0); injection hv503_0 with hva_ hvn_ hvc_; rw [hva_] at ge503_0; rw [hvc_] at ul503_0; have HL503_0 := A_ (show Kd.V (Kd.int .u64) 49 _ w.heap.size _ _ (rd_L1 (rd_L2 t460 (ji103)) 0) from Kd.V_mk ul503_0 ge503_0); clear hva_ hvn_ hvc_ ge503_0 ul503_0; clear hcc503 hce503; have qi503 : (0 < (rd_L2 t460 (ji103)).length) = True := eq_true (by omega); (try rw [show ((0 : Int)).toNat = 0 from rfl] at hx503_0); (try rw [Addr.add_zero'] at hx503_0); have HR503_0 := Aside0.mk hi503_0; have HC503_0 := Aside0.mk hl503_0; clear hi503_0 hl503_0; replace p503 := eq_true p503; replace q503 := eq_true q503) | (go_at_call 14; (with_reducible refine (cr1_Same.calls k4 _ _ (rd_L1 (rd_L2 t460 (ji103)) 0) _ _ t456 t504 _ ?side1 ?side2 ?side3 ?side4 A108.out).mono ?_); (case side1 => repeat (first | exact (by repeat (first | (with_reducible exact HR503_0.out) | (with_reducible refine Kd.C_alloc ?_ _) | (with_reducible refine Kd.C_drewN ?_ _) | (with_reducible refine Kd.C_drew ?_) | exact HR503_0.out)) | (with_reducible refine Kd.C_alloc ?_ _) | (with_reducible refine Kd.C_drewN ?_ _) | (with_reducible refine Kd.C_drew ?_))); (case side2 => exact HC503_0.out); (case side3 => repeat (first | exact (Kd.V_reads' HO_10.out).2.2 | (with_reducible refine Kd.C_alloc ?_ _) | (with_reducible refine Kd.C_drewN ?_ _) | (with_reducible refine Kd.C_drew ?_))); (case side4 => exact (Kd.V_reads' HO_10.out).2.1); rintro e w' ⟨rfl, ⟨nd, rfl⟩⟩))
                    go_ret
                    exact ⟨by first | rfl | (simp [errW_none, errW_some] <;> rfl) | (simp only [← hji103]; first | rfl | (simp [errW_none, errW_some] <;> rfl)) | (simp [*, errW_none, errW_some] <;> rfl), hs_⟩
                   ·rw [if_neg c107] at H
                    exact absurd H (by simp)
                  ·rw [if_neg c106] at H
                   exact absurd H (by simp)
                 ·rw [if_neg c105] at H
                  exact absurd H (by simp)
                ·rw [if_neg c104] at H
                 exact absurd H (by simp)
               ·rw [if_neg c102] at H
                exact absurd H (by simp)
             ·replace c88 := Bool.eq_false_iff.mpr c88
              subst c88
              have H1 : (none) = some r := by rw [if_neg (show ¬ (false = true) by decide)] at H; exact H
              clear H
              have H := H1
              clear H1
              exact absurd H (by simp)
/-- THE ONE PURE STATEMENT of conclavelaw06_TreeNoughts: yours. -/
def conclavelaw06_TreeNoughts.Pure : Prop := ∀ (a0 : Int) (l1_0 : List Int) (l1_1 : List Int) (a2 : Int), (Lit.int .u8 a0).wf = true → l1_0.length ≤ maxLen → l1_0.length * 8 ≤ 140737488351232 → (∀ x ∈ l1_0, (Lit.int .u64 x).wf = true) → l1_1.length ≤ maxLen → l1_1.length * 8 ≤ 140737488351232 → (∀ x ∈ l1_1, (Lit.int .u64 x).wf = true) → (Lit.int .u64 a2).wf = true → ∃ k, conclavelaw06_TreeNoughts.f k a0 l1_0 l1_1 a2 = some true
theorem conclavelaw06_TreeNoughts.walk (P : conclavelaw06_TreeNoughts.Pure) (a0 : Int) (a1_0 : Option Addr) (len1_0 cap1_0 : Nat) (z1_0 : List Int) (a1_1 : Option Addr) (len1_1 cap1_1 : Nat) (z1_1 : List Int) (a2 : Int) (w : World) (w0 : (Lit.int .u8 a0).wf = true) (w1_0 : (a1_0 = none ∧ len1_0 = 0 ∧ cap1_0 = 0 ∧ z1_0 = []) ∨ ∃ x, a1_0 = some x ∧ len1_0 ≤ cap1_0 ∧ cap1_0 ≤ maxLen ∧ z1_0.length = cap1_0 ∧ (∀ i, i < z1_0.length → w.cell? (x.add i) = some (.int .u64 (z1_0.getD i 0))) ∧ ∀ n ∈ z1_0, (Lit.int .u64 n).wf = true) (y1_0 : len1_0 * 8 ≤ 140737488351232) (w1_1 : (a1_1 = none ∧ len1_1 = 0 ∧ cap1_1 = 0 ∧ z1_1 = []) ∨ ∃ x, a1_1 = some x ∧ len1_1 ≤ cap1_1 ∧ cap1_1 ≤ maxLen ∧ z1_1.length = cap1_1 ∧ (∀ i, i < z1_1.length → w.cell? (x.add i) = some (.int .u64 (z1_1.getD i 0))) ∧ ∀ n ∈ z1_1, (Lit.int .u64 n).wf = true) (y1_1 : len1_1 * 8 ≤ 140737488351232) (w2 : (Lit.int .u64 a2).wf = true) :
  Calls Try.prog 7 #[.int .u8 a0, .agg #[.slice a1_0 len1_0 cap1_0, .slice a1_1 len1_1 cap1_1], .int .u64 a2] w fun e w' => e = .returned (.bool true) ∧ Below w.heap.size w w' := by
 obtain ⟨l1_0, rfl, hr1_0, hm1_0, hw1_0, hc1_0⟩ := ReadsInt.ofRowC w1_0
 obtain ⟨l1_1, rfl, hr1_1, hm1_1, hw1_1, hc1_1⟩ := ReadsInt.ofRowC w1_1
 obtain ⟨k, h⟩ := P a0 l1_0 l1_1 a2 w0 hm1_0 y1_0 hw1_0 hm1_1 y1_1 hw1_1 w2
 refine (conclavelaw06_TreeNoughts.calls k a0 _ _ l1_0 _ _ l1_1 a2 true w (Kd.C_of_reads (d := (0 : Int)) (h1 := fun _ => rfl) hr1_0) hc1_0 (Kd.C_of_reads (d := (0 : Int)) (h1 := fun _ => rfl) hr1_1) hc1_1 h).mono ?_
 rintro e w' ⟨rfl, hd⟩
 exact ⟨rfl, hd⟩
end Go.Proofs.Ytkaongcpekhbdaa.PTreeNoughts
