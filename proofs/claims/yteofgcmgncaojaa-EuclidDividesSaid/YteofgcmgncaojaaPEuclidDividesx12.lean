/- The Go functions as Lean functions, each with the proof that its call comes to just that; written by a program of this session, by the words of the print. -/
import Derived.Test.YteofgcmgncaojaaPEuclidDividesx0
import Derived.Test.YteofgcmgncaojaaPEuclidDividesx2
import Derived.Test.YteofgcmgncaojaaPEuclidDividesx11
namespace Go.Proofs.Yteofgcmgncaojaa.PEuclidDivides
open Go.RowKit Go.Proofs.YteofgcmgncaojaaW.PrintWords Go.Proofs.YteofgcmgncaojaaW.PrintLast Go.Proofs.YteofgcmgncaojaaW.PrintMore
attribute [local go_sem] max2_int min2_int max_two min_two max_three min_three max_four min_four   -- for this text's walks alone
set_option linter.unusedVariables false
set_option linter.unusedSimpArgs false
/-! ### euclid_partial: function 34 -/
mutual
def euclid_partial.l0 : Nat → Int → Int → List Int → List Int → List Int → List Int → List Int → List Int → Option (List Int × List Int × List Int × Int)
 | 0, _, _, _, _, _, _, _, _ => none
 | k + 1, x0, x3, x488000, x488001, x488002, x489000, x489001, x489002 => if (wrap64 ((x488000.length : Int) - 1)) < x3 then (euclid_partial.j1 k x0 x3 true x488000 x488001 x488002 x489000 x489001 x489002) else (euclid_partial.j1 k x0 x3 ((x488000.length : Int) == 0) x488000 x488001 x488002 x489000 x489001 x489002)
def euclid_partial.j1 : Nat → Int → Int → Bool → List Int → List Int → List Int → List Int → List Int → List Int → Option (List Int × List Int × List Int × Int)
 | 0, _, _, _, _, _, _, _, _, _ => none
 | k + 1, x0, x3, x35, x488000, x488001, x488002, x489000, x489001, x489002 => if x35 = true then (some (x488000, x488001, x488002, 0)) else (if (x489000.length : Int) = 0 then (euclid_partial.l0 k x0 x3 x489000 x489001 x489002 x489000 x489001 x489002) else ((euclid_next.f k x0 x488000 x488001 x488002 x489000 x489001 x489002).bind fun bt489 => (if bt489.2.2.2 = 0 then (euclid_partial.l0 k x0 x3 x489000 x489001 x489002 bt489.1 bt489.2.1 bt489.2.2.1) else (some (([] : List Int), ([] : List Int), ([] : List Int), bt489.2.2.2)))))
end
def euclid_partial.f (k : Nat) (a0 : Int) (l1 : List Int) (l2 : List Int) (a3 : Int) : Option (List Int × List Int × List Int × Int) := (some (([1] : List Int) : List Int)).bind fun y478 => ((poly_Trim.f k l1).bind fun t481 => ((poly_Trim.f k l2).bind fun t484 => (euclid_partial.l0 k a0 a3 t481 y478 ([] : List Int) t484 ([] : List Int) y478)))
theorem euclid_partial.mono_l : ∀ k, (∀ y0 y1 y2 y3 y4 y5 y6 y7, LeO (euclid_partial.l0 k y0 y1 y2 y3 y4 y5 y6 y7) (euclid_partial.l0 (k + 1) y0 y1 y2 y3 y4 y5 y6 y7)) ∧ (∀ y0 y1 y2 y3 y4 y5 y6 y7 y8, LeO (euclid_partial.j1 k y0 y1 y2 y3 y4 y5 y6 y7 y8) (euclid_partial.j1 (k + 1) y0 y1 y2 y3 y4 y5 y6 y7 y8))
 | 0 => ⟨fun _ _ _ _ _ _ _ _ r h => by simp [euclid_partial.l0] at h, fun _ _ _ _ _ _ _ _ _ r h => by simp [euclid_partial.j1] at h⟩
 | k + 1 => by
  obtain ⟨ih0, ih1⟩ := euclid_partial.mono_l k
  refine ⟨?_, ?_⟩
  ·intro y0 y1 y2 y3 y4 y5 y6 y7
   unfold euclid_partial.l0
   repeat' first
   | (with_reducible exact ih0 _ _ _ _ _ _ _ _)
   | (with_reducible exact ih1 _ _ _ _ _ _ _ _ _)
   | (with_reducible exact euclid_next.mono _ _ _ _ _ _ _ _)
   | (with_reducible exact poly_Trim.mono _ _)
   | (with_reducible exact LeO.refl _)
   | (with_reducible exact LeO.none _)
   | (with_reducible refine LeO.ite ?_ ?_)
   | (with_reducible refine LeO.bind ?_ (fun _ => ?_))
   | exact ih0 _ _ _ _ _ _ _ _
   | exact ih1 _ _ _ _ _ _ _ _ _
   | exact euclid_next.mono _ _ _ _ _ _ _ _
   | exact poly_Trim.mono _ _
   | exact LeO.none _
   | refine LeO.ite ?_ ?_
   | refine LeO.bind ?_ (fun _ => ?_)
  ·intro y0 y1 y2 y3 y4 y5 y6 y7 y8
   unfold euclid_partial.j1
   repeat' first
   | (with_reducible exact ih0 _ _ _ _ _ _ _ _)
   | (with_reducible exact ih1 _ _ _ _ _ _ _ _ _)
   | (with_reducible exact euclid_next.mono _ _ _ _ _ _ _ _)
   | (with_reducible exact poly_Trim.mono _ _)
   | (with_reducible exact LeO.refl _)
   | (with_reducible exact LeO.none _)
   | (with_reducible refine LeO.ite ?_ ?_)
   | (with_reducible refine LeO.bind ?_ (fun _ => ?_))
   | exact ih0 _ _ _ _ _ _ _ _
   | exact ih1 _ _ _ _ _ _ _ _ _
   | exact euclid_next.mono _ _ _ _ _ _ _ _
   | exact poly_Trim.mono _ _
   | exact LeO.none _
   | refine LeO.ite ?_ ?_
   | refine LeO.bind ?_ (fun _ => ?_)
theorem euclid_partial.mono : ∀ a0 a1 a2 a3 k, LeO (euclid_partial.f k a0 a1 a2 a3) (euclid_partial.f (k + 1) a0 a1 a2 a3) := by
 intro a0 a1 a2 a3 k
 obtain ⟨ih0, ih1⟩ := euclid_partial.mono_l k
 unfold euclid_partial.f
 repeat' first
   | (with_reducible exact ih0 _ _ _ _ _ _ _ _)
   | (with_reducible exact ih1 _ _ _ _ _ _ _ _ _)
   | (with_reducible exact euclid_next.mono _ _ _ _ _ _ _ _)
   | (with_reducible exact poly_Trim.mono _ _)
   | (with_reducible exact LeO.refl _)
   | (with_reducible exact LeO.none _)
   | (with_reducible refine LeO.ite ?_ ?_)
   | (with_reducible refine LeO.bind ?_ (fun _ => ?_))
   | exact ih0 _ _ _ _ _ _ _ _
   | exact ih1 _ _ _ _ _ _ _ _ _
   | exact euclid_next.mono _ _ _ _ _ _ _ _
   | exact poly_Trim.mono _ _
   | exact LeO.none _
   | refine LeO.ite ?_ ?_
   | refine LeO.bind ?_ (fun _ => ?_)
set_option maxHeartbeats 8000000 in
set_option maxRecDepth 100000 in
theorem euclid_partial.calls (k : Nat) (a0 : Int) (A1 : Option Addr) (c1 : Nat) (l1 : List Int) (A2 : Option Addr) (c2 : Nat) (l2 : List Int) (a3 : Int) (r1 : List Int) (r2 : List Int) (r3 : List Int) (r4 : Int) (w : World) (hr1 : Kd.C (Kd.int .u64) w A1 l1.length l1) (hc1 : l1.length ≤ c1) (hr2 : Kd.C (Kd.int .u64) w A2 l2.length l2) (hc2 : l2.length ≤ c2) (h : euclid_partial.f k a0 l1 l2 a3 = some (r1, r2, r3, r4)) :
  Calls Try.prog 34 #[.int .u8 a0, .slice A1 l1.length c1, .slice A2 l2.length c2, .int .i64 a3] w fun e w' => ∃ v0_ v1_ v2_ : Value, e = .returned (.tuple #[.agg #[v0_, v1_, v2_], .int .i64 r4]) ∧ Kd.R (Kd.int .u64) 40 w' w.heap.size (fun _ => True) v0_ r1 ∧ Kd.R (Kd.int .u64) 40 w' w.heap.size (fun _ => True) v1_ r2 ∧ Kd.R (Kd.int .u64) 40 w' w.heap.size (fun _ => True) v2_ r3 ∧ Below w.heap.size w w' := by
 have hu61 := Try.underlying61
 have HR1 := Aside0.mk hr1
 have HC1 := Aside0.mk hc1
 clear hr1 hc1
 have HR2 := Aside0.mk hr2
 have HC2 := Aside0.mk hc2
 clear hr2 hc2
 have HB := A_ (Below.refl w.heap.size w)
 have H : ((some (([1] : List Int) : List Int)).bind fun y478 => ((poly_Trim.f k l1).bind fun t481 => ((poly_Trim.f k l2).bind fun t484 => (euclid_partial.l0 k a0 a3 t481 y478 ([] : List Int) t484 ([] : List Int) y478)))) = some (r1, r2, r3, r4) := h
 clear h
 obtain ⟨y478, hy478⟩ : ∃ y_ : List Int, y_ = (([1] : List Int)) := ⟨_, rfl⟩
 replace H : ((poly_Trim.f k l1).bind fun t481 => ((poly_Trim.f k l2).bind fun t484 => (euclid_partial.l0 k a0 a3 t481 y478 ([] : List Int) t484 ([] : List Int) y478))) = some (r1, r2, r3, r4) := by first | (rw [hy478]; with_reducible exact H) | (have H2_ := (Option.bind_some _ _).symm.trans H; rw [hy478]; with_reducible exact H2_) | (have H2_ := (Option.bind_some _ _).symm.trans H; with_reducible exact H2_) | with_reducible exact H | (rw [hy478]; exact H) | exact H
 have Ny478 := Aside0.mk hy478
 clear hy478
 replace H := Option.bind_eq_some_iff.mp H
 obtain ⟨t481, A50, H⟩ := H
 replace H : ((poly_Trim.f k l2).bind fun t484 => (euclid_partial.l0 k a0 a3 t481 y478 ([] : List Int) t484 ([] : List Int) y478)) = some (r1, r2, r3, r4) := H
 have A5 := Aside0.mk A50
 clear A50
 replace H := Option.bind_eq_some_iff.mp H
 obtain ⟨t484, A60, H⟩ := H
 replace H : (euclid_partial.l0 k a0 a3 t481 y478 ([] : List Int) t484 ([] : List Int) y478) = some (r1, r2, r3, r4) := H
 have A6 := Aside0.mk A60
 clear A60
 have H' := Aside0.mk H
 clear H
 go_enter Try.func34, Try.ntmps34
 go_wp2_with (first | go_step3 | ((with_reducible refine gate_dst (N := 8) rfl ?_); (try (refine gate_guard (by rfl) ?_; dsimp only)); refine box_event ?hg (N := 8) ?hd (cs := #[.slice none 0 0, .slice none 0 0, .slice none 0 0]) (t := 61) ?hr ?_; (case hd => rfl); (case hg => rfl); (case hr => first | (go_simp; done) | (go_simp; rfl)); intro gb477 hg w7 hbox hb; have n0_ := A_ (below_step hb_ hb); have n1_ := A_ (hbox); have n2_ := A_ ((by rw [hg]; exact (below_size hb_) : w.heap.size ≤ gb477)); have n3_ := A_ ((by rw [hg]; exact (below_size hb_) : w.heap.size ≤ gb477)); clear HB; have HB := n0_; have BK477 := n1_; have GW477 := n2_; have GE477 := n3_; clear n0_ n1_ n2_ n3_; clear hb hbox hg) | ((with_reducible refine gate_dst (N := 15) rfl ?_); (try (refine gate_guard (by rfl) ?_; dsimp only)); refine Kd.R_lit (Kd.int .u64) _ 40 ?hg (N := 15) ?hd (xs := ([1] : List Int)) (inner := [.int .u64 1]) (ok := fun _ => True) (okp := fun _ => True) ?hr ?hp (fun _ hk => hk) trivial (Below.refl _ _) (Nat.le_refl _) (by simp) ?_; (case hd => rfl); (case hg => rfl); (case hr => first | (go_simp; done) | (go_simp; rfl)); (case hp => exact (Reps.one (show Kd.M (Kd.int .u64) _ _ _ 1 [.int .u64 1] from rfl) (Reps.none _ _))); intro v479 w8 ho9 hb hg_ hnew_; clear hg_ hnew_; (first | rw [← Ny478.out] at ho9 | (simp only [Int.reduceToNat] at ho9; rw [← Ny478.out] at ho9)); have n0_ := A_ (Kd.R_lower (Kd.R_mono (ok' := fun _ => True) ho9 (fun _ _ => trivial)) (below_size hs_)); have n1_ := A_ (blk_below (g := gb477) (o := .cells #[.slice none 0 0, .slice none 0 0, .slice none 0 0] 61 (0, 0)) (nb_ BK477) hb); have n2_ := A_ (below_step hs_ hb); clear BK477 HB; have HO480 := n0_; have BK477 := n1_; have HB := n2_; clear n0_ n1_ n2_; clear hb ho9) | ((with_reducible refine gate_callee (f := 28) rfl ?_); refine goesM_ (some 17) Try.func28 #[.slice A1 l1.length c1] ?_; (with_reducible refine (poly_Trim.calls k _ _ l1 t481 _ ?side1 ?side2 A5.out).mono ?_); (case side1 => repeat (first | exact (Kd.C_below HR1.out HB.out) | (with_reducible refine Kd.C_alloc ?_ _) | (with_reducible refine Kd.C_drewN ?_ _) | (with_reducible refine Kd.C_drew ?_))); (case side2 => exact HC1.out); rintro e w10 ⟨v482, rfl, ho0, hb⟩; refine ⟨_, rfl, ?_⟩; have n0_ := A_ (Kd.R_below (nR_ HO480) hb); have n1_ := A_ (Kd.R_lower (Kd.R_mono (ok' := fun _ => True) ho0 (fun _ _ => trivial)) (below_size hs_)); have n2_ := A_ (blk_below (g := gb477) (o := .cells #[.slice none 0 0, .slice none 0 0, .slice none 0 0] 61 (0, 0)) (nb_ BK477) hb); have n3_ := A_ (below_step hs_ hb); clear HO480 BK477 HB; have HO480 := n0_; have HO483 := n1_; have BK477 := n2_; have HB := n3_; clear n0_ n1_ n2_ n3_; (try clear hb); (try clear ho0); obtain ⟨Ao11, co11, eo11⟩ := Kd.R_slice HO480.out; subst eo11; obtain ⟨Ao12, co12, eo12⟩ := Kd.R_slice HO483.out; subst eo12) | ((with_reducible refine gate_callee (f := 28) rfl ?_); refine goesM_ (some 21) Try.func28 #[.slice A2 l2.length c2] ?_; (with_reducible refine (poly_Trim.calls k _ _ l2 t484 _ ?side1 ?side2 A6.out).mono ?_); (case side1 => repeat (first | exact (Kd.C_below HR2.out HB.out) | (with_reducible refine Kd.C_alloc ?_ _) | (with_reducible refine Kd.C_drewN ?_ _) | (with_reducible refine Kd.C_drew ?_))); (case side2 => exact HC2.out); rintro e w13 ⟨v485, rfl, ho0, hb⟩; refine ⟨_, rfl, ?_⟩; have n0_ := A_ (Kd.R_below (nR_ HO480) hb); have n1_ := A_ (Kd.R_below (nR_ HO483) hb); have n2_ := A_ (Kd.R_lower (Kd.R_mono (ok' := fun _ => True) ho0 (fun _ _ => trivial)) (below_size hs_)); have n3_ := A_ (blk_below (g := gb477) (o := .cells #[.slice none 0 0, .slice none 0 0, .slice none 0 0] 61 (0, 0)) (nb_ BK477) hb); have n4_ := A_ (below_step hs_ hb); clear HO480 HO483 BK477 HB; have HO480 := n0_; have HO483 := n1_; have HO486 := n2_; have BK477 := n3_; have HB := n4_; clear n0_ n1_ n2_ n3_ n4_; (try clear hb); (try clear ho0); obtain ⟨Ao14, co14, eo14⟩ := Kd.R_slice HO486.out; subst eo14) | ((with_reducible refine gate_dst (N := 11) rfl ?_); (try (refine gate_guard (by rfl) ?_; dsimp only)); refine box_event ?hg (N := 11) ?hd (cs := #[.slice none 0 0, .slice none 0 0, .slice none 0 0]) (t := 61) ?hr ?_; (case hd => rfl); (case hg => rfl); (case hr => first | (go_simp; done) | (go_simp; rfl)); intro gb487 hg w15 hbox hb; have n0_ := A_ (Kd.R_below (nR_ HO480) hb); have n1_ := A_ (Kd.R_below (nR_ HO483) hb); have n2_ := A_ (Kd.R_below (nR_ HO486) hb); have n3_ := A_ (blk_below (g := gb477) (o := .cells #[.slice none 0 0, .slice none 0 0, .slice none 0 0] 61 (0, 0)) (nb_ BK477) hb); have n4_ := A_ (below_step hs_ hb); have n5_ := A_ (hbox); have n6_ := A_ ((by rw [hg]; exact (below_size hs_) : w.heap.size ≤ gb487)); have n7_ := A_ ((by rw [hg]; exact (below_size hs_) : w.heap.size ≤ gb487)); have n8_ := A_ ((by rw [hg]; exact Nat.ne_of_lt (blk_lt (g := gb477) (o := .cells #[.slice none 0 0, .slice none 0 0, .slice none 0 0] 61 (0, 0)) (nb_ BK477)) : gb477 ≠ gb487)); have n9_ := A_ ((by rw [hg]; exact Nat.ne_of_gt (blk_lt (g := gb477) (o := .cells #[.slice none 0 0, .slice none 0 0, .slice none 0 0] 61 (0, 0)) (nb_ BK477)) : gb487 ≠ gb477)); clear HO480 HO483 HO486 BK477 HB; have HO480 := n0_; have HO483 := n1_; have HO486 := n2_; have BK477 := n3_; have HB := n4_; have BK487 := n5_; have GW487 := n6_; have GE487 := n7_; have NB477_487 := n8_; have NB487_477 := n9_; clear n0_ n1_ n2_ n3_ n4_ n5_ n6_ n7_ n8_ n9_; clear hb hbox hg) | ((with_reducible refine gate_dst (N := 12) rfl ?_); (try (refine gate_guard (by rfl) ?_; dsimp only)); refine box_event ?hg (N := 12) ?hd (cs := #[.slice none 0 0, .slice none 0 0, .slice none 0 0]) (t := 61) ?hr ?_; (case hd => rfl); (case hg => rfl); (case hr => first | (go_simp; done) | (go_simp; rfl)); intro gb488 hg w16 hbox hb; have n0_ := A_ (Kd.R_below (nR_ HO480) hb); have n1_ := A_ (Kd.R_below (nR_ HO483) hb); have n2_ := A_ (Kd.R_below (nR_ HO486) hb); have n3_ := A_ (blk_below (g := gb477) (o := .cells #[.slice none 0 0, .slice none 0 0, .slice none 0 0] 61 (0, 0)) (nb_ BK477) hb); have n4_ := A_ (blk_below (g := gb487) (o := .cells #[.slice none 0 0, .slice none 0 0, .slice none 0 0] 61 (0, 0)) (nb_ BK487) hb); have n5_ := A_ (below_step hs_ hb); have n6_ := A_ (hbox); have n7_ := A_ ((by rw [hg]; exact (below_size hs_) : w.heap.size ≤ gb488)); have n8_ := A_ ((by rw [hg]; exact (below_size hs_) : w.heap.size ≤ gb488)); have n9_ := A_ ((by rw [hg]; exact Nat.ne_of_lt (blk_lt (g := gb477) (o := .cells #[.slice none 0 0, .slice none 0 0, .slice none 0 0] 61 (0, 0)) (nb_ BK477)) : gb477 ≠ gb488)); have n10_ := A_ ((by rw [hg]; exact Nat.ne_of_gt (blk_lt (g := gb477) (o := .cells #[.slice none 0 0, .slice none 0 0, .slice none 0 0] 61 (0, 0)) (nb_ BK477)) : gb488 ≠ gb477)); have n11_ := A_ ((by rw [hg]; exact Nat.ne_of_lt (blk_lt (g := gb487) (o := .cells #[.slice none 0 0, .slice none 0 0, .slice none 0 0] 61 (0, 0)) (nb_ BK487)) : gb487 ≠ gb488)); have n12_ := A_ ((by rw [hg]; exact Nat.ne_of_gt (blk_lt (g := gb487) (o := .cells #[.slice none 0 0, .slice none 0 0, .slice none 0 0] 61 (0, 0)) (nb_ BK487)) : gb488 ≠ gb487)); clear HO480 HO483 HO486 BK477 BK487 HB; have HO480 := n0_; have HO483 := n1_; have HO486 := n2_; have BK477 := n3_; have BK487 := n4_; have HB := n5_; have BK488 := n6_; have GW488 := n7_; have GE488 := n8_; have NB477_488 := n9_; have NB488_477 := n10_; have NB487_488 := n11_; have NB488_487 := n12_; clear n0_ n1_ n2_ n3_ n4_ n5_ n6_ n7_ n8_ n9_ n10_ n11_ n12_; clear hb hbox hg; have hnb17 := NB487_477.out; have hnc17 := NB477_487.out; have hnb18 := NB487_488.out; have hnc18 := NB488_487.out; have hcz19_0 : w16.cell? ⟨gb487, 0, none⟩ = some (.slice none 0 0) := (blk_cell BK487.out 0).trans rfl; have hcz19_1 : w16.cell? ⟨gb487, 1, none⟩ = some (.slice none 0 0) := (blk_cell BK487.out 1).trans rfl; have hcz19_2 : w16.cell? ⟨gb487, 2, none⟩ = some (.slice none 0 0) := (blk_cell BK487.out 2).trans rfl; have hfz19_0 := blk_frozen BK487.out 0; have hfz19_1 := blk_frozen BK487.out 1; have hfz19_2 := blk_frozen BK487.out 2; have hnb20 := NB488_477.out; have hnc20 := NB477_488.out; have hcz21_0 : w16.cell? ⟨gb488, 0, none⟩ = some (.slice none 0 0) := (blk_cell BK488.out 0).trans rfl; have hcz21_1 : w16.cell? ⟨gb488, 1, none⟩ = some (.slice none 0 0) := (blk_cell BK488.out 1).trans rfl; have hcz21_2 : w16.cell? ⟨gb488, 2, none⟩ = some (.slice none 0 0) := (blk_cell BK488.out 2).trans rfl; have hfz21_0 := blk_frozen BK488.out 0; have hfz21_1 := blk_frozen BK488.out 1; have hfz21_2 := blk_frozen BK488.out 2))
 go_loopg [] k (fun kq w' => ∃ (x488000_1 : List Int) (x488001_1 : List Int) (x488002_1 : List Int) (x489000_1 : List Int) (x489001_1 : List Int) (x489002_1 : List Int) (u488000 : Value) (u488001 : Value) (u488002 : Value) (u489000 : Value) (u489001 : Value) (u489002 : Value), Aside0 (euclid_partial.l0 kq a0 a3 x488000_1 x488001_1 x488002_1 x489000_1 x489001_1 x489002_1 = some (r1, r2, r3, r4)) ∧ Aside0 (kq ≤ k) ∧ Aside0 (Kd.R (Kd.int .u64) 40 w' w.heap.size (fun _ => True) u488000 x488000_1) ∧ Aside0 (Kd.R (Kd.int .u64) 40 w' w.heap.size (fun _ => True) u488001 x488001_1) ∧ Aside0 (Kd.R (Kd.int .u64) 40 w' w.heap.size (fun _ => True) u488002 x488002_1) ∧ Aside0 (Kd.R (Kd.int .u64) 40 w' w.heap.size (fun _ => True) u489000 x489000_1) ∧ Aside0 (Kd.R (Kd.int .u64) 40 w' w.heap.size (fun _ => True) u489001 x489001_1) ∧ Aside0 (Kd.R (Kd.int .u64) 40 w' w.heap.size (fun _ => True) u489002 x489002_1) ∧ Aside0 (w'.heap[gb477]? = some (.cells #[(.slice none 0 0), (.slice none 0 0), (.slice none 0 0)] 61 (0, 0))) ∧ Aside0 (w'.heap[gb487]? = some (.cells #[u488000, u488001, u488002] 61 (0, 0))) ∧ Aside0 (w'.heap[gb488]? = some (.cells #[u489000, u489001, u489002] 61 (0, 0))) ∧ Aside0 (Below w.heap.size w w'))
 case atStart => exact ⟨(t481), (y478), (([] : List Int)), (t484), (([] : List Int)), (y478), (.slice Ao12 t481.length co12), (.slice Ao11 y478.length co11), (.slice none 0 0), (.slice Ao14 t484.length co14), (.slice none 0 0), (.slice Ao11 y478.length co11), H', ⟨Nat.le_refl _⟩, ⟨by (with_reducible repeat (first | apply Kd.R_alloc | apply Kd.R_drewN | apply Kd.R_drew)); exact Kd.R_mono (Kd.R_far (p := ⟨gb488, 2, none⟩) (Kd.R_far (p := ⟨gb488, 1, none⟩) (Kd.R_far (p := ⟨gb488, 0, none⟩) (Kd.R_far (p := ⟨gb487, 2, none⟩) (Kd.R_far (p := ⟨gb487, 1, none⟩) (Kd.R_far (p := ⟨gb487, 0, none⟩) (Kd.R_types (Kd.R_types HO483.out BK487.out (by decide)) BK488.out (by decide)) (fun _ hk => hk.1.2) (.slice Ao12 t481.length co12)) (fun _ hk => hk.1.2) (.slice Ao11 y478.length co11)) (fun _ hk => hk.1.2) (.slice none 0 0)) (fun _ hk => hk.2) (.slice Ao14 t484.length co14)) (fun _ hk => hk.2) (.slice none 0 0)) (fun _ hk => hk.2) (.slice Ao11 y478.length co11)) (fun _ hk => trivial)⟩, ⟨by (with_reducible repeat (first | apply Kd.R_alloc | apply Kd.R_drewN | apply Kd.R_drew)); exact Kd.R_mono (Kd.R_far (p := ⟨gb488, 2, none⟩) (Kd.R_far (p := ⟨gb488, 1, none⟩) (Kd.R_far (p := ⟨gb488, 0, none⟩) (Kd.R_far (p := ⟨gb487, 2, none⟩) (Kd.R_far (p := ⟨gb487, 1, none⟩) (Kd.R_far (p := ⟨gb487, 0, none⟩) (Kd.R_types (Kd.R_types HO480.out BK487.out (by decide)) BK488.out (by decide)) (fun _ hk => hk.1.2) (.slice Ao12 t481.length co12)) (fun _ hk => hk.1.2) (.slice Ao11 y478.length co11)) (fun _ hk => hk.1.2) (.slice none 0 0)) (fun _ hk => hk.2) (.slice Ao14 t484.length co14)) (fun _ hk => hk.2) (.slice none 0 0)) (fun _ hk => hk.2) (.slice Ao11 y478.length co11)) (fun _ hk => trivial)⟩, ⟨by first | exact Kd.R_nil _ _ _ _ _ | exact Kd.N_nil _ _ _ _ _ | exact Kd.V_nil _ _ _ _ _ | exact Kd.Q_nil _ _ _ _ _ | exact Kd.S_nil _ _ _ _ _⟩, ⟨by (with_reducible repeat (first | apply Kd.R_alloc | apply Kd.R_drewN | apply Kd.R_drew)); exact Kd.R_mono (Kd.R_far (p := ⟨gb488, 2, none⟩) (Kd.R_far (p := ⟨gb488, 1, none⟩) (Kd.R_far (p := ⟨gb488, 0, none⟩) (Kd.R_far (p := ⟨gb487, 2, none⟩) (Kd.R_far (p := ⟨gb487, 1, none⟩) (Kd.R_far (p := ⟨gb487, 0, none⟩) (Kd.R_types (Kd.R_types HO486.out BK487.out (by decide)) BK488.out (by decide)) (fun _ hk => hk.1.2) (.slice Ao12 t481.length co12)) (fun _ hk => hk.1.2) (.slice Ao11 y478.length co11)) (fun _ hk => hk.1.2) (.slice none 0 0)) (fun _ hk => hk.2) (.slice Ao14 t484.length co14)) (fun _ hk => hk.2) (.slice none 0 0)) (fun _ hk => hk.2) (.slice Ao11 y478.length co11)) (fun _ hk => trivial)⟩, ⟨by first | exact Kd.R_nil _ _ _ _ _ | exact Kd.N_nil _ _ _ _ _ | exact Kd.V_nil _ _ _ _ _ | exact Kd.Q_nil _ _ _ _ _ | exact Kd.S_nil _ _ _ _ _⟩, ⟨by (with_reducible repeat (first | apply Kd.R_alloc | apply Kd.R_drewN | apply Kd.R_drew)); exact Kd.R_mono (Kd.R_far (p := ⟨gb488, 2, none⟩) (Kd.R_far (p := ⟨gb488, 1, none⟩) (Kd.R_far (p := ⟨gb488, 0, none⟩) (Kd.R_far (p := ⟨gb487, 2, none⟩) (Kd.R_far (p := ⟨gb487, 1, none⟩) (Kd.R_far (p := ⟨gb487, 0, none⟩) (Kd.R_types (Kd.R_types HO480.out BK487.out (by decide)) BK488.out (by decide)) (fun _ hk => hk.1.2) (.slice Ao12 t481.length co12)) (fun _ hk => hk.1.2) (.slice Ao11 y478.length co11)) (fun _ hk => hk.1.2) (.slice none 0 0)) (fun _ hk => hk.2) (.slice Ao14 t484.length co14)) (fun _ hk => hk.2) (.slice none 0 0)) (fun _ hk => hk.2) (.slice Ao11 y478.length co11)) (fun _ hk => trivial)⟩, ⟨by (with_reducible repeat (first | refine blk_drewN ?_ _ | refine blk_drew ?_ | refine blk_alloc ?_ _)); refine blk_far ?_ NB477_488.out _; (with_reducible repeat (first | refine blk_drewN ?_ _ | refine blk_drew ?_ | refine blk_alloc ?_ _)); refine blk_far ?_ NB477_488.out _; (with_reducible repeat (first | refine blk_drewN ?_ _ | refine blk_drew ?_ | refine blk_alloc ?_ _)); refine blk_far ?_ NB477_488.out _; (with_reducible repeat (first | refine blk_drewN ?_ _ | refine blk_drew ?_ | refine blk_alloc ?_ _)); refine blk_far ?_ NB477_487.out _; (with_reducible repeat (first | refine blk_drewN ?_ _ | refine blk_drew ?_ | refine blk_alloc ?_ _)); refine blk_far ?_ NB477_487.out _; (with_reducible repeat (first | refine blk_drewN ?_ _ | refine blk_drew ?_ | refine blk_alloc ?_ _)); refine blk_far ?_ NB477_487.out _; (with_reducible repeat (first | refine blk_drewN ?_ _ | refine blk_drew ?_ | refine blk_alloc ?_ _)); exact BK477.out⟩, ⟨by (with_reducible repeat (first | refine blk_drewN ?_ _ | refine blk_drew ?_ | refine blk_alloc ?_ _)); refine blk_far ?_ NB487_488.out _; (with_reducible repeat (first | refine blk_drewN ?_ _ | refine blk_drew ?_ | refine blk_alloc ?_ _)); refine blk_far ?_ NB487_488.out _; (with_reducible repeat (first | refine blk_drewN ?_ _ | refine blk_drew ?_ | refine blk_alloc ?_ _)); refine blk_far ?_ NB487_488.out _; (with_reducible repeat (first | refine blk_drewN ?_ _ | refine blk_drew ?_ | refine blk_alloc ?_ _)); refine blk_put (cs := #[.slice Ao12 t481.length co12, .slice Ao11 y478.length co11, .slice none 0 0]) ?_ 2 _ rfl; (with_reducible repeat (first | refine blk_drewN ?_ _ | refine blk_drew ?_ | refine blk_alloc ?_ _)); refine blk_put (cs := #[.slice Ao12 t481.length co12, .slice none 0 0, .slice none 0 0]) ?_ 1 _ rfl; (with_reducible repeat (first | refine blk_drewN ?_ _ | refine blk_drew ?_ | refine blk_alloc ?_ _)); refine blk_put (cs := #[.slice none 0 0, .slice none 0 0, .slice none 0 0]) ?_ 0 _ rfl; (with_reducible repeat (first | refine blk_drewN ?_ _ | refine blk_drew ?_ | refine blk_alloc ?_ _)); exact BK487.out⟩, ⟨by (with_reducible repeat (first | refine blk_drewN ?_ _ | refine blk_drew ?_ | refine blk_alloc ?_ _)); refine blk_put (cs := #[.slice Ao14 t484.length co14, .slice none 0 0, .slice none 0 0]) ?_ 2 _ rfl; (with_reducible repeat (first | refine blk_drewN ?_ _ | refine blk_drew ?_ | refine blk_alloc ?_ _)); refine blk_put (cs := #[.slice Ao14 t484.length co14, .slice none 0 0, .slice none 0 0]) ?_ 1 _ rfl; (with_reducible repeat (first | refine blk_drewN ?_ _ | refine blk_drew ?_ | refine blk_alloc ?_ _)); refine blk_put (cs := #[.slice none 0 0, .slice none 0 0, .slice none 0 0]) ?_ 0 _ rfl; (with_reducible repeat (first | refine blk_drewN ?_ _ | refine blk_drew ?_ | refine blk_alloc ?_ _)); refine blk_far ?_ NB488_487.out _; (with_reducible repeat (first | refine blk_drewN ?_ _ | refine blk_drew ?_ | refine blk_alloc ?_ _)); refine blk_far ?_ NB488_487.out _; (with_reducible repeat (first | refine blk_drewN ?_ _ | refine blk_drew ?_ | refine blk_alloc ?_ _)); refine blk_far ?_ NB488_487.out _; (with_reducible repeat (first | refine blk_drewN ?_ _ | refine blk_drew ?_ | refine blk_alloc ?_ _)); exact BK488.out⟩, ⟨hs_⟩⟩
 case round =>
  clear H'
  try clear c1
  try clear c2
  try clear p2
  try clear c3
  try clear c17
  try clear c18
  try clear c20
  try clear hcz19_0
  try clear hcz19_1
  try clear hcz19_2
  try clear hcz21_0
  try clear hcz21_1
  try clear hcz21_2
  try clear hfz19_0
  try clear hfz19_1
  try clear hfz19_2
  try clear hfz21_0
  try clear hfz21_1
  try clear hfz21_2
  obtain ⟨x488000_1, x488001_1, x488002_1, x489000_1, x489001_1, x489002_1, u488000, u488001, u488002, u489000, u489001, u489002, HA, HK1, HO_488000, HO_488001, HO_488002, HO_489000, HO_489001, HO_489002, BK477, BK487, BK488, HB⟩ := hrel
  cases gk with
  | zero => exact absurd HA.out (by simp [euclid_partial.l0])
  | succ k1 =>
   have H := HA.out
   clear HA
   simp only [euclid_partial.l0] at H
   have HC22 := Aside0.mk H
   clear H
   go_upto_region 3 with (fail)
   go_cut [35] (fun v35 wc => ∃ (kq : Nat) (x35_21 : Bool), v35 = .bool x35_21 ∧ Aside0 (euclid_partial.j1 kq a0 a3 x35_21 x488000_1 x488001_1 x488002_1 x489000_1 x489001_1 x489002_1 = some (r1, r2, r3, r4)) ∧ Aside0 (kq ≤ k1) ∧ Aside0 (Kd.R (Kd.int .u64) 40 wc w.heap.size (fun _ => True) u488000 x488000_1) ∧ Aside0 (Kd.R (Kd.int .u64) 40 wc w.heap.size (fun _ => True) u488001 x488001_1) ∧ Aside0 (Kd.R (Kd.int .u64) 40 wc w.heap.size (fun _ => True) u488002 x488002_1) ∧ Aside0 (Kd.R (Kd.int .u64) 40 wc w.heap.size (fun _ => True) u489000 x489000_1) ∧ Aside0 (Kd.R (Kd.int .u64) 40 wc w.heap.size (fun _ => True) u489001 x489001_1) ∧ Aside0 (Kd.R (Kd.int .u64) 40 wc w.heap.size (fun _ => True) u489002 x489002_1) ∧ Aside0 (wc.heap[gb477]? = some (.cells #[(.slice none 0 0), (.slice none 0 0), (.slice none 0 0)] 61 (0, 0))) ∧ Aside0 (wc.heap[gb487]? = some (.cells #[u488000, u488001, u488002] 61 (0, 0))) ∧ Aside0 (wc.heap[gb488]? = some (.cells #[u489000, u489001, u489002] 61 (0, 0))) ∧ Aside0 (Below w.heap.size w wc))
   case first =>
    have H := HC22.out
    clear HC22
    by_cases c23 : (wrap64 ((x488000_1.length : Int) - 1)) < a3
    ·rw [if_pos c23] at H
     have c23b0 : decide ((wrap64 ((x488000_1.length : Int) - 1)) < a3) = true := decide_eq_true c23
     clear c23
     (first | rw [c23b0] | (simp only [i64_w, i32_w]; first | rw [c23b0]) | skip)
     have H' := Aside0.mk H
     clear H
     have hnb24 := NB487_477.out
     have hnc24 := NB477_487.out
     have hnb25 := NB487_488.out
     have hnc25 := NB488_487.out
     have hcz26_0 : wr.cell? ⟨gb487, 0, none⟩ = some (u488000) := (blk_cell BK487.out 0).trans rfl
     have hcz26_1 : wr.cell? ⟨gb487, 1, none⟩ = some (u488001) := (blk_cell BK487.out 1).trans rfl
     have hcz26_2 : wr.cell? ⟨gb487, 2, none⟩ = some (u488002) := (blk_cell BK487.out 2).trans rfl
     have hfz26_0 := blk_frozen BK487.out 0
     have hfz26_1 := blk_frozen BK487.out 1
     have hfz26_2 := blk_frozen BK487.out 2
     obtain ⟨Ao27, co27, eo27⟩ := Kd.R_slice HO_488000.out
     subst eo27
     go_wp2_with (go_step3)
     go_meet
     case rel => exact ⟨_, (true), (fs_), H', ⟨by have := HK1.out; first | omega | exact Nat.le_refl _⟩, ⟨mR_ HO_488000.out⟩, ⟨mR_ HO_488001.out⟩, ⟨mR_ HO_488002.out⟩, ⟨mR_ HO_489000.out⟩, ⟨mR_ HO_489001.out⟩, ⟨mR_ HO_489002.out⟩, ⟨mb_ BK477.out⟩, ⟨mb_ BK487.out⟩, ⟨mb_ BK488.out⟩, ⟨hs_⟩⟩
    ·rw [if_neg c23] at H
     have c23b0 : decide ((wrap64 ((x488000_1.length : Int) - 1)) < a3) = false := decide_eq_false c23
     clear c23
     (first | rw [c23b0] | (simp only [i64_w, i32_w]; first | rw [c23b0]) | skip)
     have H' := Aside0.mk H
     clear H
     have hnb28 := NB487_477.out
     have hnc28 := NB477_487.out
     have hnb29 := NB487_488.out
     have hnc29 := NB488_487.out
     have hcz30_0 : wr.cell? ⟨gb487, 0, none⟩ = some (u488000) := (blk_cell BK487.out 0).trans rfl
     have hcz30_1 : wr.cell? ⟨gb487, 1, none⟩ = some (u488001) := (blk_cell BK487.out 1).trans rfl
     have hcz30_2 : wr.cell? ⟨gb487, 2, none⟩ = some (u488002) := (blk_cell BK487.out 2).trans rfl
     have hfz30_0 := blk_frozen BK487.out 0
     have hfz30_1 := blk_frozen BK487.out 1
     have hfz30_2 := blk_frozen BK487.out 2
     obtain ⟨Ao31, co31, eo31⟩ := Kd.R_slice HO_488000.out
     subst eo31
     go_wp2_with (go_step3)
     go_meet
     case rel => exact ⟨_, (((x488000_1.length : Int) == 0)), (fs_), H', ⟨by have := HK1.out; first | omega | exact Nat.le_refl _⟩, ⟨mR_ HO_488000.out⟩, ⟨mR_ HO_488001.out⟩, ⟨mR_ HO_488002.out⟩, ⟨mR_ HO_489000.out⟩, ⟨mR_ HO_489001.out⟩, ⟨mR_ HO_489002.out⟩, ⟨mb_ BK477.out⟩, ⟨mb_ BK487.out⟩, ⟨mb_ BK488.out⟩, ⟨hs_⟩⟩
   case rest =>
    clear HC22
    try clear c1
    try clear c2
    try clear p2
    try clear c3
    try clear p6
    try clear c17
    try clear c18
    try clear c20
    try clear c23
    try clear c23b0
    try clear c24
    try clear c25
    try clear c28
    try clear c29
    try clear hcz19_0
    try clear hcz19_1
    try clear hcz19_2
    try clear hcz21_0
    try clear hcz21_1
    try clear hcz21_2
    try clear hcz26_0
    try clear hcz26_1
    try clear hcz26_2
    try clear hcz30_0
    try clear hcz30_1
    try clear hcz30_2
    try clear hfz19_0
    try clear hfz19_1
    try clear hfz19_2
    try clear hfz21_0
    try clear hfz21_1
    try clear hfz21_2
    try clear hfz26_0
    try clear hfz26_1
    try clear hfz26_2
    try clear hfz30_0
    try clear hfz30_1
    try clear hfz30_2
    try clear p2
    obtain ⟨kq, x35_21, rfl, HA, HJ21, HO_488000, HO_488001, HO_488002, HO_489000, HO_489001, HO_489002, BK477, BK487, BK488, HB⟩ := hcut
    cases kq with
    | zero => exact absurd HA.out (by simp [euclid_partial.j1])
    | succ kj21 =>
     have H := HA.out
     clear HA
     simp only [euclid_partial.j1] at H
     by_cases c32 : x35_21 = true
     ·subst c32
      have H1 : (some (x488000_1, x488001_1, x488002_1, 0)) = some (r1, r2, r3, r4) := by rw [if_pos rfl] at H; exact H
      clear H
      have H := H1
      clear H1
      simp only [Option.some.injEq, Prod.mk.injEq] at H
      obtain ⟨rfl, rfl, rfl, rfl⟩ := H
      have hnb33 := NB487_477.out
      have hnc33 := NB477_487.out
      have hnb34 := NB487_488.out
      have hnc34 := NB488_487.out
      have hcz35_0 : wc.cell? ⟨gb487, 0, none⟩ = some (u488000) := (blk_cell BK487.out 0).trans rfl
      have hcz35_1 : wc.cell? ⟨gb487, 1, none⟩ = some (u488001) := (blk_cell BK487.out 1).trans rfl
      have hcz35_2 : wc.cell? ⟨gb487, 2, none⟩ = some (u488002) := (blk_cell BK487.out 2).trans rfl
      have hfz35_0 := blk_frozen BK487.out 0
      have hfz35_1 := blk_frozen BK487.out 1
      have hfz35_2 := blk_frozen BK487.out 2
      obtain ⟨Ao36, co36, eo36⟩ := Kd.R_slice HO_488000.out
      subst eo36
      have hnb37 := NB477_488.out
      have hnc37 := NB488_477.out
      have hcz38_0 : wc.cell? ⟨gb477, 0, none⟩ = some (.slice none 0 0) := (blk_cell BK477.out 0).trans rfl
      have hcz38_1 : wc.cell? ⟨gb477, 1, none⟩ = some (.slice none 0 0) := (blk_cell BK477.out 1).trans rfl
      have hcz38_2 : wc.cell? ⟨gb477, 2, none⟩ = some (.slice none 0 0) := (blk_cell BK477.out 2).trans rfl
      have hfz38_0 := blk_frozen BK477.out 0
      have hfz38_1 := blk_frozen BK477.out 1
      have hfz38_2 := blk_frozen BK477.out 2
      obtain ⟨Ao39, co39, eo39⟩ := Kd.R_slice HO_488001.out
      subst eo39
      obtain ⟨Ao40, co40, eo40⟩ := Kd.R_slice HO_488002.out
      subst eo40
      go_wp2_with (go_step3)
      (try rw [Exit.noGoto_ret])
      refine bodyPost_ret (results_ct rfl _ _ gb477 61 #[.slice Ao36 x488000_1.length co36, .slice Ao39 x488001_1.length co39, .slice Ao40 x488002_1.length co40] (0, 0) _ rfl (by (with_reducible repeat (first | refine blk_drewN ?_ _ | refine blk_drew ?_ | refine blk_alloc ?_ _)); refine blk_put (cs := #[.slice Ao36 x488000_1.length co36, .slice Ao39 x488001_1.length co39, .slice none 0 0]) ?_ 2 _ rfl; (with_reducible repeat (first | refine blk_drewN ?_ _ | refine blk_drew ?_ | refine blk_alloc ?_ _)); refine blk_put (cs := #[.slice Ao36 x488000_1.length co36, .slice none 0 0, .slice none 0 0]) ?_ 1 _ rfl; (with_reducible repeat (first | refine blk_drewN ?_ _ | refine blk_drew ?_ | refine blk_alloc ?_ _)); refine blk_put (cs := #[.slice none 0 0, .slice none 0 0, .slice none 0 0]) ?_ 0 _ rfl; (with_reducible repeat (first | refine blk_drewN ?_ _ | refine blk_drew ?_ | refine blk_alloc ?_ _)); exact BK477.out) Try.underlying61 rfl (by kernel_rfl)) rfl ?_
      exact ⟨_, _, _, fr_, by (with_reducible repeat (first | apply Kd.R_alloc | apply Kd.R_drewN | apply Kd.R_drew)); exact Kd.R_mono (Kd.R_far (p := ⟨gb477, 2, none⟩) (Kd.R_far (p := ⟨gb477, 1, none⟩) (Kd.R_far (p := ⟨gb477, 0, none⟩) (Kd.R_types HO_488000.out BK477.out (by decide)) (fun _ hk => hk.2) (.slice Ao36 x488000_1.length co36)) (fun _ hk => hk.2) (.slice Ao39 x488001_1.length co39)) (fun _ hk => hk.2) (.slice Ao40 x488002_1.length co40)) (fun _ hk => trivial), by (with_reducible repeat (first | apply Kd.R_alloc | apply Kd.R_drewN | apply Kd.R_drew)); exact Kd.R_mono (Kd.R_far (p := ⟨gb477, 2, none⟩) (Kd.R_far (p := ⟨gb477, 1, none⟩) (Kd.R_far (p := ⟨gb477, 0, none⟩) (Kd.R_types HO_488001.out BK477.out (by decide)) (fun _ hk => hk.2) (.slice Ao36 x488000_1.length co36)) (fun _ hk => hk.2) (.slice Ao39 x488001_1.length co39)) (fun _ hk => hk.2) (.slice Ao40 x488002_1.length co40)) (fun _ hk => trivial), by (with_reducible repeat (first | apply Kd.R_alloc | apply Kd.R_drewN | apply Kd.R_drew)); exact Kd.R_mono (Kd.R_far (p := ⟨gb477, 2, none⟩) (Kd.R_far (p := ⟨gb477, 1, none⟩) (Kd.R_far (p := ⟨gb477, 0, none⟩) (Kd.R_types HO_488002.out BK477.out (by decide)) (fun _ hk => hk.2) (.slice Ao36 x488000_1.length co36)) (fun _ hk => hk.2) (.slice Ao39 x488001_1.length co39)) (fun _ hk => hk.2) (.slice Ao40 x488002_1.length co40)) (fun _ hk => trivial), hs_⟩
     ·replace c32 := Bool.eq_false_iff.mpr c32
      subst c32
      have H1 : (if (x489000_1.length : Int) = 0 then (euclid_partial.l0 kj21 a0 a3 x489000_1 x489001_1 x489002_1 x489000_1 x489001_1 x489002_1) else ((euclid_next.f kj21 a0 x488000_1 x488001_1 x488002_1 x489000_1 x489001_1 x489002_1).bind fun bt489 => (if bt489.2.2.2 = 0 then (euclid_partial.l0 kj21 a0 a3 x489000_1 x489001_1 x489002_1 bt489.1 bt489.2.1 bt489.2.2.1) else (some (([] : List Int), ([] : List Int), ([] : List Int), bt489.2.2.2))))) = some (r1, r2, r3, r4) := by rw [if_neg (show ¬ (false = true) by decide)] at H; exact H
      clear H
      have H := H1
      clear H1
      by_cases c41 : (x489000_1.length : Int) = 0
      ·rw [if_pos c41] at H
       have c41b0 : ((x489000_1.length : Int) == 0) = true := beq_iff_eq.mpr c41
       have c41b1 : ((x489000_1.length : Int) != 0) = false := bne_eq_false_iff_eq.mpr c41
       clear c41
       have H' := Aside0.mk H
       clear H
       have hnb42 := NB488_477.out
       have hnc42 := NB477_488.out
       have hnb43 := NB488_487.out
       have hnc43 := NB487_488.out
       have hcz44_0 : wc.cell? ⟨gb488, 0, none⟩ = some (u489000) := (blk_cell BK488.out 0).trans rfl
       have hcz44_1 : wc.cell? ⟨gb488, 1, none⟩ = some (u489001) := (blk_cell BK488.out 1).trans rfl
       have hcz44_2 : wc.cell? ⟨gb488, 2, none⟩ = some (u489002) := (blk_cell BK488.out 2).trans rfl
       have hfz44_0 := blk_frozen BK488.out 0
       have hfz44_1 := blk_frozen BK488.out 1
       have hfz44_2 := blk_frozen BK488.out 2
       obtain ⟨Ao45, co45, eo45⟩ := Kd.R_slice HO_489000.out
       subst eo45
       have hnb46 := NB487_477.out
       have hnc46 := NB477_487.out
       have hcz47_0 : wc.cell? ⟨gb487, 0, none⟩ = some (u488000) := (blk_cell BK487.out 0).trans rfl
       have hcz47_1 : wc.cell? ⟨gb487, 1, none⟩ = some (u488001) := (blk_cell BK487.out 1).trans rfl
       have hcz47_2 : wc.cell? ⟨gb487, 2, none⟩ = some (u488002) := (blk_cell BK487.out 2).trans rfl
       have hfz47_0 := blk_frozen BK487.out 0
       have hfz47_1 := blk_frozen BK487.out 1
       have hfz47_2 := blk_frozen BK487.out 2
       obtain ⟨Ao48, co48, eo48⟩ := Kd.R_slice HO_489001.out
       subst eo48
       obtain ⟨Ao49, co49, eo49⟩ := Kd.R_slice HO_489002.out
       subst eo49
       go_wp2_with (go_step3)
       go_roundg kj21
       case measure => have := HK1.out; have := HJ21.out; omega
       case rel => exact ⟨(x489000_1), (x489001_1), (x489002_1), (x489000_1), (x489001_1), (x489002_1), (.slice Ao45 x489000_1.length co45), (.slice Ao48 x489001_1.length co48), (.slice Ao49 x489002_1.length co49), (.slice Ao45 x489000_1.length co45), (.slice Ao48 x489001_1.length co48), (.slice Ao49 x489002_1.length co49), H', ⟨by have := HK1.out; have := HJ21.out; omega⟩, ⟨by (with_reducible repeat (first | apply Kd.R_alloc | apply Kd.R_drewN | apply Kd.R_drew)); exact Kd.R_mono (Kd.R_far (p := ⟨gb487, 2, none⟩) (Kd.R_far (p := ⟨gb487, 1, none⟩) (Kd.R_far (p := ⟨gb487, 0, none⟩) (Kd.R_types HO_489000.out BK487.out (by decide)) (fun _ hk => hk.2) (.slice Ao45 x489000_1.length co45)) (fun _ hk => hk.2) (.slice Ao48 x489001_1.length co48)) (fun _ hk => hk.2) (.slice Ao49 x489002_1.length co49)) (fun _ hk => trivial)⟩, ⟨by (with_reducible repeat (first | apply Kd.R_alloc | apply Kd.R_drewN | apply Kd.R_drew)); exact Kd.R_mono (Kd.R_far (p := ⟨gb487, 2, none⟩) (Kd.R_far (p := ⟨gb487, 1, none⟩) (Kd.R_far (p := ⟨gb487, 0, none⟩) (Kd.R_types HO_489001.out BK487.out (by decide)) (fun _ hk => hk.2) (.slice Ao45 x489000_1.length co45)) (fun _ hk => hk.2) (.slice Ao48 x489001_1.length co48)) (fun _ hk => hk.2) (.slice Ao49 x489002_1.length co49)) (fun _ hk => trivial)⟩, ⟨by (with_reducible repeat (first | apply Kd.R_alloc | apply Kd.R_drewN | apply Kd.R_drew)); exact Kd.R_mono (Kd.R_far (p := ⟨gb487, 2, none⟩) (Kd.R_far (p := ⟨gb487, 1, none⟩) (Kd.R_far (p := ⟨gb487, 0, none⟩) (Kd.R_types HO_489002.out BK487.out (by decide)) (fun _ hk => hk.2) (.slice Ao45 x489000_1.length co45)) (fun _ hk => hk.2) (.slice Ao48 x489001_1.length co48)) (fun _ hk => hk.2) (.slice Ao49 x489002_1.length co49)) (fun _ hk => trivial)⟩, ⟨by (with_reducible repeat (first | apply Kd.R_alloc | apply Kd.R_drewN | apply Kd.R_drew)); exact Kd.R_mono (Kd.R_far (p := ⟨gb487, 2, none⟩) (Kd.R_far (p := ⟨gb487, 1, none⟩) (Kd.R_far (p := ⟨gb487, 0, none⟩) (Kd.R_types HO_489000.out BK487.out (by decide)) (fun _ hk => hk.2) (.slice Ao45 x489000_1.length co45)) (fun _ hk => hk.2) (.slice Ao48 x489001_1.length co48)) (fun _ hk => hk.2) (.slice Ao49 x489002_1.length co49)) (fun _ hk => trivial)⟩, ⟨by (with_reducible repeat (first | apply Kd.R_alloc | apply Kd.R_drewN | apply Kd.R_drew)); exact Kd.R_mono (Kd.R_far (p := ⟨gb487, 2, none⟩) (Kd.R_far (p := ⟨gb487, 1, none⟩) (Kd.R_far (p := ⟨gb487, 0, none⟩) (Kd.R_types HO_489001.out BK487.out (by decide)) (fun _ hk => hk.2) (.slice Ao45 x489000_1.length co45)) (fun _ hk => hk.2) (.slice Ao48 x489001_1.length co48)) (fun _ hk => hk.2) (.slice Ao49 x489002_1.length co49)) (fun _ hk => trivial)⟩, ⟨by (with_reducible repeat (first | apply Kd.R_alloc | apply Kd.R_drewN | apply Kd.R_drew)); exact Kd.R_mono (Kd.R_far (p := ⟨gb487, 2, none⟩) (Kd.R_far (p := ⟨gb487, 1, none⟩) (Kd.R_far (p := ⟨gb487, 0, none⟩) (Kd.R_types HO_489002.out BK487.out (by decide)) (fun _ hk => hk.2) (.slice Ao45 x489000_1.length co45)) (fun _ hk => hk.2) (.slice Ao48 x489001_1.length co48)) (fun _ hk => hk.2) (.slice Ao49 x489002_1.length co49)) (fun _ hk => trivial)⟩, ⟨by (with_reducible repeat (first | refine blk_drewN ?_ _ | refine blk_drew ?_ | refine blk_alloc ?_ _)); refine blk_far ?_ NB477_487.out _; (with_reducible repeat (first | refine blk_drewN ?_ _ | refine blk_drew ?_ | refine blk_alloc ?_ _)); refine blk_far ?_ NB477_487.out _; (with_reducible repeat (first | refine blk_drewN ?_ _ | refine blk_drew ?_ | refine blk_alloc ?_ _)); refine blk_far ?_ NB477_487.out _; (with_reducible repeat (first | refine blk_drewN ?_ _ | refine blk_drew ?_ | refine blk_alloc ?_ _)); exact BK477.out⟩, ⟨by (with_reducible repeat (first | refine blk_drewN ?_ _ | refine blk_drew ?_ | refine blk_alloc ?_ _)); refine blk_put (cs := #[.slice Ao45 x489000_1.length co45, .slice Ao48 x489001_1.length co48, u488002]) ?_ 2 _ rfl; (with_reducible repeat (first | refine blk_drewN ?_ _ | refine blk_drew ?_ | refine blk_alloc ?_ _)); refine blk_put (cs := #[.slice Ao45 x489000_1.length co45, u488001, u488002]) ?_ 1 _ rfl; (with_reducible repeat (first | refine blk_drewN ?_ _ | refine blk_drew ?_ | refine blk_alloc ?_ _)); refine blk_put (cs := #[u488000, u488001, u488002]) ?_ 0 _ rfl; (with_reducible repeat (first | refine blk_drewN ?_ _ | refine blk_drew ?_ | refine blk_alloc ?_ _)); exact BK487.out⟩, ⟨by (with_reducible repeat (first | refine blk_drewN ?_ _ | refine blk_drew ?_ | refine blk_alloc ?_ _)); refine blk_far ?_ NB488_487.out _; (with_reducible repeat (first | refine blk_drewN ?_ _ | refine blk_drew ?_ | refine blk_alloc ?_ _)); refine blk_far ?_ NB488_487.out _; (with_reducible repeat (first | refine blk_drewN ?_ _ | refine blk_drew ?_ | refine blk_alloc ?_ _)); refine blk_far ?_ NB488_487.out _; (with_reducible repeat (first | refine blk_drewN ?_ _ | refine blk_drew ?_ | refine blk_alloc ?_ _)); exact BK488.out⟩, ⟨hs_⟩⟩
      ·rw [if_neg c41] at H
       have c41b0 : ((x489000_1.length : Int) == 0) = false := beq_eq_false_iff_ne.mpr c41
       have c41b1 : ((x489000_1.length : Int) != 0) = true := bne_iff_ne.mpr c41
       have c41b2 : ¬ (x489000_1 = []) := fun h_ => c41 (by rw [h_]; rfl)
       replace H := Option.bind_eq_some_iff.mp H
       obtain ⟨⟨t489, t492, t495, t498⟩, A500, H⟩ := H
       replace H : (if t498 = 0 then (euclid_partial.l0 kj21 a0 a3 x489000_1 x489001_1 x489002_1 t489 t492 t495) else (some (([] : List Int), ([] : List Int), ([] : List Int), t498))) = some (r1, r2, r3, r4) := H
       have A50 := Aside0.mk A500
       clear A500
       have HC51 := Aside0.mk H
       clear H
       have hnb52 := NB488_477.out
       have hnc52 := NB477_488.out
       have hnb53 := NB488_487.out
       have hnc53 := NB487_488.out
       have hcz54_0 : wc.cell? ⟨gb488, 0, none⟩ = some (u489000) := (blk_cell BK488.out 0).trans rfl
       have hcz54_1 : wc.cell? ⟨gb488, 1, none⟩ = some (u489001) := (blk_cell BK488.out 1).trans rfl
       have hcz54_2 : wc.cell? ⟨gb488, 2, none⟩ = some (u489002) := (blk_cell BK488.out 2).trans rfl
       have hfz54_0 := blk_frozen BK488.out 0
       have hfz54_1 := blk_frozen BK488.out 1
       have hfz54_2 := blk_frozen BK488.out 2
       obtain ⟨Ao55, co55, eo55⟩ := Kd.R_slice HO_489000.out
       subst eo55
       have hnb56 := NB487_477.out
       have hnc56 := NB477_487.out
       have hcz57_0 : wc.cell? ⟨gb487, 0, none⟩ = some (u488000) := (blk_cell BK487.out 0).trans rfl
       have hcz57_1 : wc.cell? ⟨gb487, 1, none⟩ = some (u488001) := (blk_cell BK487.out 1).trans rfl
       have hcz57_2 : wc.cell? ⟨gb487, 2, none⟩ = some (u488002) := (blk_cell BK487.out 2).trans rfl
       have hfz57_0 := blk_frozen BK487.out 0
       have hfz57_1 := blk_frozen BK487.out 1
       have hfz57_2 := blk_frozen BK487.out 2
       obtain ⟨Ao58, co58, eo58⟩ := Kd.R_slice HO_488000.out
       subst eo58
       obtain ⟨Ao59, co59, eo59⟩ := Kd.R_slice HO_488001.out
       subst eo59
       obtain ⟨Ao60, co60, eo60⟩ := Kd.R_slice HO_488002.out
       subst eo60
       obtain ⟨Ao61, co61, eo61⟩ := Kd.R_slice HO_489001.out
       subst eo61
       obtain ⟨Ao62, co62, eo62⟩ := Kd.R_slice HO_489002.out
       subst eo62
       go_upto_if 49 with (first | ((with_reducible refine gate_callee (f := 52) rfl ?_); refine goesM_ (some 45) Try.func52 #[.int .u8 a0, .agg #[.slice Ao58 x488000_1.length co58, .slice Ao59 x488001_1.length co59, .slice Ao60 x488002_1.length co60], .agg #[.slice Ao55 x489000_1.length co55, .slice Ao61 x489001_1.length co61, .slice Ao62 x489002_1.length co62]] ?_; (with_reducible refine (euclid_next.calls kj21 a0 _ _ x488000_1 _ _ x488001_1 _ _ x488002_1 _ _ x489000_1 _ _ x489001_1 _ _ x489002_1 t489 t492 t495 t498 _ ?side1 ?side2 ?side3 ?side4 ?side5 ?side6 ?side7 ?side8 ?side9 ?side10 ?side11 ?side12 A50.out).mono ?_); (case side1 => repeat (first | exact (Kd.R_reads' HO_488000.out).2.2 | (with_reducible refine Kd.C_alloc ?_ _) | (with_reducible refine Kd.C_drewN ?_ _) | (with_reducible refine Kd.C_drew ?_))); (case side2 => exact (Kd.R_reads' HO_488000.out).2.1); (case side3 => repeat (first | exact (Kd.R_reads' HO_488001.out).2.2 | (with_reducible refine Kd.C_alloc ?_ _) | (with_reducible refine Kd.C_drewN ?_ _) | (with_reducible refine Kd.C_drew ?_))); (case side4 => exact (Kd.R_reads' HO_488001.out).2.1); (case side5 => repeat (first | exact (Kd.R_reads' HO_488002.out).2.2 | (with_reducible refine Kd.C_alloc ?_ _) | (with_reducible refine Kd.C_drewN ?_ _) | (with_reducible refine Kd.C_drew ?_))); (case side6 => exact (Kd.R_reads' HO_488002.out).2.1); (case side7 => repeat (first | exact (Kd.R_reads' HO_489000.out).2.2 | (with_reducible refine Kd.C_alloc ?_ _) | (with_reducible refine Kd.C_drewN ?_ _) | (with_reducible refine Kd.C_drew ?_))); (case side8 => exact (Kd.R_reads' HO_489000.out).2.1); (case side9 => repeat (first | exact (Kd.R_reads' HO_489001.out).2.2 | (with_reducible refine Kd.C_alloc ?_ _) | (with_reducible refine Kd.C_drewN ?_ _) | (with_reducible refine Kd.C_drew ?_))); (case side10 => exact (Kd.R_reads' HO_489001.out).2.1); (case side11 => repeat (first | exact (Kd.R_reads' HO_489002.out).2.2 | (with_reducible refine Kd.C_alloc ?_ _) | (with_reducible refine Kd.C_drewN ?_ _) | (with_reducible refine Kd.C_drew ?_))); (case side12 => exact (Kd.R_reads' HO_489002.out).2.1); rintro e w63 ⟨v490, v493, v496, rfl, ho0, ho1, ho2, hb⟩; refine ⟨_, rfl, ?_⟩; have n0_ := A_ (Kd.R_below (nR_ HO_488000) hb); have n1_ := A_ (Kd.R_below (nR_ HO_488001) hb); have n2_ := A_ (Kd.R_below (nR_ HO_488002) hb); have n3_ := A_ (Kd.R_below (nR_ HO_489000) hb); have n4_ := A_ (Kd.R_below (nR_ HO_489001) hb); have n5_ := A_ (Kd.R_below (nR_ HO_489002) hb); have n6_ := A_ (Kd.R_lower (Kd.R_mono (ok' := fun _ => True) ho0 (fun _ _ => trivial)) (below_size hs_)); have n7_ := A_ (Kd.R_lower (Kd.R_mono (ok' := fun _ => True) ho1 (fun _ _ => trivial)) (below_size hs_)); have n8_ := A_ (Kd.R_lower (Kd.R_mono (ok' := fun _ => True) ho2 (fun _ _ => trivial)) (below_size hs_)); have n9_ := A_ (blk_below (g := gb477) (o := .cells #[.slice none 0 0, .slice none 0 0, .slice none 0 0] 61 (0, 0)) (nb_ BK477) hb); have n10_ := A_ (blk_below (g := gb487) (o := .cells #[.slice Ao58 x488000_1.length co58, .slice Ao59 x488001_1.length co59, .slice Ao60 x488002_1.length co60] 61 (0, 0)) (nb_ BK487) hb); have n11_ := A_ (blk_below (g := gb488) (o := .cells #[.slice Ao55 x489000_1.length co55, .slice Ao61 x489001_1.length co61, .slice Ao62 x489002_1.length co62] 61 (0, 0)) (nb_ BK488) hb); have n12_ := A_ (below_step hs_ hb); clear HO_488000 HO_488001 HO_488002 HO_489000 HO_489001 HO_489002 BK477 BK487 BK488 HB; have HO_488000 := n0_; have HO_488001 := n1_; have HO_488002 := n2_; have HO_489000 := n3_; have HO_489001 := n4_; have HO_489002 := n5_; have HO491 := n6_; have HO494 := n7_; have HO497 := n8_; have BK477 := n9_; have BK487 := n10_; have BK488 := n11_; have HB := n12_; clear n0_ n1_ n2_ n3_ n4_ n5_ n6_ n7_ n8_ n9_ n10_ n11_ n12_; (try clear hb); (try clear ho0); (try clear ho1); (try clear ho2)) | ((with_reducible refine gate_dst (N := 13) rfl ?_); (try (refine gate_guard (by rfl) ?_; dsimp only)); refine box_event ?hg (N := 13) ?hd (cs := #[.slice none 0 0, .slice none 0 0, .slice none 0 0]) (t := 61) ?hr ?_; (case hd => rfl); (case hg => rfl); (case hr => first | (go_simp; done) | (go_simp; rfl)); intro gb499 hg w64 hbox hb; have n0_ := A_ (Kd.R_below (nR_ HO_488000) hb); have n1_ := A_ (Kd.R_below (nR_ HO_488001) hb); have n2_ := A_ (Kd.R_below (nR_ HO_488002) hb); have n3_ := A_ (Kd.R_below (nR_ HO_489000) hb); have n4_ := A_ (Kd.R_below (nR_ HO_489001) hb); have n5_ := A_ (Kd.R_below (nR_ HO_489002) hb); have n6_ := A_ (Kd.R_below (nR_ HO491) hb); have n7_ := A_ (Kd.R_below (nR_ HO494) hb); have n8_ := A_ (Kd.R_below (nR_ HO497) hb); have n9_ := A_ (blk_below (g := gb477) (o := .cells #[.slice none 0 0, .slice none 0 0, .slice none 0 0] 61 (0, 0)) (nb_ BK477) hb); have n10_ := A_ (blk_below (g := gb487) (o := .cells #[.slice Ao58 x488000_1.length co58, .slice Ao59 x488001_1.length co59, .slice Ao60 x488002_1.length co60] 61 (0, 0)) (nb_ BK487) hb); have n11_ := A_ (blk_below (g := gb488) (o := .cells #[.slice Ao55 x489000_1.length co55, .slice Ao61 x489001_1.length co61, .slice Ao62 x489002_1.length co62] 61 (0, 0)) (nb_ BK488) hb); have n12_ := A_ (below_step hs_ hb); have n13_ := A_ (hbox); have n14_ := A_ ((by rw [hg]; exact (below_size hs_) : w.heap.size ≤ gb499)); have n15_ := A_ ((by rw [hg]; exact (below_size hs_) : w.heap.size ≤ gb499)); have n16_ := A_ ((by rw [hg]; exact Nat.ne_of_lt (blk_lt (g := gb477) (o := .cells #[.slice none 0 0, .slice none 0 0, .slice none 0 0] 61 (0, 0)) (nb_ BK477)) : gb477 ≠ gb499)); have n17_ := A_ ((by rw [hg]; exact Nat.ne_of_gt (blk_lt (g := gb477) (o := .cells #[.slice none 0 0, .slice none 0 0, .slice none 0 0] 61 (0, 0)) (nb_ BK477)) : gb499 ≠ gb477)); have n18_ := A_ ((by rw [hg]; exact Nat.ne_of_lt (blk_lt (g := gb487) (o := .cells #[.slice Ao58 x488000_1.length co58, .slice Ao59 x488001_1.length co59, .slice Ao60 x488002_1.length co60] 61 (0, 0)) (nb_ BK487)) : gb487 ≠ gb499)); have n19_ := A_ ((by rw [hg]; exact Nat.ne_of_gt (blk_lt (g := gb487) (o := .cells #[.slice Ao58 x488000_1.length co58, .slice Ao59 x488001_1.length co59, .slice Ao60 x488002_1.length co60] 61 (0, 0)) (nb_ BK487)) : gb499 ≠ gb487)); have n20_ := A_ ((by rw [hg]; exact Nat.ne_of_lt (blk_lt (g := gb488) (o := .cells #[.slice Ao55 x489000_1.length co55, .slice Ao61 x489001_1.length co61, .slice Ao62 x489002_1.length co62] 61 (0, 0)) (nb_ BK488)) : gb488 ≠ gb499)); have n21_ := A_ ((by rw [hg]; exact Nat.ne_of_gt (blk_lt (g := gb488) (o := .cells #[.slice Ao55 x489000_1.length co55, .slice Ao61 x489001_1.length co61, .slice Ao62 x489002_1.length co62] 61 (0, 0)) (nb_ BK488)) : gb499 ≠ gb488)); clear HO_488000 HO_488001 HO_488002 HO_489000 HO_489001 HO_489002 HO491 HO494 HO497 BK477 BK487 BK488 HB; have HO_488000 := n0_; have HO_488001 := n1_; have HO_488002 := n2_; have HO_489000 := n3_; have HO_489001 := n4_; have HO_489002 := n5_; have HO491 := n6_; have HO494 := n7_; have HO497 := n8_; have BK477 := n9_; have BK487 := n10_; have BK488 := n11_; have HB := n12_; have BK499 := n13_; have GW499 := n14_; have GE499 := n15_; have NB477_499 := n16_; have NB499_477 := n17_; have NB487_499 := n18_; have NB499_487 := n19_; have NB488_499 := n20_; have NB499_488 := n21_; clear n0_ n1_ n2_ n3_ n4_ n5_ n6_ n7_ n8_ n9_ n10_ n11_ n12_ n13_ n14_ n15_ n16_ n17_ n18_ n19_ n20_ n21_; clear hb hbox hg; obtain ⟨Ao65, co65, eo65⟩ := Kd.R_slice HO491.out; subst eo65; have hnb66 := NB499_477.out; have hnc66 := NB477_499.out; have hnb67 := NB499_487.out; have hnc67 := NB487_499.out; have hnb68 := NB499_488.out; have hnc68 := NB488_499.out; have hcz69_0 : w64.cell? ⟨gb499, 0, none⟩ = some (.slice none 0 0) := (blk_cell BK499.out 0).trans rfl; have hcz69_1 : w64.cell? ⟨gb499, 1, none⟩ = some (.slice none 0 0) := (blk_cell BK499.out 1).trans rfl; have hcz69_2 : w64.cell? ⟨gb499, 2, none⟩ = some (.slice none 0 0) := (blk_cell BK499.out 2).trans rfl; have hfz69_0 := blk_frozen BK499.out 0; have hfz69_1 := blk_frozen BK499.out 1; have hfz69_2 := blk_frozen BK499.out 2; obtain ⟨Ao70, co70, eo70⟩ := Kd.R_slice HO494.out; subst eo70; obtain ⟨Ao71, co71, eo71⟩ := Kd.R_slice HO497.out; subst eo71))
       (try simp only [Act.put, List.setIfInBounds_toArray, List.set_cons_zero, List.set_cons_succ])
       have H := HC51.out
       clear HC51
       by_cases c72 : t498 = 0
       ·rw [if_pos c72] at H
        have c72b0 : (t498 == 0) = true := beq_iff_eq.mpr c72
        have c72b1 : (t498 != 0) = false := bne_eq_false_iff_eq.mpr c72
        clear c72
        (first | rw [c72b0] | rw [c72b1] | (simp only [i64_w, i32_w]; first | rw [c72b0] | rw [c72b1]) | skip)
        have H' := Aside0.mk H
        clear H
        try go_wp2_with (go_step3)
        have n0_ : Aside0 (Kd.R (Kd.int .u64) 40 (((w64.setCell ⟨gb499, 0, none⟩ (.slice Ao65 t489.length co65)).setCell ⟨gb499, 1, none⟩ (.slice Ao70 t492.length co70)).setCell ⟨gb499, 2, none⟩ (.slice Ao71 t495.length co71)) w.heap.size (fun _ => True) (.slice Ao58 x488000_1.length co58) x488000_1) := ⟨by (with_reducible repeat (first | apply Kd.R_alloc | apply Kd.R_drewN | apply Kd.R_drew)); exact Kd.R_mono (Kd.R_far (p := ⟨gb499, 2, none⟩) (Kd.R_far (p := ⟨gb499, 1, none⟩) (Kd.R_far (p := ⟨gb499, 0, none⟩) (Kd.R_types HO_488000.out BK499.out (by decide)) (fun _ hk => hk.2) (.slice Ao65 t489.length co65)) (fun _ hk => hk.2) (.slice Ao70 t492.length co70)) (fun _ hk => hk.2) (.slice Ao71 t495.length co71)) (fun _ hk => trivial)⟩
        have n1_ : Aside0 (Kd.R (Kd.int .u64) 40 (((w64.setCell ⟨gb499, 0, none⟩ (.slice Ao65 t489.length co65)).setCell ⟨gb499, 1, none⟩ (.slice Ao70 t492.length co70)).setCell ⟨gb499, 2, none⟩ (.slice Ao71 t495.length co71)) w.heap.size (fun _ => True) (.slice Ao59 x488001_1.length co59) x488001_1) := ⟨by (with_reducible repeat (first | apply Kd.R_alloc | apply Kd.R_drewN | apply Kd.R_drew)); exact Kd.R_mono (Kd.R_far (p := ⟨gb499, 2, none⟩) (Kd.R_far (p := ⟨gb499, 1, none⟩) (Kd.R_far (p := ⟨gb499, 0, none⟩) (Kd.R_types HO_488001.out BK499.out (by decide)) (fun _ hk => hk.2) (.slice Ao65 t489.length co65)) (fun _ hk => hk.2) (.slice Ao70 t492.length co70)) (fun _ hk => hk.2) (.slice Ao71 t495.length co71)) (fun _ hk => trivial)⟩
        have n2_ : Aside0 (Kd.R (Kd.int .u64) 40 (((w64.setCell ⟨gb499, 0, none⟩ (.slice Ao65 t489.length co65)).setCell ⟨gb499, 1, none⟩ (.slice Ao70 t492.length co70)).setCell ⟨gb499, 2, none⟩ (.slice Ao71 t495.length co71)) w.heap.size (fun _ => True) (.slice Ao60 x488002_1.length co60) x488002_1) := ⟨by (with_reducible repeat (first | apply Kd.R_alloc | apply Kd.R_drewN | apply Kd.R_drew)); exact Kd.R_mono (Kd.R_far (p := ⟨gb499, 2, none⟩) (Kd.R_far (p := ⟨gb499, 1, none⟩) (Kd.R_far (p := ⟨gb499, 0, none⟩) (Kd.R_types HO_488002.out BK499.out (by decide)) (fun _ hk => hk.2) (.slice Ao65 t489.length co65)) (fun _ hk => hk.2) (.slice Ao70 t492.length co70)) (fun _ hk => hk.2) (.slice Ao71 t495.length co71)) (fun _ hk => trivial)⟩
        have n3_ : Aside0 (Kd.R (Kd.int .u64) 40 (((w64.setCell ⟨gb499, 0, none⟩ (.slice Ao65 t489.length co65)).setCell ⟨gb499, 1, none⟩ (.slice Ao70 t492.length co70)).setCell ⟨gb499, 2, none⟩ (.slice Ao71 t495.length co71)) w.heap.size (fun _ => True) (.slice Ao55 x489000_1.length co55) x489000_1) := ⟨by (with_reducible repeat (first | apply Kd.R_alloc | apply Kd.R_drewN | apply Kd.R_drew)); exact Kd.R_mono (Kd.R_far (p := ⟨gb499, 2, none⟩) (Kd.R_far (p := ⟨gb499, 1, none⟩) (Kd.R_far (p := ⟨gb499, 0, none⟩) (Kd.R_types HO_489000.out BK499.out (by decide)) (fun _ hk => hk.2) (.slice Ao65 t489.length co65)) (fun _ hk => hk.2) (.slice Ao70 t492.length co70)) (fun _ hk => hk.2) (.slice Ao71 t495.length co71)) (fun _ hk => trivial)⟩
        have n4_ : Aside0 (Kd.R (Kd.int .u64) 40 (((w64.setCell ⟨gb499, 0, none⟩ (.slice Ao65 t489.length co65)).setCell ⟨gb499, 1, none⟩ (.slice Ao70 t492.length co70)).setCell ⟨gb499, 2, none⟩ (.slice Ao71 t495.length co71)) w.heap.size (fun _ => True) (.slice Ao61 x489001_1.length co61) x489001_1) := ⟨by (with_reducible repeat (first | apply Kd.R_alloc | apply Kd.R_drewN | apply Kd.R_drew)); exact Kd.R_mono (Kd.R_far (p := ⟨gb499, 2, none⟩) (Kd.R_far (p := ⟨gb499, 1, none⟩) (Kd.R_far (p := ⟨gb499, 0, none⟩) (Kd.R_types HO_489001.out BK499.out (by decide)) (fun _ hk => hk.2) (.slice Ao65 t489.length co65)) (fun _ hk => hk.2) (.slice Ao70 t492.length co70)) (fun _ hk => hk.2) (.slice Ao71 t495.length co71)) (fun _ hk => trivial)⟩
        have n5_ : Aside0 (Kd.R (Kd.int .u64) 40 (((w64.setCell ⟨gb499, 0, none⟩ (.slice Ao65 t489.length co65)).setCell ⟨gb499, 1, none⟩ (.slice Ao70 t492.length co70)).setCell ⟨gb499, 2, none⟩ (.slice Ao71 t495.length co71)) w.heap.size (fun _ => True) (.slice Ao62 x489002_1.length co62) x489002_1) := ⟨by (with_reducible repeat (first | apply Kd.R_alloc | apply Kd.R_drewN | apply Kd.R_drew)); exact Kd.R_mono (Kd.R_far (p := ⟨gb499, 2, none⟩) (Kd.R_far (p := ⟨gb499, 1, none⟩) (Kd.R_far (p := ⟨gb499, 0, none⟩) (Kd.R_types HO_489002.out BK499.out (by decide)) (fun _ hk => hk.2) (.slice Ao65 t489.length co65)) (fun _ hk => hk.2) (.slice Ao70 t492.length co70)) (fun _ hk => hk.2) (.slice Ao71 t495.length co71)) (fun _ hk => trivial)⟩
        have n6_ : Aside0 (Kd.R (Kd.int .u64) 40 (((w64.setCell ⟨gb499, 0, none⟩ (.slice Ao65 t489.length co65)).setCell ⟨gb499, 1, none⟩ (.slice Ao70 t492.length co70)).setCell ⟨gb499, 2, none⟩ (.slice Ao71 t495.length co71)) w.heap.size (fun _ => True) (.slice Ao65 t489.length co65) t489) := ⟨by (with_reducible repeat (first | apply Kd.R_alloc | apply Kd.R_drewN | apply Kd.R_drew)); exact Kd.R_mono (Kd.R_far (p := ⟨gb499, 2, none⟩) (Kd.R_far (p := ⟨gb499, 1, none⟩) (Kd.R_far (p := ⟨gb499, 0, none⟩) (Kd.R_types HO491.out BK499.out (by decide)) (fun _ hk => hk.2) (.slice Ao65 t489.length co65)) (fun _ hk => hk.2) (.slice Ao70 t492.length co70)) (fun _ hk => hk.2) (.slice Ao71 t495.length co71)) (fun _ hk => trivial)⟩
        have n7_ : Aside0 (Kd.R (Kd.int .u64) 40 (((w64.setCell ⟨gb499, 0, none⟩ (.slice Ao65 t489.length co65)).setCell ⟨gb499, 1, none⟩ (.slice Ao70 t492.length co70)).setCell ⟨gb499, 2, none⟩ (.slice Ao71 t495.length co71)) w.heap.size (fun _ => True) (.slice Ao70 t492.length co70) t492) := ⟨by (with_reducible repeat (first | apply Kd.R_alloc | apply Kd.R_drewN | apply Kd.R_drew)); exact Kd.R_mono (Kd.R_far (p := ⟨gb499, 2, none⟩) (Kd.R_far (p := ⟨gb499, 1, none⟩) (Kd.R_far (p := ⟨gb499, 0, none⟩) (Kd.R_types HO494.out BK499.out (by decide)) (fun _ hk => hk.2) (.slice Ao65 t489.length co65)) (fun _ hk => hk.2) (.slice Ao70 t492.length co70)) (fun _ hk => hk.2) (.slice Ao71 t495.length co71)) (fun _ hk => trivial)⟩
        have n8_ : Aside0 (Kd.R (Kd.int .u64) 40 (((w64.setCell ⟨gb499, 0, none⟩ (.slice Ao65 t489.length co65)).setCell ⟨gb499, 1, none⟩ (.slice Ao70 t492.length co70)).setCell ⟨gb499, 2, none⟩ (.slice Ao71 t495.length co71)) w.heap.size (fun _ => True) (.slice Ao71 t495.length co71) t495) := ⟨by (with_reducible repeat (first | apply Kd.R_alloc | apply Kd.R_drewN | apply Kd.R_drew)); exact Kd.R_mono (Kd.R_far (p := ⟨gb499, 2, none⟩) (Kd.R_far (p := ⟨gb499, 1, none⟩) (Kd.R_far (p := ⟨gb499, 0, none⟩) (Kd.R_types HO497.out BK499.out (by decide)) (fun _ hk => hk.2) (.slice Ao65 t489.length co65)) (fun _ hk => hk.2) (.slice Ao70 t492.length co70)) (fun _ hk => hk.2) (.slice Ao71 t495.length co71)) (fun _ hk => trivial)⟩
        have n9_ : Aside0 ((((w64.setCell ⟨gb499, 0, none⟩ (.slice Ao65 t489.length co65)).setCell ⟨gb499, 1, none⟩ (.slice Ao70 t492.length co70)).setCell ⟨gb499, 2, none⟩ (.slice Ao71 t495.length co71)).heap[gb477]? = some (.cells #[.slice none 0 0, .slice none 0 0, .slice none 0 0] 61 (0, 0))) := ⟨by (with_reducible repeat (first | refine blk_drewN ?_ _ | refine blk_drew ?_ | refine blk_alloc ?_ _)); refine blk_far ?_ NB477_499.out _; (with_reducible repeat (first | refine blk_drewN ?_ _ | refine blk_drew ?_ | refine blk_alloc ?_ _)); refine blk_far ?_ NB477_499.out _; (with_reducible repeat (first | refine blk_drewN ?_ _ | refine blk_drew ?_ | refine blk_alloc ?_ _)); refine blk_far ?_ NB477_499.out _; (with_reducible repeat (first | refine blk_drewN ?_ _ | refine blk_drew ?_ | refine blk_alloc ?_ _)); exact BK477.out⟩
        have n10_ : Aside0 ((((w64.setCell ⟨gb499, 0, none⟩ (.slice Ao65 t489.length co65)).setCell ⟨gb499, 1, none⟩ (.slice Ao70 t492.length co70)).setCell ⟨gb499, 2, none⟩ (.slice Ao71 t495.length co71)).heap[gb487]? = some (.cells #[.slice Ao58 x488000_1.length co58, .slice Ao59 x488001_1.length co59, .slice Ao60 x488002_1.length co60] 61 (0, 0))) := ⟨by (with_reducible repeat (first | refine blk_drewN ?_ _ | refine blk_drew ?_ | refine blk_alloc ?_ _)); refine blk_far ?_ NB487_499.out _; (with_reducible repeat (first | refine blk_drewN ?_ _ | refine blk_drew ?_ | refine blk_alloc ?_ _)); refine blk_far ?_ NB487_499.out _; (with_reducible repeat (first | refine blk_drewN ?_ _ | refine blk_drew ?_ | refine blk_alloc ?_ _)); refine blk_far ?_ NB487_499.out _; (with_reducible repeat (first | refine blk_drewN ?_ _ | refine blk_drew ?_ | refine blk_alloc ?_ _)); exact BK487.out⟩
        have n11_ : Aside0 ((((w64.setCell ⟨gb499, 0, none⟩ (.slice Ao65 t489.length co65)).setCell ⟨gb499, 1, none⟩ (.slice Ao70 t492.length co70)).setCell ⟨gb499, 2, none⟩ (.slice Ao71 t495.length co71)).heap[gb488]? = some (.cells #[.slice Ao55 x489000_1.length co55, .slice Ao61 x489001_1.length co61, .slice Ao62 x489002_1.length co62] 61 (0, 0))) := ⟨by (with_reducible repeat (first | refine blk_drewN ?_ _ | refine blk_drew ?_ | refine blk_alloc ?_ _)); refine blk_far ?_ NB488_499.out _; (with_reducible repeat (first | refine blk_drewN ?_ _ | refine blk_drew ?_ | refine blk_alloc ?_ _)); refine blk_far ?_ NB488_499.out _; (with_reducible repeat (first | refine blk_drewN ?_ _ | refine blk_drew ?_ | refine blk_alloc ?_ _)); refine blk_far ?_ NB488_499.out _; (with_reducible repeat (first | refine blk_drewN ?_ _ | refine blk_drew ?_ | refine blk_alloc ?_ _)); exact BK488.out⟩
        have n12_ : Aside0 ((((w64.setCell ⟨gb499, 0, none⟩ (.slice Ao65 t489.length co65)).setCell ⟨gb499, 1, none⟩ (.slice Ao70 t492.length co70)).setCell ⟨gb499, 2, none⟩ (.slice Ao71 t495.length co71)).heap[gb499]? = some (.cells #[.slice Ao65 t489.length co65, .slice Ao70 t492.length co70, .slice Ao71 t495.length co71] 61 (0, 0))) := ⟨by (with_reducible repeat (first | refine blk_drewN ?_ _ | refine blk_drew ?_ | refine blk_alloc ?_ _)); refine blk_put (cs := #[.slice Ao65 t489.length co65, .slice Ao70 t492.length co70, .slice none 0 0]) ?_ 2 _ rfl; (with_reducible repeat (first | refine blk_drewN ?_ _ | refine blk_drew ?_ | refine blk_alloc ?_ _)); refine blk_put (cs := #[.slice Ao65 t489.length co65, .slice none 0 0, .slice none 0 0]) ?_ 1 _ rfl; (with_reducible repeat (first | refine blk_drewN ?_ _ | refine blk_drew ?_ | refine blk_alloc ?_ _)); refine blk_put (cs := #[.slice none 0 0, .slice none 0 0, .slice none 0 0]) ?_ 0 _ rfl; (with_reducible repeat (first | refine blk_drewN ?_ _ | refine blk_drew ?_ | refine blk_alloc ?_ _)); exact BK499.out⟩
        have n13_ : Aside0 (Below w.heap.size w (((w64.setCell ⟨gb499, 0, none⟩ (.slice Ao65 t489.length co65)).setCell ⟨gb499, 1, none⟩ (.slice Ao70 t492.length co70)).setCell ⟨gb499, 2, none⟩ (.slice Ao71 t495.length co71))) := ⟨hs_⟩
        (try clear HO_488000)
        (try clear HO_488001)
        (try clear HO_488002)
        (try clear HO_489000)
        (try clear HO_489001)
        (try clear HO_489002)
        (try clear HO491)
        (try clear HO494)
        (try clear HO497)
        (try clear BK477)
        (try clear BK487)
        (try clear BK488)
        (try clear BK499)
        (try clear HB)
        generalize (((w64.setCell ⟨gb499, 0, none⟩ (.slice Ao65 t489.length co65)).setCell ⟨gb499, 1, none⟩ (.slice Ao70 t492.length co70)).setCell ⟨gb499, 2, none⟩ (.slice Ao71 t495.length co71)) = w73 at n0_ n1_ n2_ n3_ n4_ n5_ n6_ n7_ n8_ n9_ n10_ n11_ n12_ n13_ ⊢
        have HO_488000 := n0_
        have HO_488001 := n1_
        have HO_488002 := n2_
        have HO_489000 := n3_
        have HO_489001 := n4_
        have HO_489002 := n5_
        have HO491 := n6_
        have HO494 := n7_
        have HO497 := n8_
        have BK477 := n9_
        have BK487 := n10_
        have BK488 := n11_
        have BK499 := n12_
        have HB := n13_
        clear n0_ n1_ n2_ n3_ n4_ n5_ n6_ n7_ n8_ n9_ n10_ n11_ n12_ n13_
        have n0_ := A_ (Kd.R_drew HO_488000.out)
        have n1_ := A_ (Kd.R_drew HO_488001.out)
        have n2_ := A_ (Kd.R_drew HO_488002.out)
        have n3_ := A_ (Kd.R_drew HO_489000.out)
        have n4_ := A_ (Kd.R_drew HO_489001.out)
        have n5_ := A_ (Kd.R_drew HO_489002.out)
        have n6_ := A_ (Kd.R_drew HO491.out)
        have n7_ := A_ (Kd.R_drew HO494.out)
        have n8_ := A_ (Kd.R_drew HO497.out)
        have n9_ := A_ (blk_drew BK477.out)
        have n10_ := A_ (blk_drew BK487.out)
        have n11_ := A_ (blk_drew BK488.out)
        have n12_ := A_ (blk_drew BK499.out)
        have n13_ := A_ (below_drew1 HB.out)
        clear HO_488000
        clear HO_488001
        clear HO_488002
        clear HO_489000
        clear HO_489001
        clear HO_489002
        clear HO491
        clear HO494
        clear HO497
        clear BK477
        clear BK487
        clear BK488
        clear BK499
        clear HB
        have HO_488000 := n0_
        have HO_488001 := n1_
        have HO_488002 := n2_
        have HO_489000 := n3_
        have HO_489001 := n4_
        have HO_489002 := n5_
        have HO491 := n6_
        have HO494 := n7_
        have HO497 := n8_
        have BK477 := n9_
        have BK487 := n10_
        have BK488 := n11_
        have BK499 := n12_
        have HB := n13_
        clear n0_ n1_ n2_ n3_ n4_ n5_ n6_ n7_ n8_ n9_ n10_ n11_ n12_ n13_
        refine start_ (n := 4) (S := fun w' => w'.cell? ⟨gb488, 0, none⟩ = some (.slice Ao55 x489000_1.length co55) ∧ w'.cell? ⟨gb488, 1, none⟩ = some (.slice Ao61 x489001_1.length co61) ∧ w'.cell? ⟨gb488, 2, none⟩ = some (.slice Ao62 x489002_1.length co62) ∧ w'.cell? ⟨gb499, 0, none⟩ = some (.slice Ao65 t489.length co65) ∧ w'.cell? ⟨gb499, 1, none⟩ = some (.slice Ao70 t492.length co70) ∧ w'.cell? ⟨gb499, 2, none⟩ = some (.slice Ao71 t495.length co71)) (ds := [3]) #[false, false, false, false] (by kernel_rfl) rfl rfl ⟨(blk_cell BK488.out 0).trans rfl, (blk_cell BK488.out 1).trans rfl, (blk_cell BK488.out 2).trans rfl, (blk_cell BK499.out 0).trans rfl, (blk_cell BK499.out 1).trans rfl, (blk_cell BK499.out 2).trans rfl⟩ (fun hHeld => ?_)
        generalize w73.drew = w74 at HO_488000 HO_488001 HO_488002 HO_489000 HO_489001 HO_489002 HO491 HO494 HO497 BK477 BK487 BK488 BK499 HB hHeld ⊢
        refine take_ (i := 0) (N := some 52) (v := ?_) (a' := ?_) #[true, false, false, false] rfl rfl (by kernel_rfl) (fun _ _ _ h => h) (Or.inl ⟨by rfl, ?_⟩) hHeld ?_ ?_
        rotate_left
        ·rintro w' ⟨s0, s1, s2, s3, s4, s5⟩
         go_simp
         with_reducible rfl
        rotate_left
        ·simp only [Act.put, List.setIfInBounds_toArray, List.set_cons_zero, List.set_cons_succ, i64_w, i32_w]
         rfl
        refine take_ (i := 1) (N := some 53) (v := ?_) (a' := ?_) #[true, true, false, false] rfl rfl (by kernel_rfl) (fun _ _ _ h => h) (Or.inl ⟨by rfl, ?_⟩) hHeld ?_ ?_
        rotate_left
        ·rintro w' ⟨s0, s1, s2, s3, s4, s5⟩
         go_simp
         with_reducible rfl
        rotate_left
        ·simp only [Act.put, List.setIfInBounds_toArray, List.set_cons_zero, List.set_cons_succ, i64_w, i32_w]
         rfl
        refine one_ (i := 2) (N := none) #[true, true, true, false] rfl rfl (by kernel_rfl) (by decide) (fun K hK => ?_)
        have hs75 : w74.cell? ⟨gb487, 0, none⟩ = some (.slice Ao58 x488000_1.length co58) := (blk_cell BK487.out 0).trans rfl
        have hfs75 := blk_frozen BK487.out 0
        have hns75_0 := NB477_487.out
        have hns75_2 := NB488_487.out
        have hns75_3 := NB499_487.out
        have hms75_0 := NB487_477.out
        have hms75_2 := NB487_488.out
        have hms75_3 := NB487_499.out
        have hs76 : w74.cell? ⟨gb487, 1, none⟩ = some (.slice Ao59 x488001_1.length co59) := (blk_cell BK487.out 1).trans rfl
        have hfs76 := blk_frozen BK487.out 1
        have hns76_0 := NB477_487.out
        have hns76_2 := NB488_487.out
        have hns76_3 := NB499_487.out
        have hms76_0 := NB487_477.out
        have hms76_2 := NB487_488.out
        have hms76_3 := NB487_499.out
        have hs77 : w74.cell? ⟨gb487, 2, none⟩ = some (.slice Ao60 x488002_1.length co60) := (blk_cell BK487.out 2).trans rfl
        have hfs77 := blk_frozen BK487.out 2
        have hns77_0 := NB477_487.out
        have hns77_2 := NB488_487.out
        have hns77_3 := NB499_487.out
        have hms77_0 := NB487_477.out
        have hms77_2 := NB487_488.out
        have hms77_3 := NB487_499.out
        refine skip_ (w1 := ?_) (by rfl) rfl ?_ ?_
        rotate_left
        ·go_simp
         rfl
        refine hK.out _ _ ⟨((cell_far (p := ⟨gb487, _, none⟩) NB488_487.out _).trans (((cell_far (p := ⟨gb487, _, none⟩) NB488_487.out _).trans (((cell_far (p := ⟨gb487, _, none⟩) NB488_487.out _).trans (hHeld.1)))))), ((cell_far (p := ⟨gb487, _, none⟩) NB488_487.out _).trans (((cell_far (p := ⟨gb487, _, none⟩) NB488_487.out _).trans (((cell_far (p := ⟨gb487, _, none⟩) NB488_487.out _).trans (hHeld.2.1)))))), ((cell_far (p := ⟨gb487, _, none⟩) NB488_487.out _).trans (((cell_far (p := ⟨gb487, _, none⟩) NB488_487.out _).trans (((cell_far (p := ⟨gb487, _, none⟩) NB488_487.out _).trans (hHeld.2.2.1)))))), ((cell_far (p := ⟨gb487, _, none⟩) NB499_487.out _).trans (((cell_far (p := ⟨gb487, _, none⟩) NB499_487.out _).trans (((cell_far (p := ⟨gb487, _, none⟩) NB499_487.out _).trans (hHeld.2.2.2.1)))))), ((cell_far (p := ⟨gb487, _, none⟩) NB499_487.out _).trans (((cell_far (p := ⟨gb487, _, none⟩) NB499_487.out _).trans (((cell_far (p := ⟨gb487, _, none⟩) NB499_487.out _).trans (hHeld.2.2.2.2.1)))))), ((cell_far (p := ⟨gb487, _, none⟩) NB499_487.out _).trans (((cell_far (p := ⟨gb487, _, none⟩) NB499_487.out _).trans (((cell_far (p := ⟨gb487, _, none⟩) NB499_487.out _).trans (hHeld.2.2.2.2.2))))))⟩ (fun hHeld => ?_)
        clear hK K
        refine last_ (i := 3) (N := none) #[true, true, true, true] rfl rfl (by kernel_rfl) (by decide) (fun K hK => ?_)
        have hs78 : w74.cell? ⟨gb488, 0, none⟩ = some (.slice Ao55 x489000_1.length co55) := (blk_cell BK488.out 0).trans rfl
        have hfs78 := blk_frozen BK488.out 0
        have hns78_0 := NB477_488.out
        have hns78_1 := NB487_488.out
        have hns78_3 := NB499_488.out
        have hms78_0 := NB488_477.out
        have hms78_1 := NB488_487.out
        have hms78_3 := NB488_499.out
        have hs79 : w74.cell? ⟨gb488, 1, none⟩ = some (.slice Ao61 x489001_1.length co61) := (blk_cell BK488.out 1).trans rfl
        have hfs79 := blk_frozen BK488.out 1
        have hns79_0 := NB477_488.out
        have hns79_1 := NB487_488.out
        have hns79_3 := NB499_488.out
        have hms79_0 := NB488_477.out
        have hms79_1 := NB488_487.out
        have hms79_3 := NB488_499.out
        have hs80 : w74.cell? ⟨gb488, 2, none⟩ = some (.slice Ao62 x489002_1.length co62) := (blk_cell BK488.out 2).trans rfl
        have hfs80 := blk_frozen BK488.out 2
        have hns80_0 := NB477_488.out
        have hns80_1 := NB487_488.out
        have hns80_3 := NB499_488.out
        have hms80_0 := NB488_477.out
        have hms80_1 := NB488_487.out
        have hms80_3 := NB488_499.out
        refine skip_ (w1 := ?_) (by rfl) rfl ?_ ?_
        rotate_left
        ·go_simp
         rfl
        refine hK.out _ _ ?_
        clear hK K
        refine done_ (by kernel_rfl) ?_
        try go_wp2_with (go_step3)
        go_roundg kj21
        case measure => have := HK1.out; have := HJ21.out; omega
        case rel => exact ⟨(x489000_1), (x489001_1), (x489002_1), (t489), (t492), (t495), (.slice Ao55 x489000_1.length co55), (.slice Ao61 x489001_1.length co61), (.slice Ao62 x489002_1.length co62), (.slice Ao65 t489.length co65), (.slice Ao70 t492.length co70), (.slice Ao71 t495.length co71), H', ⟨by have := HK1.out; have := HJ21.out; omega⟩, ⟨by (with_reducible repeat (first | apply Kd.R_alloc | apply Kd.R_drewN | apply Kd.R_drew)); exact Kd.R_mono (Kd.R_far (p := ⟨gb488, 2, none⟩) (Kd.R_far (p := ⟨gb488, 1, none⟩) (Kd.R_far (p := ⟨gb488, 0, none⟩) (Kd.R_far (p := ⟨gb487, 2, none⟩) (Kd.R_far (p := ⟨gb487, 1, none⟩) (Kd.R_far (p := ⟨gb487, 0, none⟩) (Kd.R_types (Kd.R_types HO_489000.out BK487.out (by decide)) BK488.out (by decide)) (fun _ hk => hk.1.2) (.slice Ao55 x489000_1.length co55)) (fun _ hk => hk.1.2) (.slice Ao61 x489001_1.length co61)) (fun _ hk => hk.1.2) (.slice Ao62 x489002_1.length co62)) (fun _ hk => hk.2) (.slice Ao65 t489.length co65)) (fun _ hk => hk.2) (.slice Ao70 t492.length co70)) (fun _ hk => hk.2) (.slice Ao71 t495.length co71)) (fun _ hk => trivial)⟩, ⟨by (with_reducible repeat (first | apply Kd.R_alloc | apply Kd.R_drewN | apply Kd.R_drew)); exact Kd.R_mono (Kd.R_far (p := ⟨gb488, 2, none⟩) (Kd.R_far (p := ⟨gb488, 1, none⟩) (Kd.R_far (p := ⟨gb488, 0, none⟩) (Kd.R_far (p := ⟨gb487, 2, none⟩) (Kd.R_far (p := ⟨gb487, 1, none⟩) (Kd.R_far (p := ⟨gb487, 0, none⟩) (Kd.R_types (Kd.R_types HO_489001.out BK487.out (by decide)) BK488.out (by decide)) (fun _ hk => hk.1.2) (.slice Ao55 x489000_1.length co55)) (fun _ hk => hk.1.2) (.slice Ao61 x489001_1.length co61)) (fun _ hk => hk.1.2) (.slice Ao62 x489002_1.length co62)) (fun _ hk => hk.2) (.slice Ao65 t489.length co65)) (fun _ hk => hk.2) (.slice Ao70 t492.length co70)) (fun _ hk => hk.2) (.slice Ao71 t495.length co71)) (fun _ hk => trivial)⟩, ⟨by (with_reducible repeat (first | apply Kd.R_alloc | apply Kd.R_drewN | apply Kd.R_drew)); exact Kd.R_mono (Kd.R_far (p := ⟨gb488, 2, none⟩) (Kd.R_far (p := ⟨gb488, 1, none⟩) (Kd.R_far (p := ⟨gb488, 0, none⟩) (Kd.R_far (p := ⟨gb487, 2, none⟩) (Kd.R_far (p := ⟨gb487, 1, none⟩) (Kd.R_far (p := ⟨gb487, 0, none⟩) (Kd.R_types (Kd.R_types HO_489002.out BK487.out (by decide)) BK488.out (by decide)) (fun _ hk => hk.1.2) (.slice Ao55 x489000_1.length co55)) (fun _ hk => hk.1.2) (.slice Ao61 x489001_1.length co61)) (fun _ hk => hk.1.2) (.slice Ao62 x489002_1.length co62)) (fun _ hk => hk.2) (.slice Ao65 t489.length co65)) (fun _ hk => hk.2) (.slice Ao70 t492.length co70)) (fun _ hk => hk.2) (.slice Ao71 t495.length co71)) (fun _ hk => trivial)⟩, ⟨by (with_reducible repeat (first | apply Kd.R_alloc | apply Kd.R_drewN | apply Kd.R_drew)); exact Kd.R_mono (Kd.R_far (p := ⟨gb488, 2, none⟩) (Kd.R_far (p := ⟨gb488, 1, none⟩) (Kd.R_far (p := ⟨gb488, 0, none⟩) (Kd.R_far (p := ⟨gb487, 2, none⟩) (Kd.R_far (p := ⟨gb487, 1, none⟩) (Kd.R_far (p := ⟨gb487, 0, none⟩) (Kd.R_types (Kd.R_types HO491.out BK487.out (by decide)) BK488.out (by decide)) (fun _ hk => hk.1.2) (.slice Ao55 x489000_1.length co55)) (fun _ hk => hk.1.2) (.slice Ao61 x489001_1.length co61)) (fun _ hk => hk.1.2) (.slice Ao62 x489002_1.length co62)) (fun _ hk => hk.2) (.slice Ao65 t489.length co65)) (fun _ hk => hk.2) (.slice Ao70 t492.length co70)) (fun _ hk => hk.2) (.slice Ao71 t495.length co71)) (fun _ hk => trivial)⟩, ⟨by (with_reducible repeat (first | apply Kd.R_alloc | apply Kd.R_drewN | apply Kd.R_drew)); exact Kd.R_mono (Kd.R_far (p := ⟨gb488, 2, none⟩) (Kd.R_far (p := ⟨gb488, 1, none⟩) (Kd.R_far (p := ⟨gb488, 0, none⟩) (Kd.R_far (p := ⟨gb487, 2, none⟩) (Kd.R_far (p := ⟨gb487, 1, none⟩) (Kd.R_far (p := ⟨gb487, 0, none⟩) (Kd.R_types (Kd.R_types HO494.out BK487.out (by decide)) BK488.out (by decide)) (fun _ hk => hk.1.2) (.slice Ao55 x489000_1.length co55)) (fun _ hk => hk.1.2) (.slice Ao61 x489001_1.length co61)) (fun _ hk => hk.1.2) (.slice Ao62 x489002_1.length co62)) (fun _ hk => hk.2) (.slice Ao65 t489.length co65)) (fun _ hk => hk.2) (.slice Ao70 t492.length co70)) (fun _ hk => hk.2) (.slice Ao71 t495.length co71)) (fun _ hk => trivial)⟩, ⟨by (with_reducible repeat (first | apply Kd.R_alloc | apply Kd.R_drewN | apply Kd.R_drew)); exact Kd.R_mono (Kd.R_far (p := ⟨gb488, 2, none⟩) (Kd.R_far (p := ⟨gb488, 1, none⟩) (Kd.R_far (p := ⟨gb488, 0, none⟩) (Kd.R_far (p := ⟨gb487, 2, none⟩) (Kd.R_far (p := ⟨gb487, 1, none⟩) (Kd.R_far (p := ⟨gb487, 0, none⟩) (Kd.R_types (Kd.R_types HO497.out BK487.out (by decide)) BK488.out (by decide)) (fun _ hk => hk.1.2) (.slice Ao55 x489000_1.length co55)) (fun _ hk => hk.1.2) (.slice Ao61 x489001_1.length co61)) (fun _ hk => hk.1.2) (.slice Ao62 x489002_1.length co62)) (fun _ hk => hk.2) (.slice Ao65 t489.length co65)) (fun _ hk => hk.2) (.slice Ao70 t492.length co70)) (fun _ hk => hk.2) (.slice Ao71 t495.length co71)) (fun _ hk => trivial)⟩, ⟨by (with_reducible repeat (first | refine blk_drewN ?_ _ | refine blk_drew ?_ | refine blk_alloc ?_ _)); refine blk_far ?_ NB477_488.out _; (with_reducible repeat (first | refine blk_drewN ?_ _ | refine blk_drew ?_ | refine blk_alloc ?_ _)); refine blk_far ?_ NB477_488.out _; (with_reducible repeat (first | refine blk_drewN ?_ _ | refine blk_drew ?_ | refine blk_alloc ?_ _)); refine blk_far ?_ NB477_488.out _; (with_reducible repeat (first | refine blk_drewN ?_ _ | refine blk_drew ?_ | refine blk_alloc ?_ _)); refine blk_far ?_ NB477_487.out _; (with_reducible repeat (first | refine blk_drewN ?_ _ | refine blk_drew ?_ | refine blk_alloc ?_ _)); refine blk_far ?_ NB477_487.out _; (with_reducible repeat (first | refine blk_drewN ?_ _ | refine blk_drew ?_ | refine blk_alloc ?_ _)); refine blk_far ?_ NB477_487.out _; (with_reducible repeat (first | refine blk_drewN ?_ _ | refine blk_drew ?_ | refine blk_alloc ?_ _)); exact BK477.out⟩, ⟨by (with_reducible repeat (first | refine blk_drewN ?_ _ | refine blk_drew ?_ | refine blk_alloc ?_ _)); refine blk_far ?_ NB487_488.out _; (with_reducible repeat (first | refine blk_drewN ?_ _ | refine blk_drew ?_ | refine blk_alloc ?_ _)); refine blk_far ?_ NB487_488.out _; (with_reducible repeat (first | refine blk_drewN ?_ _ | refine blk_drew ?_ | refine blk_alloc ?_ _)); refine blk_far ?_ NB487_488.out _; (with_reducible repeat (first | refine blk_drewN ?_ _ | refine blk_drew ?_ | refine blk_alloc ?_ _)); refine blk_put (cs := #[.slice Ao55 x489000_1.length co55, .slice Ao61 x489001_1.length co61, .slice Ao60 x488002_1.length co60]) ?_ 2 _ rfl; (with_reducible repeat (first | refine blk_drewN ?_ _ | refine blk_drew ?_ | refine blk_alloc ?_ _)); refine blk_put (cs := #[.slice Ao55 x489000_1.length co55, .slice Ao59 x488001_1.length co59, .slice Ao60 x488002_1.length co60]) ?_ 1 _ rfl; (with_reducible repeat (first | refine blk_drewN ?_ _ | refine blk_drew ?_ | refine blk_alloc ?_ _)); refine blk_put (cs := #[.slice Ao58 x488000_1.length co58, .slice Ao59 x488001_1.length co59, .slice Ao60 x488002_1.length co60]) ?_ 0 _ rfl; (with_reducible repeat (first | refine blk_drewN ?_ _ | refine blk_drew ?_ | refine blk_alloc ?_ _)); exact BK487.out⟩, ⟨by (with_reducible repeat (first | refine blk_drewN ?_ _ | refine blk_drew ?_ | refine blk_alloc ?_ _)); refine blk_put (cs := #[.slice Ao65 t489.length co65, .slice Ao70 t492.length co70, .slice Ao62 x489002_1.length co62]) ?_ 2 _ rfl; (with_reducible repeat (first | refine blk_drewN ?_ _ | refine blk_drew ?_ | refine blk_alloc ?_ _)); refine blk_put (cs := #[.slice Ao65 t489.length co65, .slice Ao61 x489001_1.length co61, .slice Ao62 x489002_1.length co62]) ?_ 1 _ rfl; (with_reducible repeat (first | refine blk_drewN ?_ _ | refine blk_drew ?_ | refine blk_alloc ?_ _)); refine blk_put (cs := #[.slice Ao55 x489000_1.length co55, .slice Ao61 x489001_1.length co61, .slice Ao62 x489002_1.length co62]) ?_ 0 _ rfl; (with_reducible repeat (first | refine blk_drewN ?_ _ | refine blk_drew ?_ | refine blk_alloc ?_ _)); refine blk_far ?_ NB488_487.out _; (with_reducible repeat (first | refine blk_drewN ?_ _ | refine blk_drew ?_ | refine blk_alloc ?_ _)); refine blk_far ?_ NB488_487.out _; (with_reducible repeat (first | refine blk_drewN ?_ _ | refine blk_drew ?_ | refine blk_alloc ?_ _)); refine blk_far ?_ NB488_487.out _; (with_reducible repeat (first | refine blk_drewN ?_ _ | refine blk_drew ?_ | refine blk_alloc ?_ _)); exact BK488.out⟩, ⟨hs_⟩⟩
       ·rw [if_neg c72] at H
        have c72b0 : (t498 == 0) = false := beq_eq_false_iff_ne.mpr c72
        have c72b1 : (t498 != 0) = true := bne_iff_ne.mpr c72
        (first | rw [c72b0] | rw [c72b1] | (simp only [i64_w, i32_w]; first | rw [c72b0] | rw [c72b1]) | skip)
        simp only [Option.some.injEq, Prod.mk.injEq] at H
        obtain ⟨rfl, rfl, rfl, rfl⟩ := H
        have hnb81 := NB477_487.out
        have hnc81 := NB487_477.out
        have hnb82 := NB477_488.out
        have hnc82 := NB488_477.out
        have hnb83 := NB477_499.out
        have hnc83 := NB499_477.out
        have hcz84_0 : w64.cell? ⟨gb477, 0, none⟩ = some (.slice none 0 0) := (blk_cell BK477.out 0).trans rfl
        have hcz84_1 : w64.cell? ⟨gb477, 1, none⟩ = some (.slice none 0 0) := (blk_cell BK477.out 1).trans rfl
        have hcz84_2 : w64.cell? ⟨gb477, 2, none⟩ = some (.slice none 0 0) := (blk_cell BK477.out 2).trans rfl
        have hfz84_0 := blk_frozen BK477.out 0
        have hfz84_1 := blk_frozen BK477.out 1
        have hfz84_2 := blk_frozen BK477.out 2
        go_wp2_with (go_step3)
        (try rw [Exit.noGoto_ret])
        refine bodyPost_ret (results_ct rfl _ _ gb477 61 #[.slice none 0 0, .slice none 0 0, .slice none 0 0] (0, 0) _ rfl (by (with_reducible repeat (first | refine blk_drewN ?_ _ | refine blk_drew ?_ | refine blk_alloc ?_ _)); refine blk_put (cs := #[.slice none 0 0, .slice none 0 0, .slice none 0 0]) ?_ 2 _ rfl; (with_reducible repeat (first | refine blk_drewN ?_ _ | refine blk_drew ?_ | refine blk_alloc ?_ _)); refine blk_put (cs := #[.slice none 0 0, .slice none 0 0, .slice none 0 0]) ?_ 1 _ rfl; (with_reducible repeat (first | refine blk_drewN ?_ _ | refine blk_drew ?_ | refine blk_alloc ?_ _)); refine blk_put (cs := #[.slice none 0 0, .slice none 0 0, .slice none 0 0]) ?_ 0 _ rfl; (with_reducible repeat (first | refine blk_drewN ?_ _ | refine blk_drew ?_ | refine blk_alloc ?_ _)); refine blk_far ?_ NB477_499.out _; (with_reducible repeat (first | refine blk_drewN ?_ _ | refine blk_drew ?_ | refine blk_alloc ?_ _)); refine blk_far ?_ NB477_499.out _; (with_reducible repeat (first | refine blk_drewN ?_ _ | refine blk_drew ?_ | refine blk_alloc ?_ _)); refine blk_far ?_ NB477_499.out _; (with_reducible repeat (first | refine blk_drewN ?_ _ | refine blk_drew ?_ | refine blk_alloc ?_ _)); exact BK477.out) Try.underlying61 rfl (by kernel_rfl)) rfl ?_
        exact ⟨_, _, _, fr_, by first | exact Kd.R_nil _ _ _ _ _ | exact Kd.N_nil _ _ _ _ _ | exact Kd.V_nil _ _ _ _ _ | exact Kd.Q_nil _ _ _ _ _ | exact Kd.S_nil _ _ _ _ _, by first | exact Kd.R_nil _ _ _ _ _ | exact Kd.N_nil _ _ _ _ _ | exact Kd.V_nil _ _ _ _ _ | exact Kd.Q_nil _ _ _ _ _ | exact Kd.S_nil _ _ _ _ _, by first | exact Kd.R_nil _ _ _ _ _ | exact Kd.N_nil _ _ _ _ _ | exact Kd.V_nil _ _ _ _ _ | exact Kd.Q_nil _ _ _ _ _ | exact Kd.S_nil _ _ _ _ _, hs_⟩
end Go.Proofs.Yteofgcmgncaojaa.PEuclidDivides
