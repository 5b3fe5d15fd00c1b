/- The Go functions as Lean functions, each with the proof that its call comes to just that; written by a program of this session, by the words of the print. -/
import Derived.Test.YteofgcmgncaojaaPEuclidCommonx0
import Derived.Test.YteofgcmgncaojaaPEuclidCommonx2
import Derived.Test.YteofgcmgncaojaaPEuclidCommonx8
namespace Go.Proofs.Yteofgcmgncaojaa.PEuclidCommon
open Go.RowKit Go.Proofs.YteofgcmgncaojaaW.PrintWords Go.Proofs.YteofgcmgncaojaaW.PrintLast Go.Proofs.YteofgcmgncaojaaW.PrintMore
attribute [local go_sem] max2_int min2_int max_two min_two max_three min_three max_four min_four   -- for this text's walks alone
set_option linter.unusedVariables false
set_option linter.unusedSimpArgs false
/-! ### euclid_partial: function 34 -/
mutual
def euclid_partial.l0 : Nat → Int → Int → List Int → List Int → List Int → List Int → List Int → List Int → Option (List Int × List Int × List Int × Int)
 | 0, _, _, _, _, _, _, _, _ => none
 | k + 1, x0, x3, x382000, x382001, x382002, x383000, x383001, x383002 => if (wrap64 ((x382000.length : Int) - 1)) < x3 then (euclid_partial.j1 k x0 x3 true x382000 x382001 x382002 x383000 x383001 x383002) else (euclid_partial.j1 k x0 x3 ((x382000.length : Int) == 0) x382000 x382001 x382002 x383000 x383001 x383002)
def euclid_partial.j1 : Nat → Int → Int → Bool → List Int → List Int → List Int → List Int → List Int → List Int → Option (List Int × List Int × List Int × Int)
 | 0, _, _, _, _, _, _, _, _, _ => none
 | k + 1, x0, x3, x35, x382000, x382001, x382002, x383000, x383001, x383002 => if x35 = true then (some (x382000, x382001, x382002, 0)) else (if (x383000.length : Int) = 0 then (euclid_partial.l0 k x0 x3 x383000 x383001 x383002 x383000 x383001 x383002) else ((euclid_next.f k x0 x382000 x382001 x382002 x383000 x383001 x383002).bind fun bt383 => (if bt383.2.2.2 = 0 then (euclid_partial.l0 k x0 x3 x383000 x383001 x383002 bt383.1 bt383.2.1 bt383.2.2.1) else (some (([] : List Int), ([] : List Int), ([] : List Int), bt383.2.2.2)))))
end
def euclid_partial.f (k : Nat) (a0 : Int) (l1 : List Int) (l2 : List Int) (a3 : Int) : Option (List Int × List Int × List Int × Int) := (some (([1] : List Int) : List Int)).bind fun y372 => ((poly_Trim.f k l1).bind fun t375 => ((poly_Trim.f k l2).bind fun t378 => (euclid_partial.l0 k a0 a3 t375 y372 ([] : List Int) t378 ([] : List Int) y372)))
theorem euclid_partial.mono_l : ∀ k, (∀ y0 y1 y2 y3 y4 y5 y6 y7, LeO (euclid_partial.l0 k y0 y1 y2 y3 y4 y5 y6 y7) (euclid_partial.l0 (k + 1) y0 y1 y2 y3 y4 y5 y6 y7)) ∧ (∀ y0 y1 y2 y3 y4 y5 y6 y7 y8, LeO (euclid_partial.j1 k y0 y1 y2 y3 y4 y5 y6 y7 y8) (euclid_partial.j1 (k + 1) y0 y1 y2 y3 y4 y5 y6 y7 y8))
 | 0 => ⟨fun _ _ _ _ _ _ _ _ r h => by simp [euclid_partial.l0] at h, fun _ _ _ _ _ _ _ _ _ r h => by simp [euclid_partial.j1] at h⟩
 | k + 1 => by
  obtain ⟨ih0, ih1⟩ := euclid_partial.mono_l k
  refine ⟨?_, ?_⟩
  ·intro y0 y1 y2 y3 y4 y5 y6 y7
   unfold euclid_partial.l0
   repeat' first
   | (with_reducible exact ih0 _ _ _ _ _ _ _ _)
   | (with_reducible exact ih1 _ _ _ _ _ _ _ _ _)
   | (with_reducible exact euclid_next.mono _ _ _ _ _ _ _ _)
   | (with_reducible exact poly_Trim.mono _ _)
   | (with_reducible exact LeO.refl _)
   | (with_reducible exact LeO.none _)
   | (with_reducible refine LeO.ite ?_ ?_)
   | (with_reducible refine LeO.bind ?_ (fun _ => ?_))
   | exact ih0 _ _ _ _ _ _ _ _
   | exact ih1 _ _ _ _ _ _ _ _ _
   | exact euclid_next.mono _ _ _ _ _ _ _ _
   | exact poly_Trim.mono _ _
   | exact LeO.none _
   | refine LeO.ite ?_ ?_
   | refine LeO.bind ?_ (fun _ => ?_)
  ·intro y0 y1 y2 y3 y4 y5 y6 y7 y8
   unfold euclid_partial.j1
   repeat' first
   | (with_reducible exact ih0 _ _ _ _ _ _ _ _)
   | (with_reducible exact ih1 _ _ _ _ _ _ _ _ _)
   | (with_reducible exact euclid_next.mono _ _ _ _ _ _ _ _)
   | (with_reducible exact poly_Trim.mono _ _)
   | (with_reducible exact LeO.refl _)
   | (with_reducible exact LeO.none _)
   | (with_reducible refine LeO.ite ?_ ?_)
   | (with_reducible refine LeO.bind ?_ (fun _ => ?_))
   | exact ih0 _ _ _ _ _ _ _ _
   | exact ih1 _ _ _ _ _ _ _ _ _
   | exact euclid_next.mono _ _ _ _ _ _ _ _
   | exact poly_Trim.mono _ _
   | exact LeO.none _
   | refine LeO.ite ?_ ?_
   | refine LeO.bind ?_ (fun _ => ?_)
theorem euclid_partial.mono : ∀ a0 a1 a2 a3 k, LeO (euclid_partial.f k a0 a1 a2 a3) (euclid_partial.f (k + 1) a0 a1 a2 a3) := by
 intro a0 a1 a2 a3 k
 obtain ⟨ih0, ih1⟩ := euclid_partial.mono_l k
 unfold euclid_partial.f
 repeat' first
   | (with_reducible exact ih0 _ _ _ _ _ _ _ _)
   | (with_reducible exact ih1 _ _ _ _ _ _ _ _ _)
   | (with_reducible exact euclid_next.mono _ _ _ _ _ _ _ _)
   | (with_reducible exact poly_Trim.mono _ _)
   | (with_reducible exact LeO.refl _)
   | (with_reducible exact LeO.none _)
   | (with_reducible refine LeO.ite ?_ ?_)
   | (with_reducible refine LeO.bind ?_ (fun _ => ?_))
   | exact ih0 _ _ _ _ _ _ _ _
   | exact ih1 _ _ _ _ _ _ _ _ _
   | exact euclid_next.mono _ _ _ _ _ _ _ _
   | exact poly_Trim.mono _ _
   | exact LeO.none _
   | refine LeO.ite ?_ ?_
   | refine LeO.bind ?_ (fun _ => ?_)
set_option maxHeartbeats 8000000 in
set_option maxRecDepth 100000 in
theorem euclid_partial.calls (k : Nat) (a0 : Int) (A1 : Option Addr) (c1 : Nat) (l1 : List Int) (A2 : Option Addr) (c2 : Nat) (l2 : List Int) (a3 : Int) (r1 : List Int) (r2 : List Int) (r3 : List Int) (r4 : Int) (w : World) (hr1 : Kd.C (Kd.int .u64) w A1 l1.length l1) (hc1 : l1.length ≤ c1) (hr2 : Kd.C (Kd.int .u64) w A2 l2.length l2) (hc2 : l2.length ≤ c2) (h : euclid_partial.f k a0 l1 l2 a3 = some (r1, r2, r3, r4)) :
  Calls Try.prog 34 #[.int .u8 a0, .slice A1 l1.length c1, .slice A2 l2.length c2, .int .i64 a3] w fun e w' => ∃ v0_ v1_ v2_ : Value, e = .returned (.tuple #[.agg #[v0_, v1_, v2_], .int .i64 r4]) ∧ Kd.R (Kd.int .u64) 40 w' w.heap.size (fun _ => True) v0_ r1 ∧ Kd.R (Kd.int .u64) 40 w' w.heap.size (fun _ => True) v1_ r2 ∧ Kd.R (Kd.int .u64) 40 w' w.heap.size (fun _ => True) v2_ r3 ∧ Below w.heap.size w w' := by
 have hu61 := Try.underlying61
 have HR1 := Aside0.mk hr1
 have HC1 := Aside0.mk hc1
 clear hr1 hc1
 have HR2 := Aside0.mk hr2
 have HC2 := Aside0.mk hc2
 clear hr2 hc2
 have HB := A_ (Below.refl w.heap.size w)
 have H : ((some (([1] : List Int) : List Int)).bind fun y372 => ((poly_Trim.f k l1).bind fun t375 => ((poly_Trim.f k l2).bind fun t378 => (euclid_partial.l0 k a0 a3 t375 y372 ([] : List Int) t378 ([] : List Int) y372)))) = some (r1, r2, r3, r4) := h
 clear h
 obtain ⟨y372, hy372⟩ : ∃ y_ : List Int, y_ = (([1] : List Int)) := ⟨_, rfl⟩
 replace H : ((poly_Trim.f k l1).bind fun t375 => ((poly_Trim.f k l2).bind fun t378 => (euclid_partial.l0 k a0 a3 t375 y372 ([] : List Int) t378 ([] : List Int) y372))) = some (r1, r2, r3, r4) := by first | (rw [hy372]; with_reducible exact H) | (have H2_ := (Option.bind_some _ _).symm.trans H; rw [hy372]; with_reducible exact H2_) | (have H2_ := (Option.bind_some _ _).symm.trans H; with_reducible exact H2_) | with_reducible exact H | (rw [hy372]; exact H) | exact H
 have Ny372 := Aside0.mk hy372
 clear hy372
 replace H := Option.bind_eq_some_iff.mp H
 obtain ⟨t375, A50, H⟩ := H
 replace H : ((poly_Trim.f k l2).bind fun t378 => (euclid_partial.l0 k a0 a3 t375 y372 ([] : List Int) t378 ([] : List Int) y372)) = some (r1, r2, r3, r4) := H
 have A5 := Aside0.mk A50
 clear A50
 replace H := Option.bind_eq_some_iff.mp H
 obtain ⟨t378, A60, H⟩ := H
 replace H : (euclid_partial.l0 k a0 a3 t375 y372 ([] : List Int) t378 ([] : List Int) y372) = some (r1, r2, r3, r4) := H
 have A6 := Aside0.mk A60
 clear A60
 have H' := Aside0.mk H
 clear H
 go_enter Try.func34, Try.ntmps34
 go_wp2_with (first | go_step3 | ((with_reducible refine gate_dst (N := 8) rfl ?_); (try (refine gate_guard (by rfl) ?_; dsimp only)); refine box_event ?hg (N := 8) ?hd (cs := #[.slice none 0 0, .slice none 0 0, .slice none 0 0]) (t := 61) ?hr ?_; (case hd => rfl); (case hg => rfl); (case hr => first | (go_simp; done) | (go_simp; rfl)); intro gb371 hg w7 hbox hb; have n0_ := A_ (below_step hb_ hb); have n1_ := A_ (hbox); have n2_ := A_ ((by rw [hg]; exact (below_size hb_) : w.heap.size ≤ gb371)); have n3_ := A_ ((by rw [hg]; exact (below_size hb_) : w.heap.size ≤ gb371)); clear HB; have HB := n0_; have BK371 := n1_; have GW371 := n2_; have GE371 := n3_; clear n0_ n1_ n2_ n3_; clear hb hbox hg) | ((with_reducible refine gate_dst (N := 15) rfl ?_); (try (refine gate_guard (by rfl) ?_; dsimp only)); refine Kd.R_lit (Kd.int .u64) _ 40 ?hg (N := 15) ?hd (xs := ([1] : List Int)) (inner := [.int .u64 1]) (ok := fun _ => True) (okp := fun _ => True) ?hr ?hp (fun _ hk => hk) trivial (Below.refl _ _) (Nat.le_refl _) (by simp) ?_; (case hd => rfl); (case hg => rfl); (case hr => first | (go_simp; done) | (go_simp; rfl)); (case hp => exact (Reps.one (show Kd.M (Kd.int .u64) _ _ _ 1 [.int .u64 1] from rfl) (Reps.none _ _))); intro v373 w8 ho9 hb hg_ hnew_; clear hg_ hnew_; (first | rw [← Ny372.out] at ho9 | (simp only [Int.reduceToNat] at ho9; rw [← Ny372.out] at ho9)); have n0_ := A_ (Kd.R_lower (Kd.R_mono (ok' := fun _ => True) ho9 (fun _ _ => trivial)) (below_size hs_)); have n1_ := A_ (blk_below (g := gb371) (o := .cells #[.slice none 0 0, .slice none 0 0, .slice none 0 0] 61 (0, 0)) (nb_ BK371) hb); have n2_ := A_ (below_step hs_ hb); clear BK371 HB; have HO374 := n0_; have BK371 := n1_; have HB := n2_; clear n0_ n1_ n2_; clear hb ho9) | ((with_reducible refine gate_callee (f := 28) rfl ?_); refine goesM_ (some 17) Try.func28 #[.slice A1 l1.length c1] ?_; (with_reducible refine (poly_Trim.calls k _ _ l1 t375 _ ?side1 ?side2 A5.out).mono ?_); (case side1 => repeat (first | exact (Kd.C_below HR1.out HB.out) | (with_reducible refine Kd.C_alloc ?_ _) | (with_reducible refine Kd.C_drewN ?_ _) | (with_reducible refine Kd.C_drew ?_))); (case side2 => exact HC1.out); rintro e w10 ⟨v376, rfl, ho0, hb⟩; refine ⟨_, rfl, ?_⟩; have n0_ := A_ (Kd.R_below (nR_ HO374) hb); have n1_ := A_ (Kd.R_lower (Kd.R_mono (ok' := fun _ => True) ho0 (fun _ _ => trivial)) (below_size hs_)); have n2_ := A_ (blk_below (g := gb371) (o := .cells #[.slice none 0 0, .slice none 0 0, .slice none 0 0] 61 (0, 0)) (nb_ BK371) hb); have n3_ := A_ (below_step hs_ hb); clear HO374 BK371 HB; have HO374 := n0_; have HO377 := n1_; have BK371 := n2_; have HB := n3_; clear n0_ n1_ n2_ n3_; (try clear hb); (try clear ho0); obtain ⟨Ao11, co11, eo11⟩ := Kd.R_slice HO374.out; subst eo11; obtain ⟨Ao12, co12, eo12⟩ := Kd.R_slice HO377.out; subst eo12) | ((with_reducible refine gate_callee (f := 28) rfl ?_); refine goesM_ (some 21) Try.func28 #[.slice A2 l2.length c2] ?_; (with_reducible refine (poly_Trim.calls k _ _ l2 t378 _ ?side1 ?side2 A6.out).mono ?_); (case side1 => repeat (first | exact (Kd.C_below HR2.out HB.out) | (with_reducible refine Kd.C_alloc ?_ _) | (with_reducible refine Kd.C_drewN ?_ _) | (with_reducible refine Kd.C_drew ?_))); (case side2 => exact HC2.out); rintro e w13 ⟨v379, rfl, ho0, hb⟩; refine ⟨_, rfl, ?_⟩; have n0_ := A_ (Kd.R_below (nR_ HO374) hb); have n1_ := A_ (Kd.R_below (nR_ HO377) hb); have n2_ := A_ (Kd.R_lower (Kd.R_mono (ok' := fun _ => True) ho0 (fun _ _ => trivial)) (below_size hs_)); have n3_ := A_ (blk_below (g := gb371) (o := .cells #[.slice none 0 0, .slice none 0 0, .slice none 0 0] 61 (0, 0)) (nb_ BK371) hb); have n4_ := A_ (below_step hs_ hb); clear HO374 HO377 BK371 HB; have HO374 := n0_; have HO377 := n1_; have HO380 := n2_; have BK371 := n3_; have HB := n4_; clear n0_ n1_ n2_ n3_ n4_; (try clear hb); (try clear ho0); obtain ⟨Ao14, co14, eo14⟩ := Kd.R_slice HO380.out; subst eo14) | ((with_reducible refine gate_dst (N := 11) rfl ?_); (try (refine gate_guard (by rfl) ?_; dsimp only)); refine box_event ?hg (N := 11) ?hd (cs := #[.slice none 0 0, .slice none 0 0, .slice none 0 0]) (t := 61) ?hr ?_; (case hd => rfl); (case hg => rfl); (case hr => first | (go_simp; done) | (go_simp; rfl)); intro gb381 hg w15 hbox hb; have n0_ := A_ (Kd.R_below (nR_ HO374) hb); have n1_ := A_ (Kd.R_below (nR_ HO377) hb); have n2_ := A_ (Kd.R_below (nR_ HO380) hb); have n3_ := A_ (blk_below (g := gb371) (o := .cells #[.slice none 0 0, .slice none 0 0, .slice none 0 0] 61 (0, 0)) (nb_ BK371) hb); have n4_ := A_ (below_step hs_ hb); have n5_ := A_ (hbox); have n6_ := A_ ((by rw [hg]; exact (below_size hs_) : w.heap.size ≤ gb381)); have n7_ := A_ ((by rw [hg]; exact (below_size hs_) : w.heap.size ≤ gb381)); have n8_ := A_ ((by rw [hg]; exact Nat.ne_of_lt (blk_lt (g := gb371) (o := .cells #[.slice none 0 0, .slice none 0 0, .slice none 0 0] 61 (0, 0)) (nb_ BK371)) : gb371 ≠ gb381)); have n9_ := A_ ((by rw [hg]; exact Nat.ne_of_gt (blk_lt (g := gb371) (o := .cells #[.slice none 0 0, .slice none 0 0, .slice none 0 0] 61 (0, 0)) (nb_ BK371)) : gb381 ≠ gb371)); clear HO374 HO377 HO380 BK371 HB; have HO374 := n0_; have HO377 := n1_; have HO380 := n2_; have BK371 := n3_; have HB := n4_; have BK381 := n5_; have GW381 := n6_; have GE381 := n7_; have NB371_381 := n8_; have NB381_371 := n9_; clear n0_ n1_ n2_ n3_ n4_ n5_ n6_ n7_ n8_ n9_; clear hb hbox hg) | ((with_reducible refine gate_dst (N := 12) rfl ?_); (try (refine gate_guard (by rfl) ?_; dsimp only)); refine box_event ?hg (N := 12) ?hd (cs := #[.slice none 0 0, .slice none 0 0, .slice none 0 0]) (t := 61) ?hr ?_; (case hd => rfl); (case hg => rfl); (case hr => first | (go_simp; done) | (go_simp; rfl)); intro gb382 hg w16 hbox hb; have n0_ := A_ (Kd.R_below (nR_ HO374) hb); have n1_ := A_ (Kd.R_below (nR_ HO377) hb); have n2_ := A_ (Kd.R_below (nR_ HO380) hb); have n3_ := A_ (blk_below (g := gb371) (o := .cells #[.slice none 0 0, .slice none 0 0, .slice none 0 0] 61 (0, 0)) (nb_ BK371) hb); have n4_ := A_ (blk_below (g := gb381) (o := .cells #[.slice none 0 0, .slice none 0 0, .slice none 0 0] 61 (0, 0)) (nb_ BK381) hb); have n5_ := A_ (below_step hs_ hb); have n6_ := A_ (hbox); have n7_ := A_ ((by rw [hg]; exact (below_size hs_) : w.heap.size ≤ gb382)); have n8_ := A_ ((by rw [hg]; exact (below_size hs_) : w.heap.size ≤ gb382)); have n9_ := A_ ((by rw [hg]; exact Nat.ne_of_lt (blk_lt (g := gb371) (o := .cells #[.slice none 0 0, .slice none 0 0, .slice none 0 0] 61 (0, 0)) (nb_ BK371)) : gb371 ≠ gb382)); have n10_ := A_ ((by rw [hg]; exact Nat.ne_of_gt (blk_lt (g := gb371) (o := .cells #[.slice none 0 0, .slice none 0 0, .slice none 0 0] 61 (0, 0)) (nb_ BK371)) : gb382 ≠ gb371)); have n11_ := A_ ((by rw [hg]; exact Nat.ne_of_lt (blk_lt (g := gb381) (o := .cells #[.slice none 0 0, .slice none 0 0, .slice none 0 0] 61 (0, 0)) (nb_ BK381)) : gb381 ≠ gb382)); have n12_ := A_ ((by rw [hg]; exact Nat.ne_of_gt (blk_lt (g := gb381) (o := .cells #[.slice none 0 0, .slice none 0 0, .slice none 0 0] 61 (0, 0)) (nb_ BK381)) : gb382 ≠ gb381)); clear HO374 HO377 HO380 BK371 BK381 HB; have HO374 := n0_; have HO377 := n1_; have HO380 := n2_; have BK371 := n3_; have BK381 := n4_; have HB := n5_; have BK382 := n6_; have GW382 := n7_; have GE382 := n8_; have NB371_382 := n9_; have NB382_371 := n10_; have NB381_382 := n11_; have NB382_381 := n12_; clear n0_ n1_ n2_ n3_ n4_ n5_ n6_ n7_ n8_ n9_ n10_ n11_ n12_; clear hb hbox hg; have hnb17 := NB381_371.out; have hnc17 := NB371_381.out; have hnb18 := NB381_382.out; have hnc18 := NB382_381.out; have hcz19_0 : w16.cell? ⟨gb381, 0, none⟩ = some (.slice none 0 0) := (blk_cell BK381.out 0).trans rfl; have hcz19_1 : w16.cell? ⟨gb381, 1, none⟩ = some (.slice none 0 0) := (blk_cell BK381.out 1).trans rfl; have hcz19_2 : w16.cell? ⟨gb381, 2, none⟩ = some (.slice none 0 0) := (blk_cell BK381.out 2).trans rfl; have hfz19_0 := blk_frozen BK381.out 0; have hfz19_1 := blk_frozen BK381.out 1; have hfz19_2 := blk_frozen BK381.out 2; have hnb20 := NB382_371.out; have hnc20 := NB371_382.out; have hcz21_0 : w16.cell? ⟨gb382, 0, none⟩ = some (.slice none 0 0) := (blk_cell BK382.out 0).trans rfl; have hcz21_1 : w16.cell? ⟨gb382, 1, none⟩ = some (.slice none 0 0) := (blk_cell BK382.out 1).trans rfl; have hcz21_2 : w16.cell? ⟨gb382, 2, none⟩ = some (.slice none 0 0) := (blk_cell BK382.out 2).trans rfl; have hfz21_0 := blk_frozen BK382.out 0; have hfz21_1 := blk_frozen BK382.out 1; have hfz21_2 := blk_frozen BK382.out 2))
 go_loopg [] k (fun kq w' => ∃ (x382000_1 : List Int) (x382001_1 : List Int) (x382002_1 : List Int) (x383000_1 : List Int) (x383001_1 : List Int) (x383002_1 : List Int) (u382000 : Value) (u382001 : Value) (u382002 : Value) (u383000 : Value) (u383001 : Value) (u383002 : Value), Aside0 (euclid_partial.l0 kq a0 a3 x382000_1 x382001_1 x382002_1 x383000_1 x383001_1 x383002_1 = some (r1, r2, r3, r4)) ∧ Aside0 (kq ≤ k) ∧ Aside0 (Kd.R (Kd.int .u64) 40 w' w.heap.size (fun _ => True) u382000 x382000_1) ∧ Aside0 (Kd.R (Kd.int .u64) 40 w' w.heap.size (fun _ => True) u382001 x382001_1) ∧ Aside0 (Kd.R (Kd.int .u64) 40 w' w.heap.size (fun _ => True) u382002 x382002_1) ∧ Aside0 (Kd.R (Kd.int .u64) 40 w' w.heap.size (fun _ => True) u383000 x383000_1) ∧ Aside0 (Kd.R (Kd.int .u64) 40 w' w.heap.size (fun _ => True) u383001 x383001_1) ∧ Aside0 (Kd.R (Kd.int .u64) 40 w' w.heap.size (fun _ => True) u383002 x383002_1) ∧ Aside0 (w'.heap[gb371]? = some (.cells #[(.slice none 0 0), (.slice none 0 0), (.slice none 0 0)] 61 (0, 0))) ∧ Aside0 (w'.heap[gb381]? = some (.cells #[u382000, u382001, u382002] 61 (0, 0))) ∧ Aside0 (w'.heap[gb382]? = some (.cells #[u383000, u383001, u383002] 61 (0, 0))) ∧ Aside0 (Below w.heap.size w w'))
 case atStart => exact ⟨(t375), (y372), (([] : List Int)), (t378), (([] : List Int)), (y372), (.slice Ao12 t375.length co12), (.slice Ao11 y372.length co11), (.slice none 0 0), (.slice Ao14 t378.length co14), (.slice none 0 0), (.slice Ao11 y372.length co11), H', ⟨Nat.le_refl _⟩, ⟨by (with_reducible repeat (first | apply Kd.R_alloc | apply Kd.R_drewN | apply Kd.R_drew)); exact Kd.R_mono (Kd.R_far (p := ⟨gb382, 2, none⟩) (Kd.R_far (p := ⟨gb382, 1, none⟩) (Kd.R_far (p := ⟨gb382, 0, none⟩) (Kd.R_far (p := ⟨gb381, 2, none⟩) (Kd.R_far (p := ⟨gb381, 1, none⟩) (Kd.R_far (p := ⟨gb381, 0, none⟩) (Kd.R_types (Kd.R_types HO377.out BK381.out (by decide)) BK382.out (by decide)) (fun _ hk => hk.1.2) (.slice Ao12 t375.length co12)) (fun _ hk => hk.1.2) (.slice Ao11 y372.length co11)) (fun _ hk => hk.1.2) (.slice none 0 0)) (fun _ hk => hk.2) (.slice Ao14 t378.length co14)) (fun _ hk => hk.2) (.slice none 0 0)) (fun _ hk => hk.2) (.slice Ao11 y372.length co11)) (fun _ hk => trivial)⟩, ⟨by (with_reducible repeat (first | apply Kd.R_alloc | apply Kd.R_drewN | apply Kd.R_drew)); exact Kd.R_mono (Kd.R_far (p := ⟨gb382, 2, none⟩) (Kd.R_far (p := ⟨gb382, 1, none⟩) (Kd.R_far (p := ⟨gb382, 0, none⟩) (Kd.R_far (p := ⟨gb381, 2, none⟩) (Kd.R_far (p := ⟨gb381, 1, none⟩) (Kd.R_far (p := ⟨gb381, 0, none⟩) (Kd.R_types (Kd.R_types HO374.out BK381.out (by decide)) BK382.out (by decide)) (fun _ hk => hk.1.2) (.slice Ao12 t375.length co12)) (fun _ hk => hk.1.2) (.slice Ao11 y372.length co11)) (fun _ hk => hk.1.2) (.slice none 0 0)) (fun _ hk => hk.2) (.slice Ao14 t378.length co14)) (fun _ hk => hk.2) (.slice none 0 0)) (fun _ hk => hk.2) (.slice Ao11 y372.length co11)) (fun _ hk => trivial)⟩, ⟨by first | exact Kd.R_nil _ _ _ _ _ | exact Kd.N_nil _ _ _ _ _ | exact Kd.V_nil _ _ _ _ _ | exact Kd.Q_nil _ _ _ _ _ | exact Kd.S_nil _ _ _ _ _⟩, ⟨by (with_reducible repeat (first | apply Kd.R_alloc | apply Kd.R_drewN | apply Kd.R_drew)); exact Kd.R_mono (Kd.R_far (p := ⟨gb382, 2, none⟩) (Kd.R_far (p := ⟨gb382, 1, none⟩) (Kd.R_far (p := ⟨gb382, 0, none⟩) (Kd.R_far (p := ⟨gb381, 2, none⟩) (Kd.R_far (p := ⟨gb381, 1, none⟩) (Kd.R_far (p := ⟨gb381, 0, none⟩) (Kd.R_types (Kd.R_types HO380.out BK381.out (by decide)) BK382.out (by decide)) (fun _ hk => hk.1.2) (.slice Ao12 t375.length co12)) (fun _ hk => hk.1.2) (.slice Ao11 y372.length co11)) (fun _ hk => hk.1.2) (.slice none 0 0)) (fun _ hk => hk.2) (.slice Ao14 t378.length co14)) (fun _ hk => hk.2) (.slice none 0 0)) (fun _ hk => hk.2) (.slice Ao11 y372.length co11)) (fun _ hk => trivial)⟩, ⟨by first | exact Kd.R_nil _ _ _ _ _ | exact Kd.N_nil _ _ _ _ _ | exact Kd.V_nil _ _ _ _ _ | exact Kd.Q_nil _ _ _ _ _ | exact Kd.S_nil _ _ _ _ _⟩, ⟨by (with_reducible repeat (first | apply Kd.R_alloc | apply Kd.R_drewN | apply Kd.R_drew)); exact Kd.R_mono (Kd.R_far (p := ⟨gb382, 2, none⟩) (Kd.R_far (p := ⟨gb382, 1, none⟩) (Kd.R_far (p := ⟨gb382, 0, none⟩) (Kd.R_far (p := ⟨gb381, 2, none⟩) (Kd.R_far (p := ⟨gb381, 1, none⟩) (Kd.R_far (p := ⟨gb381, 0, none⟩) (Kd.R_types (Kd.R_types HO374.out BK381.out (by decide)) BK382.out (by decide)) (fun _ hk => hk.1.2) (.slice Ao12 t375.length co12)) (fun _ hk => hk.1.2) (.slice Ao11 y372.length co11)) (fun _ hk => hk.1.2) (.slice none 0 0)) (fun _ hk => hk.2) (.slice Ao14 t378.length co14)) (fun _ hk => hk.2) (.slice none 0 0)) (fun _ hk => hk.2) (.slice Ao11 y372.length co11)) (fun _ hk => trivial)⟩, ⟨by (with_reducible repeat (first | refine blk_drewN ?_ _ | refine blk_drew ?_ | refine blk_alloc ?_ _)); refine blk_far ?_ NB371_382.out _; (with_reducible repeat (first | refine blk_drewN ?_ _ | refine blk_drew ?_ | refine blk_alloc ?_ _)); refine blk_far ?_ NB371_382.out _; (with_reducible repeat (first | refine blk_drewN ?_ _ | refine blk_drew ?_ | refine blk_alloc ?_ _)); refine blk_far ?_ NB371_382.out _; (with_reducible repeat (first | refine blk_drewN ?_ _ | refine blk_drew ?_ | refine blk_alloc ?_ _)); refine blk_far ?_ NB371_381.out _; (with_reducible repeat (first | refine blk_drewN ?_ _ | refine blk_drew ?_ | refine blk_alloc ?_ _)); refine blk_far ?_ NB371_381.out _; (with_reducible repeat (first | refine blk_drewN ?_ _ | refine blk_drew ?_ | refine blk_alloc ?_ _)); refine blk_far ?_ NB371_381.out _; (with_reducible repeat (first | refine blk_drewN ?_ _ | refine blk_drew ?_ | refine blk_alloc ?_ _)); exact BK371.out⟩, ⟨by (with_reducible repeat (first | refine blk_drewN ?_ _ | refine blk_drew ?_ | refine blk_alloc ?_ _)); refine blk_far ?_ NB381_382.out _; (with_reducible repeat (first | refine blk_drewN ?_ _ | refine blk_drew ?_ | refine blk_alloc ?_ _)); refine blk_far ?_ NB381_382.out _; (with_reducible repeat (first | refine blk_drewN ?_ _ | refine blk_drew ?_ | refine blk_alloc ?_ _)); refine blk_far ?_ NB381_382.out _; (with_reducible repeat (first | refine blk_drewN ?_ _ | refine blk_drew ?_ | refine blk_alloc ?_ _)); refine blk_put (cs := #[.slice Ao12 t375.length co12, .slice Ao11 y372.length co11, .slice none 0 0]) ?_ 2 _ rfl; (with_reducible repeat (first | refine blk_drewN ?_ _ | refine blk_drew ?_ | refine blk_alloc ?_ _)); refine blk_put (cs := #[.slice Ao12 t375.length co12, .slice none 0 0, .slice none 0 0]) ?_ 1 _ rfl; (with_reducible repeat (first | refine blk_drewN ?_ _ | refine blk_drew ?_ | refine blk_alloc ?_ _)); refine blk_put (cs := #[.slice none 0 0, .slice none 0 0, .slice none 0 0]) ?_ 0 _ rfl; (with_reducible repeat (first | refine blk_drewN ?_ _ | refine blk_drew ?_ | refine blk_alloc ?_ _)); exact BK381.out⟩, ⟨by (with_reducible repeat (first | refine blk_drewN ?_ _ | refine blk_drew ?_ | refine blk_alloc ?_ _)); refine blk_put (cs := #[.slice Ao14 t378.length co14, .slice none 0 0, .slice none 0 0]) ?_ 2 _ rfl; (with_reducible repeat (first | refine blk_drewN ?_ _ | refine blk_drew ?_ | refine blk_alloc ?_ _)); refine blk_put (cs := #[.slice Ao14 t378.length co14, .slice none 0 0, .slice none 0 0]) ?_ 1 _ rfl; (with_reducible repeat (first | refine blk_drewN ?_ _ | refine blk_drew ?_ | refine blk_alloc ?_ _)); refine blk_put (cs := #[.slice none 0 0, .slice none 0 0, .slice none 0 0]) ?_ 0 _ rfl; (with_reducible repeat (first | refine blk_drewN ?_ _ | refine blk_drew ?_ | refine blk_alloc ?_ _)); refine blk_far ?_ NB382_381.out _; (with_reducible repeat (first | refine blk_drewN ?_ _ | refine blk_drew ?_ | refine blk_alloc ?_ _)); refine blk_far ?_ NB382_381.out _; (with_reducible repeat (first | refine blk_drewN ?_ _ | refine blk_drew ?_ | refine blk_alloc ?_ _)); refine blk_far ?_ NB382_381.out _; (with_reducible repeat (first | refine blk_drewN ?_ _ | refine blk_drew ?_ | refine blk_alloc ?_ _)); exact BK382.out⟩, ⟨hs_⟩⟩
 case round =>
  clear H'
  try clear c1
  try clear c2
  try clear p2
  try clear c3
  try clear c17
  try clear c18
  try clear c20
  try clear hcz19_0
  try clear hcz19_1
  try clear hcz19_2
  try clear hcz21_0
  try clear hcz21_1
  try clear hcz21_2
  try clear hfz19_0
  try clear hfz19_1
  try clear hfz19_2
  try clear hfz21_0
  try clear hfz21_1
  try clear hfz21_2
  obtain ⟨x382000_1, x382001_1, x382002_1, x383000_1, x383001_1, x383002_1, u382000, u382001, u382002, u383000, u383001, u383002, HA, HK1, HO_382000, HO_382001, HO_382002, HO_383000, HO_383001, HO_383002, BK371, BK381, BK382, HB⟩ := hrel
  cases gk with
  | zero => exact absurd HA.out (by simp [euclid_partial.l0])
  | succ k1 =>
   have H := HA.out
   clear HA
   simp only [euclid_partial.l0] at H
   have HC22 := Aside0.mk H
   clear H
   go_upto_region 3 with (fail)
   go_cut [35] (fun v35 wc => ∃ (kq : Nat) (x35_21 : Bool), v35 = .bool x35_21 ∧ Aside0 (euclid_partial.j1 kq a0 a3 x35_21 x382000_1 x382001_1 x382002_1 x383000_1 x383001_1 x383002_1 = some (r1, r2, r3, r4)) ∧ Aside0 (kq ≤ k1) ∧ Aside0 (Kd.R (Kd.int .u64) 40 wc w.heap.size (fun _ => True) u382000 x382000_1) ∧ Aside0 (Kd.R (Kd.int .u64) 40 wc w.heap.size (fun _ => True) u382001 x382001_1) ∧ Aside0 (Kd.R (Kd.int .u64) 40 wc w.heap.size (fun _ => True) u382002 x382002_1) ∧ Aside0 (Kd.R (Kd.int .u64) 40 wc w.heap.size (fun _ => True) u383000 x383000_1) ∧ Aside0 (Kd.R (Kd.int .u64) 40 wc w.heap.size (fun _ => True) u383001 x383001_1) ∧ Aside0 (Kd.R (Kd.int .u64) 40 wc w.heap.size (fun _ => True) u383002 x383002_1) ∧ Aside0 (wc.heap[gb371]? = some (.cells #[(.slice none 0 0), (.slice none 0 0), (.slice none 0 0)] 61 (0, 0))) ∧ Aside0 (wc.heap[gb381]? = some (.cells #[u382000, u382001, u382002] 61 (0, 0))) ∧ Aside0 (wc.heap[gb382]? = some (.cells #[u383000, u383001, u383002] 61 (0, 0))) ∧ Aside0 (Below w.heap.size w wc))
   case first =>
    have H := HC22.out
    clear HC22
    by_cases c23 : (wrap64 ((x382000_1.length : Int) - 1)) < a3
    ·rw [if_pos c23] at H
     have c23b0 : decide ((wrap64 ((x382000_1.length : Int) - 1)) < a3) = true := decide_eq_true c23
     clear c23
     (first | rw [c23b0] | (simp only [i64_w, i32_w]; first | rw [c23b0]) | skip)
     have H' := Aside0.mk H
     clear H
     have hnb24 := NB381_371.out
     have hnc24 := NB371_381.out
     have hnb25 := NB381_382.out
     have hnc25 := NB382_381.out
     have hcz26_0 : wr.cell? ⟨gb381, 0, none⟩ = some (u382000) := (blk_cell BK381.out 0).trans rfl
     have hcz26_1 : wr.cell? ⟨gb381, 1, none⟩ = some (u382001) := (blk_cell BK381.out 1).trans rfl
     have hcz26_2 : wr.cell? ⟨gb381, 2, none⟩ = some (u382002) := (blk_cell BK381.out 2).trans rfl
     have hfz26_0 := blk_frozen BK381.out 0
     have hfz26_1 := blk_frozen BK381.out 1
     have hfz26_2 := blk_frozen BK381.out 2
     obtain ⟨Ao27, co27, eo27⟩ := Kd.R_slice HO_382000.out
     subst eo27
     go_wp2_with (go_step3)
     go_meet
     case rel => exact ⟨_, (true), (fs_), H', ⟨by have := HK1.out; first | omega | exact Nat.le_refl _⟩, ⟨mR_ HO_382000.out⟩, ⟨mR_ HO_382001.out⟩, ⟨mR_ HO_382002.out⟩, ⟨mR_ HO_383000.out⟩, ⟨mR_ HO_383001.out⟩, ⟨mR_ HO_383002.out⟩, ⟨mb_ BK371.out⟩, ⟨mb_ BK381.out⟩, ⟨mb_ BK382.out⟩, ⟨hs_⟩⟩
    ·rw [if_neg c23] at H
     have c23b0 : decide ((wrap64 ((x382000_1.length : Int) - 1)) < a3) = false := decide_eq_false c23
     clear c23
     (first | rw [c23b0] | (simp only [i64_w, i32_w]; first | rw [c23b0]) | skip)
     have H' := Aside0.mk H
     clear H
     have hnb28 := NB381_371.out
     have hnc28 := NB371_381.out
     have hnb29 := NB381_382.out
     have hnc29 := NB382_381.out
     have hcz30_0 : wr.cell? ⟨gb381, 0, none⟩ = some (u382000) := (blk_cell BK381.out 0).trans rfl
     have hcz30_1 : wr.cell? ⟨gb381, 1, none⟩ = some (u382001) := (blk_cell BK381.out 1).trans rfl
     have hcz30_2 : wr.cell? ⟨gb381, 2, none⟩ = some (u382002) := (blk_cell BK381.out 2).trans rfl
     have hfz30_0 := blk_frozen BK381.out 0
     have hfz30_1 := blk_frozen BK381.out 1
     have hfz30_2 := blk_frozen BK381.out 2
     obtain ⟨Ao31, co31, eo31⟩ := Kd.R_slice HO_382000.out
     subst eo31
     go_wp2_with (go_step3)
     go_meet
     case rel => exact ⟨_, (((x382000_1.length : Int) == 0)), (fs_), H', ⟨by have := HK1.out; first | omega | exact Nat.le_refl _⟩, ⟨mR_ HO_382000.out⟩, ⟨mR_ HO_382001.out⟩, ⟨mR_ HO_382002.out⟩, ⟨mR_ HO_383000.out⟩, ⟨mR_ HO_383001.out⟩, ⟨mR_ HO_383002.out⟩, ⟨mb_ BK371.out⟩, ⟨mb_ BK381.out⟩, ⟨mb_ BK382.out⟩, ⟨hs_⟩⟩
   case rest =>
    clear HC22
    try clear c1
    try clear c2
    try clear p2
    try clear c3
    try clear p6
    try clear c17
    try clear c18
    try clear c20
    try clear c23
    try clear c23b0
    try clear c24
    try clear c25
    try clear c28
    try clear c29
    try clear hcz19_0
    try clear hcz19_1
    try clear hcz19_2
    try clear hcz21_0
    try clear hcz21_1
    try clear hcz21_2
    try clear hcz26_0
    try clear hcz26_1
    try clear hcz26_2
    try clear hcz30_0
    try clear hcz30_1
    try clear hcz30_2
    try clear hfz19_0
    try clear hfz19_1
    try clear hfz19_2
    try clear hfz21_0
    try clear hfz21_1
    try clear hfz21_2
    try clear hfz26_0
    try clear hfz26_1
    try clear hfz26_2
    try clear hfz30_0
    try clear hfz30_1
    try clear hfz30_2
    try clear p2
    obtain ⟨kq, x35_21, rfl, HA, HJ21, HO_382000, HO_382001, HO_382002, HO_383000, HO_383001, HO_383002, BK371, BK381, BK382, HB⟩ := hcut
    cases kq with
    | zero => exact absurd HA.out (by simp [euclid_partial.j1])
    | succ kj21 =>
     have H := HA.out
     clear HA
     simp only [euclid_partial.j1] at H
     by_cases c32 : x35_21 = true
     ·subst c32
      have H1 : (some (x382000_1, x382001_1, x382002_1, 0)) = some (r1, r2, r3, r4) := by rw [if_pos rfl] at H; exact H
      clear H
      have H := H1
      clear H1
      simp only [Option.some.injEq, Prod.mk.injEq] at H
      obtain ⟨rfl, rfl, rfl, rfl⟩ := H
      have hnb33 := NB381_371.out
      have hnc33 := NB371_381.out
      have hnb34 := NB381_382.out
      have hnc34 := NB382_381.out
      have hcz35_0 : wc.cell? ⟨gb381, 0, none⟩ = some (u382000) := (blk_cell BK381.out 0).trans rfl
      have hcz35_1 : wc.cell? ⟨gb381, 1, none⟩ = some (u382001) := (blk_cell BK381.out 1).trans rfl
      have hcz35_2 : wc.cell? ⟨gb381, 2, none⟩ = some (u382002) := (blk_cell BK381.out 2).trans rfl
      have hfz35_0 := blk_frozen BK381.out 0
      have hfz35_1 := blk_frozen BK381.out 1
      have hfz35_2 := blk_frozen BK381.out 2
      obtain ⟨Ao36, co36, eo36⟩ := Kd.R_slice HO_382000.out
      subst eo36
      have hnb37 := NB371_382.out
      have hnc37 := NB382_371.out
      have hcz38_0 : wc.cell? ⟨gb371, 0, none⟩ = some (.slice none 0 0) := (blk_cell BK371.out 0).trans rfl
      have hcz38_1 : wc.cell? ⟨gb371, 1, none⟩ = some (.slice none 0 0) := (blk_cell BK371.out 1).trans rfl
      have hcz38_2 : wc.cell? ⟨gb371, 2, none⟩ = some (.slice none 0 0) := (blk_cell BK371.out 2).trans rfl
      have hfz38_0 := blk_frozen BK371.out 0
      have hfz38_1 := blk_frozen BK371.out 1
      have hfz38_2 := blk_frozen BK371.out 2
      obtain ⟨Ao39, co39, eo39⟩ := Kd.R_slice HO_382001.out
      subst eo39
      obtain ⟨Ao40, co40, eo40⟩ := Kd.R_slice HO_382002.out
      subst eo40
      go_wp2_with (go_step3)
      (try rw [Exit.noGoto_ret])
      refine bodyPost_ret (results_ct rfl _ _ gb371 61 #[.slice Ao36 x382000_1.length co36, .slice Ao39 x382001_1.length co39, .slice Ao40 x382002_1.length co40] (0, 0) _ rfl (by (with_reducible repeat (first | refine blk_drewN ?_ _ | refine blk_drew ?_ | refine blk_alloc ?_ _)); refine blk_put (cs := #[.slice Ao36 x382000_1.length co36, .slice Ao39 x382001_1.length co39, .slice none 0 0]) ?_ 2 _ rfl; (with_reducible repeat (first | refine blk_drewN ?_ _ | refine blk_drew ?_ | refine blk_alloc ?_ _)); refine blk_put (cs := #[.slice Ao36 x382000_1.length co36, .slice none 0 0, .slice none 0 0]) ?_ 1 _ rfl; (with_reducible repeat (first | refine blk_drewN ?_ _ | refine blk_drew ?_ | refine blk_alloc ?_ _)); refine blk_put (cs := #[.slice none 0 0, .slice none 0 0, .slice none 0 0]) ?_ 0 _ rfl; (with_reducible repeat (first | refine blk_drewN ?_ _ | refine blk_drew ?_ | refine blk_alloc ?_ _)); exact BK371.out) Try.underlying61 rfl (by kernel_rfl)) rfl ?_
      exact ⟨_, _, _, fr_, by (with_reducible repeat (first | apply Kd.R_alloc | apply Kd.R_drewN | apply Kd.R_drew)); exact Kd.R_mono (Kd.R_far (p := ⟨gb371, 2, none⟩) (Kd.R_far (p := ⟨gb371, 1, none⟩) (Kd.R_far (p := ⟨gb371, 0, none⟩) (Kd.R_types HO_382000.out BK371.out (by decide)) (fun _ hk => hk.2) (.slice Ao36 x382000_1.length co36)) (fun _ hk => hk.2) (.slice Ao39 x382001_1.length co39)) (fun _ hk => hk.2) (.slice Ao40 x382002_1.length co40)) (fun _ hk => trivial), by (with_reducible repeat (first | apply Kd.R_alloc | apply Kd.R_drewN | apply Kd.R_drew)); exact Kd.R_mono (Kd.R_far (p := ⟨gb371, 2, none⟩) (Kd.R_far (p := ⟨gb371, 1, none⟩) (Kd.R_far (p := ⟨gb371, 0, none⟩) (Kd.R_types HO_382001.out BK371.out (by decide)) (fun _ hk => hk.2) (.slice Ao36 x382000_1.length co36)) (fun _ hk => hk.2) (.slice Ao39 x382001_1.length co39)) (fun _ hk => hk.2) (.slice Ao40 x382002_1.length co40)) (fun _ hk => trivial), by (with_reducible repeat (first | apply Kd.R_alloc | apply Kd.R_drewN | apply Kd.R_drew)); exact Kd.R_mono (Kd.R_far (p := ⟨gb371, 2, none⟩) (Kd.R_far (p := ⟨gb371, 1, none⟩) (Kd.R_far (p := ⟨gb371, 0, none⟩) (Kd.R_types HO_382002.out BK371.out (by decide)) (fun _ hk => hk.2) (.slice Ao36 x382000_1.length co36)) (fun _ hk => hk.2) (.slice Ao39 x382001_1.length co39)) (fun _ hk => hk.2) (.slice Ao40 x382002_1.length co40)) (fun _ hk => trivial), hs_⟩
     ·replace c32 := Bool.eq_false_iff.mpr c32
      subst c32
      have H1 : (if (x383000_1.length : Int) = 0 then (euclid_partial.l0 kj21 a0 a3 x383000_1 x383001_1 x383002_1 x383000_1 x383001_1 x383002_1) else ((euclid_next.f kj21 a0 x382000_1 x382001_1 x382002_1 x383000_1 x383001_1 x383002_1).bind fun bt383 => (if bt383.2.2.2 = 0 then (euclid_partial.l0 kj21 a0 a3 x383000_1 x383001_1 x383002_1 bt383.1 bt383.2.1 bt383.2.2.1) else (some (([] : List Int), ([] : List Int), ([] : List Int), bt383.2.2.2))))) = some (r1, r2, r3, r4) := by rw [if_neg (show ¬ (false = true) by decide)] at H; exact H
      clear H
      have H := H1
      clear H1
      by_cases c41 : (x383000_1.length : Int) = 0
      ·rw [if_pos c41] at H
       have c41b0 : ((x383000_1.length : Int) == 0) = true := beq_iff_eq.mpr c41
       have c41b1 : ((x383000_1.length : Int) != 0) = false := bne_eq_false_iff_eq.mpr c41
       clear c41
       have H' := Aside0.mk H
       clear H
       have hnb42 := NB382_371.out
       have hnc42 := NB371_382.out
       have hnb43 := NB382_381.out
       have hnc43 := NB381_382.out
       have hcz44_0 : wc.cell? ⟨gb382, 0, none⟩ = some (u383000) := (blk_cell BK382.out 0).trans rfl
       have hcz44_1 : wc.cell? ⟨gb382, 1, none⟩ = some (u383001) := (blk_cell BK382.out 1).trans rfl
       have hcz44_2 : wc.cell? ⟨gb382, 2, none⟩ = some (u383002) := (blk_cell BK382.out 2).trans rfl
       have hfz44_0 := blk_frozen BK382.out 0
       have hfz44_1 := blk_frozen BK382.out 1
       have hfz44_2 := blk_frozen BK382.out 2
       obtain ⟨Ao45, co45, eo45⟩ := Kd.R_slice HO_383000.out
       subst eo45
       have hnb46 := NB381_371.out
       have hnc46 := NB371_381.out
       have hcz47_0 : wc.cell? ⟨gb381, 0, none⟩ = some (u382000) := (blk_cell BK381.out 0).trans rfl
       have hcz47_1 : wc.cell? ⟨gb381, 1, none⟩ = some (u382001) := (blk_cell BK381.out 1).trans rfl
       have hcz47_2 : wc.cell? ⟨gb381, 2, none⟩ = some (u382002) := (blk_cell BK381.out 2).trans rfl
       have hfz47_0 := blk_frozen BK381.out 0
       have hfz47_1 := blk_frozen BK381.out 1
       have hfz47_2 := blk_frozen BK381.out 2
       obtain ⟨Ao48, co48, eo48⟩ := Kd.R_slice HO_383001.out
       subst eo48
       obtain ⟨Ao49, co49, eo49⟩ := Kd.R_slice HO_383002.out
       subst eo49
       go_wp2_with (go_step3)
       go_roundg kj21
       case measure => have := HK1.out; have := HJ21.out; omega
       case rel => exact ⟨(x383000_1), (x383001_1), (x383002_1), (x383000_1), (x383001_1), (x383002_1), (.slice Ao45 x383000_1.length co45), (.slice Ao48 x383001_1.length co48), (.slice Ao49 x383002_1.length co49), (.slice Ao45 x383000_1.length co45), (.slice Ao48 x383001_1.length co48), (.slice Ao49 x383002_1.length co49), H', ⟨by have := HK1.out; have := HJ21.out; omega⟩, ⟨by (with_reducible repeat (first | apply Kd.R_alloc | apply Kd.R_drewN | apply Kd.R_drew)); exact Kd.R_mono (Kd.R_far (p := ⟨gb381, 2, none⟩) (Kd.R_far (p := ⟨gb381, 1, none⟩) (Kd.R_far (p := ⟨gb381, 0, none⟩) (Kd.R_types HO_383000.out BK381.out (by decide)) (fun _ hk => hk.2) (.slice Ao45 x383000_1.length co45)) (fun _ hk => hk.2) (.slice Ao48 x383001_1.length co48)) (fun _ hk => hk.2) (.slice Ao49 x383002_1.length co49)) (fun _ hk => trivial)⟩, ⟨by (with_reducible repeat (first | apply Kd.R_alloc | apply Kd.R_drewN | apply Kd.R_drew)); exact Kd.R_mono (Kd.R_far (p := ⟨gb381, 2, none⟩) (Kd.R_far (p := ⟨gb381, 1, none⟩) (Kd.R_far (p := ⟨gb381, 0, none⟩) (Kd.R_types HO_383001.out BK381.out (by decide)) (fun _ hk => hk.2) (.slice Ao45 x383000_1.length co45)) (fun _ hk => hk.2) (.slice Ao48 x383001_1.length co48)) (fun _ hk => hk.2) (.slice Ao49 x383002_1.length co49)) (fun _ hk => trivial)⟩, ⟨by (with_reducible repeat (first | apply Kd.R_alloc | apply Kd.R_drewN | apply Kd.R_drew)); exact Kd.R_mono (Kd.R_far (p := ⟨gb381, 2, none⟩) (Kd.R_far (p := ⟨gb381, 1, none⟩) (Kd.R_far (p := ⟨gb381, 0, none⟩) (Kd.R_types HO_383002.out BK381.out (by decide)) (fun _ hk => hk.2) (.slice Ao45 x383000_1.length co45)) (fun _ hk => hk.2) (.slice Ao48 x383001_1.length co48)) (fun _ hk => hk.2) (.slice Ao49 x383002_1.length co49)) (fun _ hk => trivial)⟩, ⟨by (with_reducible repeat (first | apply Kd.R_alloc | apply Kd.R_drewN | apply Kd.R_drew)); exact Kd.R_mono (Kd.R_far (p := ⟨gb381, 2, none⟩) (Kd.R_far (p := ⟨gb381, 1, none⟩) (Kd.R_far (p := ⟨gb381, 0, none⟩) (Kd.R_types HO_383000.out BK381.out (by decide)) (fun _ hk => hk.2) (.slice Ao45 x383000_1.length co45)) (fun _ hk => hk.2) (.slice Ao48 x383001_1.length co48)) (fun _ hk => hk.2) (.slice Ao49 x383002_1.length co49)) (fun _ hk => trivial)⟩, ⟨by (with_reducible repeat (first | apply Kd.R_alloc | apply Kd.R_drewN | apply Kd.R_drew)); exact Kd.R_mono (Kd.R_far (p := ⟨gb381, 2, none⟩) (Kd.R_far (p := ⟨gb381, 1, none⟩) (Kd.R_far (p := ⟨gb381, 0, none⟩) (Kd.R_types HO_383001.out BK381.out (by decide)) (fun _ hk => hk.2) (.slice Ao45 x383000_1.length co45)) (fun _ hk => hk.2) (.slice Ao48 x383001_1.length co48)) (fun _ hk => hk.2) (.slice Ao49 x383002_1.length co49)) (fun _ hk => trivial)⟩, ⟨by (with_reducible repeat (first | apply Kd.R_alloc | apply Kd.R_drewN | apply Kd.R_drew)); exact Kd.R_mono (Kd.R_far (p := ⟨gb381, 2, none⟩) (Kd.R_far (p := ⟨gb381, 1, none⟩) (Kd.R_far (p := ⟨gb381, 0, none⟩) (Kd.R_types HO_383002.out BK381.out (by decide)) (fun _ hk => hk.2) (.slice Ao45 x383000_1.length co45)) (fun _ hk => hk.2) (.slice Ao48 x383001_1.length co48)) (fun _ hk => hk.2) (.slice Ao49 x383002_1.length co49)) (fun _ hk => trivial)⟩, ⟨by (with_reducible repeat (first | refine blk_drewN ?_ _ | refine blk_drew ?_ | refine blk_alloc ?_ _)); refine blk_far ?_ NB371_381.out _; (with_reducible repeat (first | refine blk_drewN ?_ _ | refine blk_drew ?_ | refine blk_alloc ?_ _)); refine blk_far ?_ NB371_381.out _; (with_reducible repeat (first | refine blk_drewN ?_ _ | refine blk_drew ?_ | refine blk_alloc ?_ _)); refine blk_far ?_ NB371_381.out _; (with_reducible repeat (first | refine blk_drewN ?_ _ | refine blk_drew ?_ | refine blk_alloc ?_ _)); exact BK371.out⟩, ⟨by (with_reducible repeat (first | refine blk_drewN ?_ _ | refine blk_drew ?_ | refine blk_alloc ?_ _)); refine blk_put (cs := #[.slice Ao45 x383000_1.length co45, .slice Ao48 x383001_1.length co48, u382002]) ?_ 2 _ rfl; (with_reducible repeat (first | refine blk_drewN ?_ _ | refine blk_drew ?_ | refine blk_alloc ?_ _)); refine blk_put (cs := #[.slice Ao45 x383000_1.length co45, u382001, u382002]) ?_ 1 _ rfl; (with_reducible repeat (first | refine blk_drewN ?_ _ | refine blk_drew ?_ | refine blk_alloc ?_ _)); refine blk_put (cs := #[u382000, u382001, u382002]) ?_ 0 _ rfl; (with_reducible repeat (first | refine blk_drewN ?_ _ | refine blk_drew ?_ | refine blk_alloc ?_ _)); exact BK381.out⟩, ⟨by (with_reducible repeat (first | refine blk_drewN ?_ _ | refine blk_drew ?_ | refine blk_alloc ?_ _)); refine blk_far ?_ NB382_381.out _; (with_reducible repeat (first | refine blk_drewN ?_ _ | refine blk_drew ?_ | refine blk_alloc ?_ _)); refine blk_far ?_ NB382_381.out _; (with_reducible repeat (first | refine blk_drewN ?_ _ | refine blk_drew ?_ | refine blk_alloc ?_ _)); refine blk_far ?_ NB382_381.out _; (with_reducible repeat (first | refine blk_drewN ?_ _ | refine blk_drew ?_ | refine blk_alloc ?_ _)); exact BK382.out⟩, ⟨hs_⟩⟩
      ·rw [if_neg c41] at H
       have c41b0 : ((x383000_1.length : Int) == 0) = false := beq_eq_false_iff_ne.mpr c41
       have c41b1 : ((x383000_1.length : Int) != 0) = true := bne_iff_ne.mpr c41
       have c41b2 : ¬ (x383000_1 = []) := fun h_ => c41 (by rw [h_]; rfl)
       replace H := Option.bind_eq_some_iff.mp H
       obtain ⟨⟨t383, t386, t389, t392⟩, A500, H⟩ := H
       replace H : (if t392 = 0 then (euclid_partial.l0 kj21 a0 a3 x383000_1 x383001_1 x383002_1 t383 t386 t389) else (some (([] : List Int), ([] : List Int), ([] : List Int), t392))) = some (r1, r2, r3, r4) := H
       have A50 := Aside0.mk A500
       clear A500
       have HC51 := Aside0.mk H
       clear H
       have hnb52 := NB382_371.out
       have hnc52 := NB371_382.out
       have hnb53 := NB382_381.out
       have hnc53 := NB381_382.out
       have hcz54_0 : wc.cell? ⟨gb382, 0, none⟩ = some (u383000) := (blk_cell BK382.out 0).trans rfl
       have hcz54_1 : wc.cell? ⟨gb382, 1, none⟩ = some (u383001) := (blk_cell BK382.out 1).trans rfl
       have hcz54_2 : wc.cell? ⟨gb382, 2, none⟩ = some (u383002) := (blk_cell BK382.out 2).trans rfl
       have hfz54_0 := blk_frozen BK382.out 0
       have hfz54_1 := blk_frozen BK382.out 1
       have hfz54_2 := blk_frozen BK382.out 2
       obtain ⟨Ao55, co55, eo55⟩ := Kd.R_slice HO_383000.out
       subst eo55
       have hnb56 := NB381_371.out
       have hnc56 := NB371_381.out
       have hcz57_0 : wc.cell? ⟨gb381, 0, none⟩ = some (u382000) := (blk_cell BK381.out 0).trans rfl
       have hcz57_1 : wc.cell? ⟨gb381, 1, none⟩ = some (u382001) := (blk_cell BK381.out 1).trans rfl
       have hcz57_2 : wc.cell? ⟨gb381, 2, none⟩ = some (u382002) := (blk_cell BK381.out 2).trans rfl
       have hfz57_0 := blk_frozen BK381.out 0
       have hfz57_1 := blk_frozen BK381.out 1
       have hfz57_2 := blk_frozen BK381.out 2
       obtain ⟨Ao58, co58, eo58⟩ := Kd.R_slice HO_382000.out
       subst eo58
       obtain ⟨Ao59, co59, eo59⟩ := Kd.R_slice HO_382001.out
       subst eo59
       obtain ⟨Ao60, co60, eo60⟩ := Kd.R_slice HO_382002.out
       subst eo60
       obtain ⟨Ao61, co61, eo61⟩ := Kd.R_slice HO_383001.out
       subst eo61
       obtain ⟨Ao62, co62, eo62⟩ := Kd.R_slice HO_383002.out
       subst eo62
       go_upto_if 49 with (first | ((with_reducible refine gate_callee (f := 52) rfl ?_); refine goesM_ (some 45) Try.func52 #[.int .u8 a0, .agg #[.slice Ao58 x382000_1.length co58, .slice Ao59 x382001_1.length co59, .slice Ao60 x382002_1.length co60], .agg #[.slice Ao55 x383000_1.length co55, .slice Ao61 x383001_1.length co61, .slice Ao62 x383002_1.length co62]] ?_; (with_reducible refine (euclid_next.calls kj21 a0 _ _ x382000_1 _ _ x382001_1 _ _ x382002_1 _ _ x383000_1 _ _ x383001_1 _ _ x383002_1 t383 t386 t389 t392 _ ?side1 ?side2 ?side3 ?side4 ?side5 ?side6 ?side7 ?side8 ?side9 ?side10 ?side11 ?side12 A50.out).mono ?_); (case side1 => repeat (first | exact (Kd.R_reads' HO_382000.out).2.2 | (with_reducible refine Kd.C_alloc ?_ _) | (with_reducible refine Kd.C_drewN ?_ _) | (with_reducible refine Kd.C_drew ?_))); (case side2 => exact (Kd.R_reads' HO_382000.out).2.1); (case side3 => repeat (first | exact (Kd.R_reads' HO_382001.out).2.2 | (with_reducible refine Kd.C_alloc ?_ _) | (with_reducible refine Kd.C_drewN ?_ _) | (with_reducible refine Kd.C_drew ?_))); (case side4 => exact (Kd.R_reads' HO_382001.out).2.1); (case side5 => repeat (first | exact (Kd.R_reads' HO_382002.out).2.2 | (with_reducible refine Kd.C_alloc ?_ _) | (with_reducible refine Kd.C_drewN ?_ _) | (with_reducible refine Kd.C_drew ?_))); (case side6 => exact (Kd.R_reads' HO_382002.out).2.1); (case side7 => repeat (first | exact (Kd.R_reads' HO_383000.out).2.2 | (with_reducible refine Kd.C_alloc ?_ _) | (with_reducible refine Kd.C_drewN ?_ _) | (with_reducible refine Kd.C_drew ?_))); (case side8 => exact (Kd.R_reads' HO_383000.out).2.1); (case side9 => repeat (first | exact (Kd.R_reads' HO_383001.out).2.2 | (with_reducible refine Kd.C_alloc ?_ _) | (with_reducible refine Kd.C_drewN ?_ _) | (with_reducible refine Kd.C_drew ?_))); (case side10 => exact (Kd.R_reads' HO_383001.out).2.1); (case side11 => repeat (first | exact (Kd.R_reads' HO_383002.out).2.2 | (with_reducible refine Kd.C_alloc ?_ _) | (with_reducible refine Kd.C_drewN ?_ _) | (with_reducible refine Kd.C_drew ?_))); (case side12 => exact (Kd.R_reads' HO_383002.out).2.1); rintro e w63 ⟨v384, v387, v390, rfl, ho0, ho1, ho2, hb⟩; refine ⟨_, rfl, ?_⟩; have n0_ := A_ (Kd.R_below (nR_ HO_382000) hb); have n1_ := A_ (Kd.R_below (nR_ HO_382001) hb); have n2_ := A_ (Kd.R_below (nR_ HO_382002) hb); have n3_ := A_ (Kd.R_below (nR_ HO_383000) hb); have n4_ := A_ (Kd.R_below (nR_ HO_383001) hb); have n5_ := A_ (Kd.R_below (nR_ HO_383002) hb); have n6_ := A_ (Kd.R_lower (Kd.R_mono (ok' := fun _ => True) ho0 (fun _ _ => trivial)) (below_size hs_)); have n7_ := A_ (Kd.R_lower (Kd.R_mono (ok' := fun _ => True) ho1 (fun _ _ => trivial)) (below_size hs_)); have n8_ := A_ (Kd.R_lower (Kd.R_mono (ok' := fun _ => True) ho2 (fun _ _ => trivial)) (below_size hs_)); have n9_ := A_ (blk_below (g := gb371) (o := .cells #[.slice none 0 0, .slice none 0 0, .slice none 0 0] 61 (0, 0)) (nb_ BK371) hb); have n10_ := A_ (blk_below (g := gb381) (o := .cells #[.slice Ao58 x382000_1.length co58, .slice Ao59 x382001_1.length co59, .slice Ao60 x382002_1.length co60] 61 (0, 0)) (nb_ BK381) hb); have n11_ := A_ (blk_below (g := gb382) (o := .cells #[.slice Ao55 x383000_1.length co55, .slice Ao61 x383001_1.length co61, .slice Ao62 x383002_1.length co62] 61 (0, 0)) (nb_ BK382) hb); have n12_ := A_ (below_step hs_ hb); clear HO_382000 HO_382001 HO_382002 HO_383000 HO_383001 HO_383002 BK371 BK381 BK382 HB; have HO_382000 := n0_; have HO_382001 := n1_; have HO_382002 := n2_; have HO_383000 := n3_; have HO_383001 := n4_; have HO_383002 := n5_; have HO385 := n6_; have HO388 := n7_; have HO391 := n8_; have BK371 := n9_; have BK381 := n10_; have BK382 := n11_; have HB := n12_; clear n0_ n1_ n2_ n3_ n4_ n5_ n6_ n7_ n8_ n9_ n10_ n11_ n12_; (try clear hb); (try clear ho0); (try clear ho1); (try clear ho2)) | ((with_reducible refine gate_dst (N := 13) rfl ?_); (try (refine gate_guard (by rfl) ?_; dsimp only)); refine box_event ?hg (N := 13) ?hd (cs := #[.slice none 0 0, .slice none 0 0, .slice none 0 0]) (t := 61) ?hr ?_; (case hd => rfl); (case hg => rfl); (case hr => first | (go_simp; done) | (go_simp; rfl)); intro gb393 hg w64 hbox hb; have n0_ := A_ (Kd.R_below (nR_ HO_382000) hb); have n1_ := A_ (Kd.R_below (nR_ HO_382001) hb); have n2_ := A_ (Kd.R_below (nR_ HO_382002) hb); have n3_ := A_ (Kd.R_below (nR_ HO_383000) hb); have n4_ := A_ (Kd.R_below (nR_ HO_383001) hb); have n5_ := A_ (Kd.R_below (nR_ HO_383002) hb); have n6_ := A_ (Kd.R_below (nR_ HO385) hb); have n7_ := A_ (Kd.R_below (nR_ HO388) hb); have n8_ := A_ (Kd.R_below (nR_ HO391) hb); have n9_ := A_ (blk_below (g := gb371) (o := .cells #[.slice none 0 0, .slice none 0 0, .slice none 0 0] 61 (0, 0)) (nb_ BK371) hb); have n10_ := A_ (blk_below (g := gb381) (o := .cells #[.slice Ao58 x382000_1.length co58, .slice Ao59 x382001_1.length co59, .slice Ao60 x382002_1.length co60] 61 (0, 0)) (nb_ BK381) hb); have n11_ := A_ (blk_below (g := gb382) (o := .cells #[.slice Ao55 x383000_1.length co55, .slice Ao61 x383001_1.length co61, .slice Ao62 x383002_1.length co62] 61 (0, 0)) (nb_ BK382) hb); have n12_ := A_ (below_step hs_ hb); have n13_ := A_ (hbox); have n14_ := A_ ((by rw [hg]; exact (below_size hs_) : w.heap.size ≤ gb393)); have n15_ := A_ ((by rw [hg]; exact (below_size hs_) : w.heap.size ≤ gb393)); have n16_ := A_ ((by rw [hg]; exact Nat.ne_of_lt (blk_lt (g := gb371) (o := .cells #[.slice none 0 0, .slice none 0 0, .slice none 0 0] 61 (0, 0)) (nb_ BK371)) : gb371 ≠ gb393)); have n17_ := A_ ((by rw [hg]; exact Nat.ne_of_gt (blk_lt (g := gb371) (o := .cells #[.slice none 0 0, .slice none 0 0, .slice none 0 0] 61 (0, 0)) (nb_ BK371)) : gb393 ≠ gb371)); have n18_ := A_ ((by rw [hg]; exact Nat.ne_of_lt (blk_lt (g := gb381) (o := .cells #[.slice Ao58 x382000_1.length co58, .slice Ao59 x382001_1.length co59, .slice Ao60 x382002_1.length co60] 61 (0, 0)) (nb_ BK381)) : gb381 ≠ gb393)); have n19_ := A_ ((by rw [hg]; exact Nat.ne_of_gt (blk_lt (g := gb381) (o := .cells #[.slice Ao58 x382000_1.length co58, .slice Ao59 x382001_1.length co59, .slice Ao60 x382002_1.length co60] 61 (0, 0)) (nb_ BK381)) : gb393 ≠ gb381)); have n20_ := A_ ((by rw [hg]; exact Nat.ne_of_lt (blk_lt (g := gb382) (o := .cells #[.slice Ao55 x383000_1.length co55, .slice Ao61 x383001_1.length co61, .slice Ao62 x383002_1.length co62] 61 (0, 0)) (nb_ BK382)) : gb382 ≠ gb393)); have n21_ := A_ ((by rw [hg]; exact Nat.ne_of_gt (blk_lt (g := gb382) (o := .cells #[.slice Ao55 x383000_1.length co55, .slice Ao61 x383001_1.length co61, .slice Ao62 x383002_1.length co62] 61 (0, 0)) (nb_ BK382)) : gb393 ≠ gb382)); clear HO_382000 HO_382001 HO_382002 HO_383000 HO_383001 HO_383002 HO385 HO388 HO391 BK371 BK381 BK382 HB; have HO_382000 := n0_; have HO_382001 := n1_; have HO_382002 := n2_; have HO_383000 := n3_; have HO_383001 := n4_; have HO_383002 := n5_; have HO385 := n6_; have HO388 := n7_; have HO391 := n8_; have BK371 := n9_; have BK381 := n10_; have BK382 := n11_; have HB := n12_; have BK393 := n13_; have GW393 := n14_; have GE393 := n15_; have NB371_393 := n16_; have NB393_371 := n17_; have NB381_393 := n18_; have NB393_381 := n19_; have NB382_393 := n20_; have NB393_382 := n21_; clear n0_ n1_ n2_ n3_ n4_ n5_ n6_ n7_ n8_ n9_ n10_ n11_ n12_ n13_ n14_ n15_ n16_ n17_ n18_ n19_ n20_ n21_; clear hb hbox hg; obtain ⟨Ao65, co65, eo65⟩ := Kd.R_slice HO385.out; subst eo65; have hnb66 := NB393_371.out; have hnc66 := NB371_393.out; have hnb67 := NB393_381.out; have hnc67 := NB381_393.out; have hnb68 := NB393_382.out; have hnc68 := NB382_393.out; have hcz69_0 : w64.cell? ⟨gb393, 0, none⟩ = some (.slice none 0 0) := (blk_cell BK393.out 0).trans rfl; have hcz69_1 : w64.cell? ⟨gb393, 1, none⟩ = some (.slice none 0 0) := (blk_cell BK393.out 1).trans rfl; have hcz69_2 : w64.cell? ⟨gb393, 2, none⟩ = some (.slice none 0 0) := (blk_cell BK393.out 2).trans rfl; have hfz69_0 := blk_frozen BK393.out 0; have hfz69_1 := blk_frozen BK393.out 1; have hfz69_2 := blk_frozen BK393.out 2; obtain ⟨Ao70, co70, eo70⟩ := Kd.R_slice HO388.out; subst eo70; obtain ⟨Ao71, co71, eo71⟩ := Kd.R_slice HO391.out; subst eo71))
       (try simp only [Act.put, List.setIfInBounds_toArray, List.set_cons_zero, List.set_cons_succ])
       have H := HC51.out
       clear HC51
       by_cases c72 : t392 = 0
       ·rw [if_pos c72] at H
        have c72b0 : (t392 == 0) = true := beq_iff_eq.mpr c72
        have c72b1 : (t392 != 0) = false := bne_eq_false_iff_eq.mpr c72
        clear c72
        (first | rw [c72b0] | rw [c72b1] | (simp only [i64_w, i32_w]; first | rw [c72b0] | rw [c72b1]) | skip)
        have H' := Aside0.mk H
        clear H
        try go_wp2_with (go_step3)
        have n0_ : Aside0 (Kd.R (Kd.int .u64) 40 (((w64.setCell ⟨gb393, 0, none⟩ (.slice Ao65 t383.length co65)).setCell ⟨gb393, 1, none⟩ (.slice Ao70 t386.length co70)).setCell ⟨gb393, 2, none⟩ (.slice Ao71 t389.length co71)) w.heap.size (fun _ => True) (.slice Ao58 x382000_1.length co58) x382000_1) := ⟨by (with_reducible repeat (first | apply Kd.R_alloc | apply Kd.R_drewN | apply Kd.R_drew)); exact Kd.R_mono (Kd.R_far (p := ⟨gb393, 2, none⟩) (Kd.R_far (p := ⟨gb393, 1, none⟩) (Kd.R_far (p := ⟨gb393, 0, none⟩) (Kd.R_types HO_382000.out BK393.out (by decide)) (fun _ hk => hk.2) (.slice Ao65 t383.length co65)) (fun _ hk => hk.2) (.slice Ao70 t386.length co70)) (fun _ hk => hk.2) (.slice Ao71 t389.length co71)) (fun _ hk => trivial)⟩
        have n1_ : Aside0 (Kd.R (Kd.int .u64) 40 (((w64.setCell ⟨gb393, 0, none⟩ (.slice Ao65 t383.length co65)).setCell ⟨gb393, 1, none⟩ (.slice Ao70 t386.length co70)).setCell ⟨gb393, 2, none⟩ (.slice Ao71 t389.length co71)) w.heap.size (fun _ => True) (.slice Ao59 x382001_1.length co59) x382001_1) := ⟨by (with_reducible repeat (first | apply Kd.R_alloc | apply Kd.R_drewN | apply Kd.R_drew)); exact Kd.R_mono (Kd.R_far (p := ⟨gb393, 2, none⟩) (Kd.R_far (p := ⟨gb393, 1, none⟩) (Kd.R_far (p := ⟨gb393, 0, none⟩) (Kd.R_types HO_382001.out BK393.out (by decide)) (fun _ hk => hk.2) (.slice Ao65 t383.length co65)) (fun _ hk => hk.2) (.slice Ao70 t386.length co70)) (fun _ hk => hk.2) (.slice Ao71 t389.length co71)) (fun _ hk => trivial)⟩
        have n2_ : Aside0 (Kd.R (Kd.int .u64) 40 (((w64.setCell ⟨gb393, 0, none⟩ (.slice Ao65 t383.length co65)).setCell ⟨gb393, 1, none⟩ (.slice Ao70 t386.length co70)).setCell ⟨gb393, 2, none⟩ (.slice Ao71 t389.length co71)) w.heap.size (fun _ => True) (.slice Ao60 x382002_1.length co60) x382002_1) := ⟨by (with_reducible repeat (first | apply Kd.R_alloc | apply Kd.R_drewN | apply Kd.R_drew)); exact Kd.R_mono (Kd.R_far (p := ⟨gb393, 2, none⟩) (Kd.R_far (p := ⟨gb393, 1, none⟩) (Kd.R_far (p := ⟨gb393, 0, none⟩) (Kd.R_types HO_382002.out BK393.out (by decide)) (fun _ hk => hk.2) (.slice Ao65 t383.length co65)) (fun _ hk => hk.2) (.slice Ao70 t386.length co70)) (fun _ hk => hk.2) (.slice Ao71 t389.length co71)) (fun _ hk => trivial)⟩
        have n3_ : Aside0 (Kd.R (Kd.int .u64) 40 (((w64.setCell ⟨gb393, 0, none⟩ (.slice Ao65 t383.length co65)).setCell ⟨gb393, 1, none⟩ (.slice Ao70 t386.length co70)).setCell ⟨gb393, 2, none⟩ (.slice Ao71 t389.length co71)) w.heap.size (fun _ => True) (.slice Ao55 x383000_1.length co55) x383000_1) := ⟨by (with_reducible repeat (first | apply Kd.R_alloc | apply Kd.R_drewN | apply Kd.R_drew)); exact Kd.R_mono (Kd.R_far (p := ⟨gb393, 2, none⟩) (Kd.R_far (p := ⟨gb393, 1, none⟩) (Kd.R_far (p := ⟨gb393, 0, none⟩) (Kd.R_types HO_383000.out BK393.out (by decide)) (fun _ hk => hk.2) (.slice Ao65 t383.length co65)) (fun _ hk => hk.2) (.slice Ao70 t386.length co70)) (fun _ hk => hk.2) (.slice Ao71 t389.length co71)) (fun _ hk => trivial)⟩
        have n4_ : Aside0 (Kd.R (Kd.int .u64) 40 (((w64.setCell ⟨gb393, 0, none⟩ (.slice Ao65 t383.length co65)).setCell ⟨gb393, 1, none⟩ (.slice Ao70 t386.length co70)).setCell ⟨gb393, 2, none⟩ (.slice Ao71 t389.length co71)) w.heap.size (fun _ => True) (.slice Ao61 x383001_1.length co61) x383001_1) := ⟨by (with_reducible repeat (first | apply Kd.R_alloc | apply Kd.R_drewN | apply Kd.R_drew)); exact Kd.R_mono (Kd.R_far (p := ⟨gb393, 2, none⟩) (Kd.R_far (p := ⟨gb393, 1, none⟩) (Kd.R_far (p := ⟨gb393, 0, none⟩) (Kd.R_types HO_383001.out BK393.out (by decide)) (fun _ hk => hk.2) (.slice Ao65 t383.length co65)) (fun _ hk => hk.2) (.slice Ao70 t386.length co70)) (fun _ hk => hk.2) (.slice Ao71 t389.length co71)) (fun _ hk => trivial)⟩
        have n5_ : Aside0 (Kd.R (Kd.int .u64) 40 (((w64.setCell ⟨gb393, 0, none⟩ (.slice Ao65 t383.length co65)).setCell ⟨gb393, 1, none⟩ (.slice Ao70 t386.length co70)).setCell ⟨gb393, 2, none⟩ (.slice Ao71 t389.length co71)) w.heap.size (fun _ => True) (.slice Ao62 x383002_1.length co62) x383002_1) := ⟨by (with_reducible repeat (first | apply Kd.R_alloc | apply Kd.R_drewN | apply Kd.R_drew)); exact Kd.R_mono (Kd.R_far (p := ⟨gb393, 2, none⟩) (Kd.R_far (p := ⟨gb393, 1, none⟩) (Kd.R_far (p := ⟨gb393, 0, none⟩) (Kd.R_types HO_383002.out BK393.out (by decide)) (fun _ hk => hk.2) (.slice Ao65 t383.length co65)) (fun _ hk => hk.2) (.slice Ao70 t386.length co70)) (fun _ hk => hk.2) (.slice Ao71 t389.length co71)) (fun _ hk => trivial)⟩
        have n6_ : Aside0 (Kd.R (Kd.int .u64) 40 (((w64.setCell ⟨gb393, 0, none⟩ (.slice Ao65 t383.length co65)).setCell ⟨gb393, 1, none⟩ (.slice Ao70 t386.length co70)).setCell ⟨gb393, 2, none⟩ (.slice Ao71 t389.length co71)) w.heap.size (fun _ => True) (.slice Ao65 t383.length co65) t383) := ⟨by (with_reducible repeat (first | apply Kd.R_alloc | apply Kd.R_drewN | apply Kd.R_drew)); exact Kd.R_mono (Kd.R_far (p := ⟨gb393, 2, none⟩) (Kd.R_far (p := ⟨gb393, 1, none⟩) (Kd.R_far (p := ⟨gb393, 0, none⟩) (Kd.R_types HO385.out BK393.out (by decide)) (fun _ hk => hk.2) (.slice Ao65 t383.length co65)) (fun _ hk => hk.2) (.slice Ao70 t386.length co70)) (fun _ hk => hk.2) (.slice Ao71 t389.length co71)) (fun _ hk => trivial)⟩
        have n7_ : Aside0 (Kd.R (Kd.int .u64) 40 (((w64.setCell ⟨gb393, 0, none⟩ (.slice Ao65 t383.length co65)).setCell ⟨gb393, 1, none⟩ (.slice Ao70 t386.length co70)).setCell ⟨gb393, 2, none⟩ (.slice Ao71 t389.length co71)) w.heap.size (fun _ => True) (.slice Ao70 t386.length co70) t386) := ⟨by (with_reducible repeat (first | apply Kd.R_alloc | apply Kd.R_drewN | apply Kd.R_drew)); exact Kd.R_mono (Kd.R_far (p := ⟨gb393, 2, none⟩) (Kd.R_far (p := ⟨gb393, 1, none⟩) (Kd.R_far (p := ⟨gb393, 0, none⟩) (Kd.R_types HO388.out BK393.out (by decide)) (fun _ hk => hk.2) (.slice Ao65 t383.length co65)) (fun _ hk => hk.2) (.slice Ao70 t386.length co70)) (fun _ hk => hk.2) (.slice Ao71 t389.length co71)) (fun _ hk => trivial)⟩
        have n8_ : Aside0 (Kd.R (Kd.int .u64) 40 (((w64.setCell ⟨gb393, 0, none⟩ (.slice Ao65 t383.length co65)).setCell ⟨gb393, 1, none⟩ (.slice Ao70 t386.length co70)).setCell ⟨gb393, 2, none⟩ (.slice Ao71 t389.length co71)) w.heap.size (fun _ => True) (.slice Ao71 t389.length co71) t389) := ⟨by (with_reducible repeat (first | apply Kd.R_alloc | apply Kd.R_drewN | apply Kd.R_drew)); exact Kd.R_mono (Kd.R_far (p := ⟨gb393, 2, none⟩) (Kd.R_far (p := ⟨gb393, 1, none⟩) (Kd.R_far (p := ⟨gb393, 0, none⟩) (Kd.R_types HO391.out BK393.out (by decide)) (fun _ hk => hk.2) (.slice Ao65 t383.length co65)) (fun _ hk => hk.2) (.slice Ao70 t386.length co70)) (fun _ hk => hk.2) (.slice Ao71 t389.length co71)) (fun _ hk => trivial)⟩
        have n9_ : Aside0 ((((w64.setCell ⟨gb393, 0, none⟩ (.slice Ao65 t383.length co65)).setCell ⟨gb393, 1, none⟩ (.slice Ao70 t386.length co70)).setCell ⟨gb393, 2, none⟩ (.slice Ao71 t389.length co71)).heap[gb371]? = some (.cells #[.slice none 0 0, .slice none 0 0, .slice none 0 0] 61 (0, 0))) := ⟨by (with_reducible repeat (first | refine blk_drewN ?_ _ | refine blk_drew ?_ | refine blk_alloc ?_ _)); refine blk_far ?_ NB371_393.out _; (with_reducible repeat (first | refine blk_drewN ?_ _ | refine blk_drew ?_ | refine blk_alloc ?_ _)); refine blk_far ?_ NB371_393.out _; (with_reducible repeat (first | refine blk_drewN ?_ _ | refine blk_drew ?_ | refine blk_alloc ?_ _)); refine blk_far ?_ NB371_393.out _; (with_reducible repeat (first | refine blk_drewN ?_ _ | refine blk_drew ?_ | refine blk_alloc ?_ _)); exact BK371.out⟩
        have n10_ : Aside0 ((((w64.setCell ⟨gb393, 0, none⟩ (.slice Ao65 t383.length co65)).setCell ⟨gb393, 1, none⟩ (.slice Ao70 t386.length co70)).setCell ⟨gb393, 2, none⟩ (.slice Ao71 t389.length co71)).heap[gb381]? = some (.cells #[.slice Ao58 x382000_1.length co58, .slice Ao59 x382001_1.length co59, .slice Ao60 x382002_1.length co60] 61 (0, 0))) := ⟨by (with_reducible repeat (first | refine blk_drewN ?_ _ | refine blk_drew ?_ | refine blk_alloc ?_ _)); refine blk_far ?_ NB381_393.out _; (with_reducible repeat (first | refine blk_drewN ?_ _ | refine blk_drew ?_ | refine blk_alloc ?_ _)); refine blk_far ?_ NB381_393.out _; (with_reducible repeat (first | refine blk_drewN ?_ _ | refine blk_drew ?_ | refine blk_alloc ?_ _)); refine blk_far ?_ NB381_393.out _; (with_reducible repeat (first | refine blk_drewN ?_ _ | refine blk_drew ?_ | refine blk_alloc ?_ _)); exact BK381.out⟩
        have n11_ : Aside0 ((((w64.setCell ⟨gb393, 0, none⟩ (.slice Ao65 t383.length co65)).setCell ⟨gb393, 1, none⟩ (.slice Ao70 t386.length co70)).setCell ⟨gb393, 2, none⟩ (.slice Ao71 t389.length co71)).heap[gb382]? = some (.cells #[.slice Ao55 x383000_1.length co55, .slice Ao61 x383001_1.length co61, .slice Ao62 x383002_1.length co62] 61 (0, 0))) := ⟨by (with_reducible repeat (first | refine blk_drewN ?_ _ | refine blk_drew ?_ | refine blk_alloc ?_ _)); refine blk_far ?_ NB382_393.out _; (with_reducible repeat (first | refine blk_drewN ?_ _ | refine blk_drew ?_ | refine blk_alloc ?_ _)); refine blk_far ?_ NB382_393.out _; (with_reducible repeat (first | refine blk_drewN ?_ _ | refine blk_drew ?_ | refine blk_alloc ?_ _)); refine blk_far ?_ NB382_393.out _; (with_reducible repeat (first | refine blk_drewN ?_ _ | refine blk_drew ?_ | refine blk_alloc ?_ _)); exact BK382.out⟩
        have n12_ : Aside0 ((((w64.setCell ⟨gb393, 0, none⟩ (.slice Ao65 t383.length co65)).setCell ⟨gb393, 1, none⟩ (.slice Ao70 t386.length co70)).setCell ⟨gb393, 2, none⟩ (.slice Ao71 t389.length co71)).heap[gb393]? = some (.cells #[.slice Ao65 t383.length co65, .slice Ao70 t386.length co70, .slice Ao71 t389.length co71] 61 (0, 0))) := ⟨by (with_reducible repeat (first | refine blk_drewN ?_ _ | refine blk_drew ?_ | refine blk_alloc ?_ _)); refine blk_put (cs := #[.slice Ao65 t383.length co65, .slice Ao70 t386.length co70, .slice none 0 0]) ?_ 2 _ rfl; (with_reducible repeat (first | refine blk_drewN ?_ _ | refine blk_drew ?_ | refine blk_alloc ?_ _)); refine blk_put (cs := #[.slice Ao65 t383.length co65, .slice none 0 0, .slice none 0 0]) ?_ 1 _ rfl; (with_reducible repeat (first | refine blk_drewN ?_ _ | refine blk_drew ?_ | refine blk_alloc ?_ _)); refine blk_put (cs := #[.slice none 0 0, .slice none 0 0, .slice none 0 0]) ?_ 0 _ rfl; (with_reducible repeat (first | refine blk_drewN ?_ _ | refine blk_drew ?_ | refine blk_alloc ?_ _)); exact BK393.out⟩
        have n13_ : Aside0 (Below w.heap.size w (((w64.setCell ⟨gb393, 0, none⟩ (.slice Ao65 t383.length co65)).setCell ⟨gb393, 1, none⟩ (.slice Ao70 t386.length co70)).setCell ⟨gb393, 2, none⟩ (.slice Ao71 t389.length co71))) := ⟨hs_⟩
        (try clear HO_382000)
        (try clear HO_382001)
        (try clear HO_382002)
        (try clear HO_383000)
        (try clear HO_383001)
        (try clear HO_383002)
        (try clear HO385)
        (try clear HO388)
        (try clear HO391)
        (try clear BK371)
        (try clear BK381)
        (try clear BK382)
        (try clear BK393)
        (try clear HB)
        generalize (((w64.setCell ⟨gb393, 0, none⟩ (.slice Ao65 t383.length co65)).setCell ⟨gb393, 1, none⟩ (.slice Ao70 t386.length co70)).setCell ⟨gb393, 2, none⟩ (.slice Ao71 t389.length co71)) = w73 at n0_ n1_ n2_ n3_ n4_ n5_ n6_ n7_ n8_ n9_ n10_ n11_ n12_ n13_ ⊢
        have HO_382000 := n0_
        have HO_382001 := n1_
        have HO_382002 := n2_
        have HO_383000 := n3_
        have HO_383001 := n4_
        have HO_383002 := n5_
        have HO385 := n6_
        have HO388 := n7_
        have HO391 := n8_
        have BK371 := n9_
        have BK381 := n10_
        have BK382 := n11_
        have BK393 := n12_
        have HB := n13_
        clear n0_ n1_ n2_ n3_ n4_ n5_ n6_ n7_ n8_ n9_ n10_ n11_ n12_ n13_
        have n0_ := A_ (Kd.R_drew HO_382000.out)
        have n1_ := A_ (Kd.R_drew HO_382001.out)
        have n2_ := A_ (Kd.R_drew HO_382002.out)
        have n3_ := A_ (Kd.R_drew HO_383000.out)
        have n4_ := A_ (Kd.R_drew HO_383001.out)
        have n5_ := A_ (Kd.R_drew HO_383002.out)
        have n6_ := A_ (Kd.R_drew HO385.out)
        have n7_ := A_ (Kd.R_drew HO388.out)
        have n8_ := A_ (Kd.R_drew HO391.out)
        have n9_ := A_ (blk_drew BK371.out)
        have n10_ := A_ (blk_drew BK381.out)
        have n11_ := A_ (blk_drew BK382.out)
        have n12_ := A_ (blk_drew BK393.out)
        have n13_ := A_ (below_drew1 HB.out)
        clear HO_382000
        clear HO_382001
        clear HO_382002
        clear HO_383000
        clear HO_383001
        clear HO_383002
        clear HO385
        clear HO388
        clear HO391
        clear BK371
        clear BK381
        clear BK382
        clear BK393
        clear HB
        have HO_382000 := n0_
        have HO_382001 := n1_
        have HO_382002 := n2_
        have HO_383000 := n3_
        have HO_383001 := n4_
        have HO_383002 := n5_
        have HO385 := n6_
        have HO388 := n7_
        have HO391 := n8_
        have BK371 := n9_
        have BK381 := n10_
        have BK382 := n11_
        have BK393 := n12_
        have HB := n13_
        clear n0_ n1_ n2_ n3_ n4_ n5_ n6_ n7_ n8_ n9_ n10_ n11_ n12_ n13_
        refine start_ (n := 4) (S := fun w' => w'.cell? ⟨gb382, 0, none⟩ = some (.slice Ao55 x383000_1.length co55) ∧ w'.cell? ⟨gb382, 1, none⟩ = some (.slice Ao61 x383001_1.length co61) ∧ w'.cell? ⟨gb382, 2, none⟩ = some (.slice Ao62 x383002_1.length co62) ∧ w'.cell? ⟨gb393, 0, none⟩ = some (.slice Ao65 t383.length co65) ∧ w'.cell? ⟨gb393, 1, none⟩ = some (.slice Ao70 t386.length co70) ∧ w'.cell? ⟨gb393, 2, none⟩ = some (.slice Ao71 t389.length co71)) (ds := [3]) #[false, false, false, false] (by kernel_rfl) rfl rfl ⟨(blk_cell BK382.out 0).trans rfl, (blk_cell BK382.out 1).trans rfl, (blk_cell BK382.out 2).trans rfl, (blk_cell BK393.out 0).trans rfl, (blk_cell BK393.out 1).trans rfl, (blk_cell BK393.out 2).trans rfl⟩ (fun hHeld => ?_)
        generalize w73.drew = w74 at HO_382000 HO_382001 HO_382002 HO_383000 HO_383001 HO_383002 HO385 HO388 HO391 BK371 BK381 BK382 BK393 HB hHeld ⊢
        refine take_ (i := 0) (N := some 52) (v := ?_) (a' := ?_) #[true, false, false, false] rfl rfl (by kernel_rfl) (fun _ _ _ h => h) (Or.inl ⟨by rfl, ?_⟩) hHeld ?_ ?_
        rotate_left
        ·rintro w' ⟨s0, s1, s2, s3, s4, s5⟩
         go_simp
         with_reducible rfl
        rotate_left
        ·simp only [Act.put, List.setIfInBounds_toArray, List.set_cons_zero, List.set_cons_succ, i64_w, i32_w]
         rfl
        refine take_ (i := 1) (N := some 53) (v := ?_) (a' := ?_) #[true, true, false, false] rfl rfl (by kernel_rfl) (fun _ _ _ h => h) (Or.inl ⟨by rfl, ?_⟩) hHeld ?_ ?_
        rotate_left
        ·rintro w' ⟨s0, s1, s2, s3, s4, s5⟩
         go_simp
         with_reducible rfl
        rotate_left
        ·simp only [Act.put, List.setIfInBounds_toArray, List.set_cons_zero, List.set_cons_succ, i64_w, i32_w]
         rfl
        refine one_ (i := 2) (N := none) #[true, true, true, false] rfl rfl (by kernel_rfl) (by decide) (fun K hK => ?_)
        have hs75 : w74.cell? ⟨gb381, 0, none⟩ = some (.slice Ao58 x382000_1.length co58) := (blk_cell BK381.out 0).trans rfl
        have hfs75 := blk_frozen BK381.out 0
        have hns75_0 := NB371_381.out
        have hns75_2 := NB382_381.out
        have hns75_3 := NB393_381.out
        have hms75_0 := NB381_371.out
        have hms75_2 := NB381_382.out
        have hms75_3 := NB381_393.out
        have hs76 : w74.cell? ⟨gb381, 1, none⟩ = some (.slice Ao59 x382001_1.length co59) := (blk_cell BK381.out 1).trans rfl
        have hfs76 := blk_frozen BK381.out 1
        have hns76_0 := NB371_381.out
        have hns76_2 := NB382_381.out
        have hns76_3 := NB393_381.out
        have hms76_0 := NB381_371.out
        have hms76_2 := NB381_382.out
        have hms76_3 := NB381_393.out
        have hs77 : w74.cell? ⟨gb381, 2, none⟩ = some (.slice Ao60 x382002_1.length co60) := (blk_cell BK381.out 2).trans rfl
        have hfs77 := blk_frozen BK381.out 2
        have hns77_0 := NB371_381.out
        have hns77_2 := NB382_381.out
        have hns77_3 := NB393_381.out
        have hms77_0 := NB381_371.out
        have hms77_2 := NB381_382.out
        have hms77_3 := NB381_393.out
        refine skip_ (w1 := ?_) (by rfl) rfl ?_ ?_
        rotate_left
        ·go_simp
         rfl
        refine hK.out _ _ ⟨((cell_far (p := ⟨gb381, _, none⟩) NB382_381.out _).trans (((cell_far (p := ⟨gb381, _, none⟩) NB382_381.out _).trans (((cell_far (p := ⟨gb381, _, none⟩) NB382_381.out _).trans (hHeld.1)))))), ((cell_far (p := ⟨gb381, _, none⟩) NB382_381.out _).trans (((cell_far (p := ⟨gb381, _, none⟩) NB382_381.out _).trans (((cell_far (p := ⟨gb381, _, none⟩) NB382_381.out _).trans (hHeld.2.1)))))), ((cell_far (p := ⟨gb381, _, none⟩) NB382_381.out _).trans (((cell_far (p := ⟨gb381, _, none⟩) NB382_381.out _).trans (((cell_far (p := ⟨gb381, _, none⟩) NB382_381.out _).trans (hHeld.2.2.1)))))), ((cell_far (p := ⟨gb381, _, none⟩) NB393_381.out _).trans (((cell_far (p := ⟨gb381, _, none⟩) NB393_381.out _).trans (((cell_far (p := ⟨gb381, _, none⟩) NB393_381.out _).trans (hHeld.2.2.2.1)))))), ((cell_far (p := ⟨gb381, _, none⟩) NB393_381.out _).trans (((cell_far (p := ⟨gb381, _, none⟩) NB393_381.out _).trans (((cell_far (p := ⟨gb381, _, none⟩) NB393_381.out _).trans (hHeld.2.2.2.2.1)))))), ((cell_far (p := ⟨gb381, _, none⟩) NB393_381.out _).trans (((cell_far (p := ⟨gb381, _, none⟩) NB393_381.out _).trans (((cell_far (p := ⟨gb381, _, none⟩) NB393_381.out _).trans (hHeld.2.2.2.2.2))))))⟩ (fun hHeld => ?_)
        clear hK K
        refine last_ (i := 3) (N := none) #[true, true, true, true] rfl rfl (by kernel_rfl) (by decide) (fun K hK => ?_)
        have hs78 : w74.cell? ⟨gb382, 0, none⟩ = some (.slice Ao55 x383000_1.length co55) := (blk_cell BK382.out 0).trans rfl
        have hfs78 := blk_frozen BK382.out 0
        have hns78_0 := NB371_382.out
        have hns78_1 := NB381_382.out
        have hns78_3 := NB393_382.out
        have hms78_0 := NB382_371.out
        have hms78_1 := NB382_381.out
        have hms78_3 := NB382_393.out
        have hs79 : w74.cell? ⟨gb382, 1, none⟩ = some (.slice Ao61 x383001_1.length co61) := (blk_cell BK382.out 1).trans rfl
        have hfs79 := blk_frozen BK382.out 1
        have hns79_0 := NB371_382.out
        have hns79_1 := NB381_382.out
        have hns79_3 := NB393_382.out
        have hms79_0 := NB382_371.out
        have hms79_1 := NB382_381.out
        have hms79_3 := NB382_393.out
        have hs80 : w74.cell? ⟨gb382, 2, none⟩ = some (.slice Ao62 x383002_1.length co62) := (blk_cell BK382.out 2).trans rfl
        have hfs80 := blk_frozen BK382.out 2
        have hns80_0 := NB371_382.out
        have hns80_1 := NB381_382.out
        have hns80_3 := NB393_382.out
        have hms80_0 := NB382_371.out
        have hms80_1 := NB382_381.out
        have hms80_3 := NB382_393.out
        refine skip_ (w1 := ?_) (by rfl) rfl ?_ ?_
        rotate_left
        ·go_simp
         rfl
        refine hK.out _ _ ?_
        clear hK K
        refine done_ (by kernel_rfl) ?_
        try go_wp2_with (go_step3)
        go_roundg kj21
        case measure => have := HK1.out; have := HJ21.out; omega
        case rel => exact ⟨(x383000_1), (x383001_1), (x383002_1), (t383), (t386), (t389), (.slice Ao55 x383000_1.length co55), (.slice Ao61 x383001_1.length co61), (.slice Ao62 x383002_1.length co62), (.slice Ao65 t383.length co65), (.slice Ao70 t386.length co70), (.slice Ao71 t389.length co71), H', ⟨by have := HK1.out; have := HJ21.out; omega⟩, ⟨by (with_reducible repeat (first | apply Kd.R_alloc | apply Kd.R_drewN | apply Kd.R_drew)); exact Kd.R_mono (Kd.R_far (p := ⟨gb382, 2, none⟩) (Kd.R_far (p := ⟨gb382, 1, none⟩) (Kd.R_far (p := ⟨gb382, 0, none⟩) (Kd.R_far (p := ⟨gb381, 2, none⟩) (Kd.R_far (p := ⟨gb381, 1, none⟩) (Kd.R_far (p := ⟨gb381, 0, none⟩) (Kd.R_types (Kd.R_types HO_383000.out BK381.out (by decide)) BK382.out (by decide)) (fun _ hk => hk.1.2) (.slice Ao55 x383000_1.length co55)) (fun _ hk => hk.1.2) (.slice Ao61 x383001_1.length co61)) (fun _ hk => hk.1.2) (.slice Ao62 x383002_1.length co62)) (fun _ hk => hk.2) (.slice Ao65 t383.length co65)) (fun _ hk => hk.2) (.slice Ao70 t386.length co70)) (fun _ hk => hk.2) (.slice Ao71 t389.length co71)) (fun _ hk => trivial)⟩, ⟨by (with_reducible repeat (first | apply Kd.R_alloc | apply Kd.R_drewN | apply Kd.R_drew)); exact Kd.R_mono (Kd.R_far (p := ⟨gb382, 2, none⟩) (Kd.R_far (p := ⟨gb382, 1, none⟩) (Kd.R_far (p := ⟨gb382, 0, none⟩) (Kd.R_far (p := ⟨gb381, 2, none⟩) (Kd.R_far (p := ⟨gb381, 1, none⟩) (Kd.R_far (p := ⟨gb381, 0, none⟩) (Kd.R_types (Kd.R_types HO_383001.out BK381.out (by decide)) BK382.out (by decide)) (fun _ hk => hk.1.2) (.slice Ao55 x383000_1.length co55)) (fun _ hk => hk.1.2) (.slice Ao61 x383001_1.length co61)) (fun _ hk => hk.1.2) (.slice Ao62 x383002_1.length co62)) (fun _ hk => hk.2) (.slice Ao65 t383.length co65)) (fun _ hk => hk.2) (.slice Ao70 t386.length co70)) (fun _ hk => hk.2) (.slice Ao71 t389.length co71)) (fun _ hk => trivial)⟩, ⟨by (with_reducible repeat (first | apply Kd.R_alloc | apply Kd.R_drewN | apply Kd.R_drew)); exact Kd.R_mono (Kd.R_far (p := ⟨gb382, 2, none⟩) (Kd.R_far (p := ⟨gb382, 1, none⟩) (Kd.R_far (p := ⟨gb382, 0, none⟩) (Kd.R_far (p := ⟨gb381, 2, none⟩) (Kd.R_far (p := ⟨gb381, 1, none⟩) (Kd.R_far (p := ⟨gb381, 0, none⟩) (Kd.R_types (Kd.R_types HO_383002.out BK381.out (by decide)) BK382.out (by decide)) (fun _ hk => hk.1.2) (.slice Ao55 x383000_1.length co55)) (fun _ hk => hk.1.2) (.slice Ao61 x383001_1.length co61)) (fun _ hk => hk.1.2) (.slice Ao62 x383002_1.length co62)) (fun _ hk => hk.2) (.slice Ao65 t383.length co65)) (fun _ hk => hk.2) (.slice Ao70 t386.length co70)) (fun _ hk => hk.2) (.slice Ao71 t389.length co71)) (fun _ hk => trivial)⟩, ⟨by (with_reducible repeat (first | apply Kd.R_alloc | apply Kd.R_drewN | apply Kd.R_drew)); exact Kd.R_mono (Kd.R_far (p := ⟨gb382, 2, none⟩) (Kd.R_far (p := ⟨gb382, 1, none⟩) (Kd.R_far (p := ⟨gb382, 0, none⟩) (Kd.R_far (p := ⟨gb381, 2, none⟩) (Kd.R_far (p := ⟨gb381, 1, none⟩) (Kd.R_far (p := ⟨gb381, 0, none⟩) (Kd.R_types (Kd.R_types HO385.out BK381.out (by decide)) BK382.out (by decide)) (fun _ hk => hk.1.2) (.slice Ao55 x383000_1.length co55)) (fun _ hk => hk.1.2) (.slice Ao61 x383001_1.length co61)) (fun _ hk => hk.1.2) (.slice Ao62 x383002_1.length co62)) (fun _ hk => hk.2) (.slice Ao65 t383.length co65)) (fun _ hk => hk.2) (.slice Ao70 t386.length co70)) (fun _ hk => hk.2) (.slice Ao71 t389.length co71)) (fun _ hk => trivial)⟩, ⟨by (with_reducible repeat (first | apply Kd.R_alloc | apply Kd.R_drewN | apply Kd.R_drew)); exact Kd.R_mono (Kd.R_far (p := ⟨gb382, 2, none⟩) (Kd.R_far (p := ⟨gb382, 1, none⟩) (Kd.R_far (p := ⟨gb382, 0, none⟩) (Kd.R_far (p := ⟨gb381, 2, none⟩) (Kd.R_far (p := ⟨gb381, 1, none⟩) (Kd.R_far (p := ⟨gb381, 0, none⟩) (Kd.R_types (Kd.R_types HO388.out BK381.out (by decide)) BK382.out (by decide)) (fun _ hk => hk.1.2) (.slice Ao55 x383000_1.length co55)) (fun _ hk => hk.1.2) (.slice Ao61 x383001_1.length co61)) (fun _ hk => hk.1.2) (.slice Ao62 x383002_1.length co62)) (fun _ hk => hk.2) (.slice Ao65 t383.length co65)) (fun _ hk => hk.2) (.slice Ao70 t386.length co70)) (fun _ hk => hk.2) (.slice Ao71 t389.length co71)) (fun _ hk => trivial)⟩, ⟨by (with_reducible repeat (first | apply Kd.R_alloc | apply Kd.R_drewN | apply Kd.R_drew)); exact Kd.R_mono (Kd.R_far (p := ⟨gb382, 2, none⟩) (Kd.R_far (p := ⟨gb382, 1, none⟩) (Kd.R_far (p := ⟨gb382, 0, none⟩) (Kd.R_far (p := ⟨gb381, 2, none⟩) (Kd.R_far (p := ⟨gb381, 1, none⟩) (Kd.R_far (p := ⟨gb381, 0, none⟩) (Kd.R_types (Kd.R_types HO391.out BK381.out (by decide)) BK382.out (by decide)) (fun _ hk => hk.1.2) (.slice Ao55 x383000_1.length co55)) (fun _ hk => hk.1.2) (.slice Ao61 x383001_1.length co61)) (fun _ hk => hk.1.2) (.slice Ao62 x383002_1.length co62)) (fun _ hk => hk.2) (.slice Ao65 t383.length co65)) (fun _ hk => hk.2) (.slice Ao70 t386.length co70)) (fun _ hk => hk.2) (.slice Ao71 t389.length co71)) (fun _ hk => trivial)⟩, ⟨by (with_reducible repeat (first | refine blk_drewN ?_ _ | refine blk_drew ?_ | refine blk_alloc ?_ _)); refine blk_far ?_ NB371_382.out _; (with_reducible repeat (first | refine blk_drewN ?_ _ | refine blk_drew ?_ | refine blk_alloc ?_ _)); refine blk_far ?_ NB371_382.out _; (with_reducible repeat (first | refine blk_drewN ?_ _ | refine blk_drew ?_ | refine blk_alloc ?_ _)); refine blk_far ?_ NB371_382.out _; (with_reducible repeat (first | refine blk_drewN ?_ _ | refine blk_drew ?_ | refine blk_alloc ?_ _)); refine blk_far ?_ NB371_381.out _; (with_reducible repeat (first | refine blk_drewN ?_ _ | refine blk_drew ?_ | refine blk_alloc ?_ _)); refine blk_far ?_ NB371_381.out _; (with_reducible repeat (first | refine blk_drewN ?_ _ | refine blk_drew ?_ | refine blk_alloc ?_ _)); refine blk_far ?_ NB371_381.out _; (with_reducible repeat (first | refine blk_drewN ?_ _ | refine blk_drew ?_ | refine blk_alloc ?_ _)); exact BK371.out⟩, ⟨by (with_reducible repeat (first | refine blk_drewN ?_ _ | refine blk_drew ?_ | refine blk_alloc ?_ _)); refine blk_far ?_ NB381_382.out _; (with_reducible repeat (first | refine blk_drewN ?_ _ | refine blk_drew ?_ | refine blk_alloc ?_ _)); refine blk_far ?_ NB381_382.out _; (with_reducible repeat (first | refine blk_drewN ?_ _ | refine blk_drew ?_ | refine blk_alloc ?_ _)); refine blk_far ?_ NB381_382.out _; (with_reducible repeat (first | refine blk_drewN ?_ _ | refine blk_drew ?_ | refine blk_alloc ?_ _)); refine blk_put (cs := #[.slice Ao55 x383000_1.length co55, .slice Ao61 x383001_1.length co61, .slice Ao60 x382002_1.length co60]) ?_ 2 _ rfl; (with_reducible repeat (first | refine blk_drewN ?_ _ | refine blk_drew ?_ | refine blk_alloc ?_ _)); refine blk_put (cs := #[.slice Ao55 x383000_1.length co55, .slice Ao59 x382001_1.length co59, .slice Ao60 x382002_1.length co60]) ?_ 1 _ rfl; (with_reducible repeat (first | refine blk_drewN ?_ _ | refine blk_drew ?_ | refine blk_alloc ?_ _)); refine blk_put (cs := #[.slice Ao58 x382000_1.length co58, .slice Ao59 x382001_1.length co59, .slice Ao60 x382002_1.length co60]) ?_ 0 _ rfl; (with_reducible repeat (first | refine blk_drewN ?_ _ | refine blk_drew ?_ | refine blk_alloc ?_ _)); exact BK381.out⟩, ⟨by (with_reducible repeat (first | refine blk_drewN ?_ _ | refine blk_drew ?_ | refine blk_alloc ?_ _)); refine blk_put (cs := #[.slice Ao65 t383.length co65, .slice Ao70 t386.length co70, .slice Ao62 x383002_1.length co62]) ?_ 2 _ rfl; (with_reducible repeat (first | refine blk_drewN ?_ _ | refine blk_drew ?_ | refine blk_alloc ?_ _)); refine blk_put (cs := #[.slice Ao65 t383.length co65, .slice Ao61 x383001_1.length co61, .slice Ao62 x383002_1.length co62]) ?_ 1 _ rfl; (with_reducible repeat (first | refine blk_drewN ?_ _ | refine blk_drew ?_ | refine blk_alloc ?_ _)); refine blk_put (cs := #[.slice Ao55 x383000_1.length co55, .slice Ao61 x383001_1.length co61, .slice Ao62 x383002_1.length co62]) ?_ 0 _ rfl; (with_reducible repeat (first | refine blk_drewN ?_ _ | refine blk_drew ?_ | refine blk_alloc ?_ _)); refine blk_far ?_ NB382_381.out _; (with_reducible repeat (first | refine blk_drewN ?_ _ | refine blk_drew ?_ | refine blk_alloc ?_ _)); refine blk_far ?_ NB382_381.out _; (with_reducible repeat (first | refine blk_drewN ?_ _ | refine blk_drew ?_ | refine blk_alloc ?_ _)); refine blk_far ?_ NB382_381.out _; (with_reducible repeat (first | refine blk_drewN ?_ _ | refine blk_drew ?_ | refine blk_alloc ?_ _)); exact BK382.out⟩, ⟨hs_⟩⟩
       ·rw [if_neg c72] at H
        have c72b0 : (t392 == 0) = false := beq_eq_false_iff_ne.mpr c72
        have c72b1 : (t392 != 0) = true := bne_iff_ne.mpr c72
        (first | rw [c72b0] | rw [c72b1] | (simp only [i64_w, i32_w]; first | rw [c72b0] | rw [c72b1]) | skip)
        simp only [Option.some.injEq, Prod.mk.injEq] at H
        obtain ⟨rfl, rfl, rfl, rfl⟩ := H
        have hnb81 := NB371_381.out
        have hnc81 := NB381_371.out
        have hnb82 := NB371_382.out
        have hnc82 := NB382_371.out
        have hnb83 := NB371_393.out
        have hnc83 := NB393_371.out
        have hcz84_0 : w64.cell? ⟨gb371, 0, none⟩ = some (.slice none 0 0) := (blk_cell BK371.out 0).trans rfl
        have hcz84_1 : w64.cell? ⟨gb371, 1, none⟩ = some (.slice none 0 0) := (blk_cell BK371.out 1).trans rfl
        have hcz84_2 : w64.cell? ⟨gb371, 2, none⟩ = some (.slice none 0 0) := (blk_cell BK371.out 2).trans rfl
        have hfz84_0 := blk_frozen BK371.out 0
        have hfz84_1 := blk_frozen BK371.out 1
        have hfz84_2 := blk_frozen BK371.out 2
        go_wp2_with (go_step3)
        (try rw [Exit.noGoto_ret])
        refine bodyPost_ret (results_ct rfl _ _ gb371 61 #[.slice none 0 0, .slice none 0 0, .slice none 0 0] (0, 0) _ rfl (by (with_reducible repeat (first | refine blk_drewN ?_ _ | refine blk_drew ?_ | refine blk_alloc ?_ _)); refine blk_put (cs := #[.slice none 0 0, .slice none 0 0, .slice none 0 0]) ?_ 2 _ rfl; (with_reducible repeat (first | refine blk_drewN ?_ _ | refine blk_drew ?_ | refine blk_alloc ?_ _)); refine blk_put (cs := #[.slice none 0 0, .slice none 0 0, .slice none 0 0]) ?_ 1 _ rfl; (with_reducible repeat (first | refine blk_drewN ?_ _ | refine blk_drew ?_ | refine blk_alloc ?_ _)); refine blk_put (cs := #[.slice none 0 0, .slice none 0 0, .slice none 0 0]) ?_ 0 _ rfl; (with_reducible repeat (first | refine blk_drewN ?_ _ | refine blk_drew ?_ | refine blk_alloc ?_ _)); refine blk_far ?_ NB371_393.out _; (with_reducible repeat (first | refine blk_drewN ?_ _ | refine blk_drew ?_ | refine blk_alloc ?_ _)); refine blk_far ?_ NB371_393.out _; (with_reducible repeat (first | refine blk_drewN ?_ _ | refine blk_drew ?_ | refine blk_alloc ?_ _)); refine blk_far ?_ NB371_393.out _; (with_reducible repeat (first | refine blk_drewN ?_ _ | refine blk_drew ?_ | refine blk_alloc ?_ _)); exact BK371.out) Try.underlying61 rfl (by kernel_rfl)) rfl ?_
        exact ⟨_, _, _, fr_, by first | exact Kd.R_nil _ _ _ _ _ | exact Kd.N_nil _ _ _ _ _ | exact Kd.V_nil _ _ _ _ _ | exact Kd.Q_nil _ _ _ _ _ | exact Kd.S_nil _ _ _ _ _, by first | exact Kd.R_nil _ _ _ _ _ | exact Kd.N_nil _ _ _ _ _ | exact Kd.V_nil _ _ _ _ _ | exact Kd.Q_nil _ _ _ _ _ | exact Kd.S_nil _ _ _ _ _, by first | exact Kd.R_nil _ _ _ _ _ | exact Kd.N_nil _ _ _ _ _ | exact Kd.V_nil _ _ _ _ _ | exact Kd.Q_nil _ _ _ _ _ | exact Kd.S_nil _ _ _ _ _, hs_⟩
end Go.Proofs.Yteofgcmgncaojaa.PEuclidCommon
