/- The Go functions as Lean functions, each with the proof that its call comes to just that; written by a program of this session, by the words of the print. -/
import Derived.Test.YteofgcmgncaojaaPEuclidMadex0
import Derived.Test.YteofgcmgncaojaaPEuclidMadex2
import Derived.Test.YteofgcmgncaojaaPEuclidMadex8
namespace Go.Proofs.Yteofgcmgncaojaa.PEuclidMade
open Go.RowKit Go.Proofs.YteofgcmgncaojaaW.PrintWords Go.Proofs.YteofgcmgncaojaaW.PrintLast Go.Proofs.YteofgcmgncaojaaW.PrintMore
attribute [local go_sem] max2_int min2_int max_two min_two max_three min_three max_four min_four   -- for this text's walks alone
set_option linter.unusedVariables false
set_option linter.unusedSimpArgs false
/-! ### euclid_partial: function 34 -/
mutual
def euclid_partial.l0 : Nat → Int → Int → List Int → List Int → List Int → List Int → List Int → List Int → Option (List Int × List Int × List Int × Int)
 | 0, _, _, _, _, _, _, _, _ => none
 | k + 1, x0, x3, x384000, x384001, x384002, x385000, x385001, x385002 => if (wrap64 ((x384000.length : Int) - 1)) < x3 then (euclid_partial.j1 k x0 x3 true x384000 x384001 x384002 x385000 x385001 x385002) else (euclid_partial.j1 k x0 x3 ((x384000.length : Int) == 0) x384000 x384001 x384002 x385000 x385001 x385002)
def euclid_partial.j1 : Nat → Int → Int → Bool → List Int → List Int → List Int → List Int → List Int → List Int → Option (List Int × List Int × List Int × Int)
 | 0, _, _, _, _, _, _, _, _, _ => none
 | k + 1, x0, x3, x35, x384000, x384001, x384002, x385000, x385001, x385002 => if x35 = true then (some (x384000, x384001, x384002, 0)) else (if (x385000.length : Int) = 0 then (euclid_partial.l0 k x0 x3 x385000 x385001 x385002 x385000 x385001 x385002) else ((euclid_next.f k x0 x384000 x384001 x384002 x385000 x385001 x385002).bind fun bt385 => (if bt385.2.2.2 = 0 then (euclid_partial.l0 k x0 x3 x385000 x385001 x385002 bt385.1 bt385.2.1 bt385.2.2.1) else (some (([] : List Int), ([] : List Int), ([] : List Int), bt385.2.2.2)))))
end
def euclid_partial.f (k : Nat) (a0 : Int) (l1 : List Int) (l2 : List Int) (a3 : Int) : Option (List Int × List Int × List Int × Int) := (some (([1] : List Int) : List Int)).bind fun y374 => ((poly_Trim.f k l1).bind fun t377 => ((poly_Trim.f k l2).bind fun t380 => (euclid_partial.l0 k a0 a3 t377 y374 ([] : List Int) t380 ([] : List Int) y374)))
theorem euclid_partial.mono_l : ∀ k, (∀ y0 y1 y2 y3 y4 y5 y6 y7, LeO (euclid_partial.l0 k y0 y1 y2 y3 y4 y5 y6 y7) (euclid_partial.l0 (k + 1) y0 y1 y2 y3 y4 y5 y6 y7)) ∧ (∀ y0 y1 y2 y3 y4 y5 y6 y7 y8, LeO (euclid_partial.j1 k y0 y1 y2 y3 y4 y5 y6 y7 y8) (euclid_partial.j1 (k + 1) y0 y1 y2 y3 y4 y5 y6 y7 y8))
 | 0 => ⟨fun _ _ _ _ _ _ _ _ r h => by simp [euclid_partial.l0] at h, fun _ _ _ _ _ _ _ _ _ r h => by simp [euclid_partial.j1] at h⟩
 | k + 1 => by
  obtain ⟨ih0, ih1⟩ := euclid_partial.mono_l k
  refine ⟨?_, ?_⟩
  ·intro y0 y1 y2 y3 y4 y5 y6 y7
   unfold euclid_partial.l0
   repeat' first
   | (with_reducible exact ih0 _ _ _ _ _ _ _ _)
   | (with_reducible exact ih1 _ _ _ _ _ _ _ _ _)
   | (with_reducible exact euclid_next.mono _ _ _ _ _ _ _ _)
   | (with_reducible exact poly_Trim.mono _ _)
   | (with_reducible exact LeO.refl _)
   | (with_reducible exact LeO.none _)
   | (with_reducible refine LeO.ite ?_ ?_)
   | (with_reducible refine LeO.bind ?_ (fun _ => ?_))
   | exact ih0 _ _ _ _ _ _ _ _
   | exact ih1 _ _ _ _ _ _ _ _ _
   | exact euclid_next.mono _ _ _ _ _ _ _ _
   | exact poly_Trim.mono _ _
   | exact LeO.none _
   | refine LeO.ite ?_ ?_
   | refine LeO.bind ?_ (fun _ => ?_)
  ·intro y0 y1 y2 y3 y4 y5 y6 y7 y8
   unfold euclid_partial.j1
   repeat' first
   | (with_reducible exact ih0 _ _ _ _ _ _ _ _)
   | (with_reducible exact ih1 _ _ _ _ _ _ _ _ _)
   | (with_reducible exact euclid_next.mono _ _ _ _ _ _ _ _)
   | (with_reducible exact poly_Trim.mono _ _)
   | (with_reducible exact LeO.refl _)
   | (with_reducible exact LeO.none _)
   | (with_reducible refine LeO.ite ?_ ?_)
   | (with_reducible refine LeO.bind ?_ (fun _ => ?_))
   | exact ih0 _ _ _ _ _ _ _ _
   | exact ih1 _ _ _ _ _ _ _ _ _
   | exact euclid_next.mono _ _ _ _ _ _ _ _
   | exact poly_Trim.mono _ _
   | exact LeO.none _
   | refine LeO.ite ?_ ?_
   | refine LeO.bind ?_ (fun _ => ?_)
theorem euclid_partial.mono : ∀ a0 a1 a2 a3 k, LeO (euclid_partial.f k a0 a1 a2 a3) (euclid_partial.f (k + 1) a0 a1 a2 a3) := by
 intro a0 a1 a2 a3 k
 obtain ⟨ih0, ih1⟩ := euclid_partial.mono_l k
 unfold euclid_partial.f
 repeat' first
   | (with_reducible exact ih0 _ _ _ _ _ _ _ _)
   | (with_reducible exact ih1 _ _ _ _ _ _ _ _ _)
   | (with_reducible exact euclid_next.mono _ _ _ _ _ _ _ _)
   | (with_reducible exact poly_Trim.mono _ _)
   | (with_reducible exact LeO.refl _)
   | (with_reducible exact LeO.none _)
   | (with_reducible refine LeO.ite ?_ ?_)
   | (with_reducible refine LeO.bind ?_ (fun _ => ?_))
   | exact ih0 _ _ _ _ _ _ _ _
   | exact ih1 _ _ _ _ _ _ _ _ _
   | exact euclid_next.mono _ _ _ _ _ _ _ _
   | exact poly_Trim.mono _ _
   | exact LeO.none _
   | refine LeO.ite ?_ ?_
   | refine LeO.bind ?_ (fun _ => ?_)
set_option maxHeartbeats 8000000 in
set_option maxRecDepth 100000 in
theorem euclid_partial.calls (k : Nat) (a0 : Int) (A1 : Option Addr) (c1 : Nat) (l1 : List Int) (A2 : Option Addr) (c2 : Nat) (l2 : List Int) (a3 : Int) (r1 : List Int) (r2 : List Int) (r3 : List Int) (r4 : Int) (w : World) (hr1 : Kd.C (Kd.int .u64) w A1 l1.length l1) (hc1 : l1.length ≤ c1) (hr2 : Kd.C (Kd.int .u64) w A2 l2.length l2) (hc2 : l2.length ≤ c2) (h : euclid_partial.f k a0 l1 l2 a3 = some (r1, r2, r3, r4)) :
  Calls Try.prog 34 #[.int .u8 a0, .slice A1 l1.length c1, .slice A2 l2.length c2, .int .i64 a3] w fun e w' => ∃ v0_ v1_ v2_ : Value, e = .returned (.tuple #[.agg #[v0_, v1_, v2_], .int .i64 r4]) ∧ Kd.R (Kd.int .u64) 40 w' w.heap.size (fun _ => True) v0_ r1 ∧ Kd.R (Kd.int .u64) 40 w' w.heap.size (fun _ => True) v1_ r2 ∧ Kd.R (Kd.int .u64) 40 w' w.heap.size (fun _ => True) v2_ r3 ∧ Below w.heap.size w w' := by
 have hu61 := Try.underlying61
 have HR1 := Aside0.mk hr1
 have HC1 := Aside0.mk hc1
 clear hr1 hc1
 have HR2 := Aside0.mk hr2
 have HC2 := Aside0.mk hc2
 clear hr2 hc2
 have HB := A_ (Below.refl w.heap.size w)
 have H : ((some (([1] : List Int) : List Int)).bind fun y374 => ((poly_Trim.f k l1).bind fun t377 => ((poly_Trim.f k l2).bind fun t380 => (euclid_partial.l0 k a0 a3 t377 y374 ([] : List Int) t380 ([] : List Int) y374)))) = some (r1, r2, r3, r4) := h
 clear h
 obtain ⟨y374, hy374⟩ : ∃ y_ : List Int, y_ = (([1] : List Int)) := ⟨_, rfl⟩
 replace H : ((poly_Trim.f k l1).bind fun t377 => ((poly_Trim.f k l2).bind fun t380 => (euclid_partial.l0 k a0 a3 t377 y374 ([] : List Int) t380 ([] : List Int) y374))) = some (r1, r2, r3, r4) := by first | (rw [hy374]; with_reducible exact H) | (have H2_ := (Option.bind_some _ _).symm.trans H; rw [hy374]; with_reducible exact H2_) | (have H2_ := (Option.bind_some _ _).symm.trans H; with_reducible exact H2_) | with_reducible exact H | (rw [hy374]; exact H) | exact H
 have Ny374 := Aside0.mk hy374
 clear hy374
 replace H := Option.bind_eq_some_iff.mp H
 obtain ⟨t377, A50, H⟩ := H
 replace H : ((poly_Trim.f k l2).bind fun t380 => (euclid_partial.l0 k a0 a3 t377 y374 ([] : List Int) t380 ([] : List Int) y374)) = some (r1, r2, r3, r4) := H
 have A5 := Aside0.mk A50
 clear A50
 replace H := Option.bind_eq_some_iff.mp H
 obtain ⟨t380, A60, H⟩ := H
 replace H : (euclid_partial.l0 k a0 a3 t377 y374 ([] : List Int) t380 ([] : List Int) y374) = some (r1, r2, r3, r4) := H
 have A6 := Aside0.mk A60
 clear A60
 have H' := Aside0.mk H
 clear H
 go_enter Try.func34, Try.ntmps34
 go_wp2_with (first | go_step3 | ((with_reducible refine gate_dst (N := 8) rfl ?_); (try (refine gate_guard (by rfl) ?_; dsimp only)); refine box_event ?hg (N := 8) ?hd (cs := #[.slice none 0 0, .slice none 0 0, .slice none 0 0]) (t := 61) ?hr ?_; (case hd => rfl); (case hg => rfl); (case hr => first | (go_simp; done) | (go_simp; rfl)); intro gb373 hg w7 hbox hb; have n0_ := A_ (below_step hb_ hb); have n1_ := A_ (hbox); have n2_ := A_ ((by rw [hg]; exact (below_size hb_) : w.heap.size ≤ gb373)); have n3_ := A_ ((by rw [hg]; exact (below_size hb_) : w.heap.size ≤ gb373)); clear HB; have HB := n0_; have BK373 := n1_; have GW373 := n2_; have GE373 := n3_; clear n0_ n1_ n2_ n3_; clear hb hbox hg) | ((with_reducible refine gate_dst (N := 15) rfl ?_); (try (refine gate_guard (by rfl) ?_; dsimp only)); refine Kd.R_lit (Kd.int .u64) _ 40 ?hg (N := 15) ?hd (xs := ([1] : List Int)) (inner := [.int .u64 1]) (ok := fun _ => True) (okp := fun _ => True) ?hr ?hp (fun _ hk => hk) trivial (Below.refl _ _) (Nat.le_refl _) (by simp) ?_; (case hd => rfl); (case hg => rfl); (case hr => first | (go_simp; done) | (go_simp; rfl)); (case hp => exact (Reps.one (show Kd.M (Kd.int .u64) _ _ _ 1 [.int .u64 1] from rfl) (Reps.none _ _))); intro v375 w8 ho9 hb hg_ hnew_; clear hg_ hnew_; (first | rw [← Ny374.out] at ho9 | (simp only [Int.reduceToNat] at ho9; rw [← Ny374.out] at ho9)); have n0_ := A_ (Kd.R_lower (Kd.R_mono (ok' := fun _ => True) ho9 (fun _ _ => trivial)) (below_size hs_)); have n1_ := A_ (blk_below (g := gb373) (o := .cells #[.slice none 0 0, .slice none 0 0, .slice none 0 0] 61 (0, 0)) (nb_ BK373) hb); have n2_ := A_ (below_step hs_ hb); clear BK373 HB; have HO376 := n0_; have BK373 := n1_; have HB := n2_; clear n0_ n1_ n2_; clear hb ho9) | ((with_reducible refine gate_callee (f := 28) rfl ?_); refine goesM_ (some 17) Try.func28 #[.slice A1 l1.length c1] ?_; (with_reducible refine (poly_Trim.calls k _ _ l1 t377 _ ?side1 ?side2 A5.out).mono ?_); (case side1 => repeat (first | exact (Kd.C_below HR1.out HB.out) | (with_reducible refine Kd.C_alloc ?_ _) | (with_reducible refine Kd.C_drewN ?_ _) | (with_reducible refine Kd.C_drew ?_))); (case side2 => exact HC1.out); rintro e w10 ⟨v378, rfl, ho0, hb⟩; refine ⟨_, rfl, ?_⟩; have n0_ := A_ (Kd.R_below (nR_ HO376) hb); have n1_ := A_ (Kd.R_lower (Kd.R_mono (ok' := fun _ => True) ho0 (fun _ _ => trivial)) (below_size hs_)); have n2_ := A_ (blk_below (g := gb373) (o := .cells #[.slice none 0 0, .slice none 0 0, .slice none 0 0] 61 (0, 0)) (nb_ BK373) hb); have n3_ := A_ (below_step hs_ hb); clear HO376 BK373 HB; have HO376 := n0_; have HO379 := n1_; have BK373 := n2_; have HB := n3_; clear n0_ n1_ n2_ n3_; (try clear hb); (try clear ho0); obtain ⟨Ao11, co11, eo11⟩ := Kd.R_slice HO376.out; subst eo11; obtain ⟨Ao12, co12, eo12⟩ := Kd.R_slice HO379.out; subst eo12) | ((with_reducible refine gate_callee (f := 28) rfl ?_); refine goesM_ (some 21) Try.func28 #[.slice A2 l2.length c2] ?_; (with_reducible refine (poly_Trim.calls k _ _ l2 t380 _ ?side1 ?side2 A6.out).mono ?_); (case side1 => repeat (first | exact (Kd.C_below HR2.out HB.out) | (with_reducible refine Kd.C_alloc ?_ _) | (with_reducible refine Kd.C_drewN ?_ _) | (with_reducible refine Kd.C_drew ?_))); (case side2 => exact HC2.out); rintro e w13 ⟨v381, rfl, ho0, hb⟩; refine ⟨_, rfl, ?_⟩; have n0_ := A_ (Kd.R_below (nR_ HO376) hb); have n1_ := A_ (Kd.R_below (nR_ HO379) hb); have n2_ := A_ (Kd.R_lower (Kd.R_mono (ok' := fun _ => True) ho0 (fun _ _ => trivial)) (below_size hs_)); have n3_ := A_ (blk_below (g := gb373) (o := .cells #[.slice none 0 0, .slice none 0 0, .slice none 0 0] 61 (0, 0)) (nb_ BK373) hb); have n4_ := A_ (below_step hs_ hb); clear HO376 HO379 BK373 HB; have HO376 := n0_; have HO379 := n1_; have HO382 := n2_; have BK373 := n3_; have HB := n4_; clear n0_ n1_ n2_ n3_ n4_; (try clear hb); (try clear ho0); obtain ⟨Ao14, co14, eo14⟩ := Kd.R_slice HO382.out; subst eo14) | ((with_reducible refine gate_dst (N := 11) rfl ?_); (try (refine gate_guard (by rfl) ?_; dsimp only)); refine box_event ?hg (N := 11) ?hd (cs := #[.slice none 0 0, .slice none 0 0, .slice none 0 0]) (t := 61) ?hr ?_; (case hd => rfl); (case hg => rfl); (case hr => first | (go_simp; done) | (go_simp; rfl)); intro gb383 hg w15 hbox hb; have n0_ := A_ (Kd.R_below (nR_ HO376) hb); have n1_ := A_ (Kd.R_below (nR_ HO379) hb); have n2_ := A_ (Kd.R_below (nR_ HO382) hb); have n3_ := A_ (blk_below (g := gb373) (o := .cells #[.slice none 0 0, .slice none 0 0, .slice none 0 0] 61 (0, 0)) (nb_ BK373) hb); have n4_ := A_ (below_step hs_ hb); have n5_ := A_ (hbox); have n6_ := A_ ((by rw [hg]; exact (below_size hs_) : w.heap.size ≤ gb383)); have n7_ := A_ ((by rw [hg]; exact (below_size hs_) : w.heap.size ≤ gb383)); have n8_ := A_ ((by rw [hg]; exact Nat.ne_of_lt (blk_lt (g := gb373) (o := .cells #[.slice none 0 0, .slice none 0 0, .slice none 0 0] 61 (0, 0)) (nb_ BK373)) : gb373 ≠ gb383)); have n9_ := A_ ((by rw [hg]; exact Nat.ne_of_gt (blk_lt (g := gb373) (o := .cells #[.slice none 0 0, .slice none 0 0, .slice none 0 0] 61 (0, 0)) (nb_ BK373)) : gb383 ≠ gb373)); clear HO376 HO379 HO382 BK373 HB; have HO376 := n0_; have HO379 := n1_; have HO382 := n2_; have BK373 := n3_; have HB := n4_; have BK383 := n5_; have GW383 := n6_; have GE383 := n7_; have NB373_383 := n8_; have NB383_373 := n9_; clear n0_ n1_ n2_ n3_ n4_ n5_ n6_ n7_ n8_ n9_; clear hb hbox hg) | ((with_reducible refine gate_dst (N := 12) rfl ?_); (try (refine gate_guard (by rfl) ?_; dsimp only)); refine box_event ?hg (N := 12) ?hd (cs := #[.slice none 0 0, .slice none 0 0, .slice none 0 0]) (t := 61) ?hr ?_; (case hd => rfl); (case hg => rfl); (case hr => first | (go_simp; done) | (go_simp; rfl)); intro gb384 hg w16 hbox hb; have n0_ := A_ (Kd.R_below (nR_ HO376) hb); have n1_ := A_ (Kd.R_below (nR_ HO379) hb); have n2_ := A_ (Kd.R_below (nR_ HO382) hb); have n3_ := A_ (blk_below (g := gb373) (o := .cells #[.slice none 0 0, .slice none 0 0, .slice none 0 0] 61 (0, 0)) (nb_ BK373) hb); have n4_ := A_ (blk_below (g := gb383) (o := .cells #[.slice none 0 0, .slice none 0 0, .slice none 0 0] 61 (0, 0)) (nb_ BK383) hb); have n5_ := A_ (below_step hs_ hb); have n6_ := A_ (hbox); have n7_ := A_ ((by rw [hg]; exact (below_size hs_) : w.heap.size ≤ gb384)); have n8_ := A_ ((by rw [hg]; exact (below_size hs_) : w.heap.size ≤ gb384)); have n9_ := A_ ((by rw [hg]; exact Nat.ne_of_lt (blk_lt (g := gb373) (o := .cells #[.slice none 0 0, .slice none 0 0, .slice none 0 0] 61 (0, 0)) (nb_ BK373)) : gb373 ≠ gb384)); have n10_ := A_ ((by rw [hg]; exact Nat.ne_of_gt (blk_lt (g := gb373) (o := .cells #[.slice none 0 0, .slice none 0 0, .slice none 0 0] 61 (0, 0)) (nb_ BK373)) : gb384 ≠ gb373)); have n11_ := A_ ((by rw [hg]; exact Nat.ne_of_lt (blk_lt (g := gb383) (o := .cells #[.slice none 0 0, .slice none 0 0, .slice none 0 0] 61 (0, 0)) (nb_ BK383)) : gb383 ≠ gb384)); have n12_ := A_ ((by rw [hg]; exact Nat.ne_of_gt (blk_lt (g := gb383) (o := .cells #[.slice none 0 0, .slice none 0 0, .slice none 0 0] 61 (0, 0)) (nb_ BK383)) : gb384 ≠ gb383)); clear HO376 HO379 HO382 BK373 BK383 HB; have HO376 := n0_; have HO379 := n1_; have HO382 := n2_; have BK373 := n3_; have BK383 := n4_; have HB := n5_; have BK384 := n6_; have GW384 := n7_; have GE384 := n8_; have NB373_384 := n9_; have NB384_373 := n10_; have NB383_384 := n11_; have NB384_383 := n12_; clear n0_ n1_ n2_ n3_ n4_ n5_ n6_ n7_ n8_ n9_ n10_ n11_ n12_; clear hb hbox hg; have hnb17 := NB383_373.out; have hnc17 := NB373_383.out; have hnb18 := NB383_384.out; have hnc18 := NB384_383.out; have hcz19_0 : w16.cell? ⟨gb383, 0, none⟩ = some (.slice none 0 0) := (blk_cell BK383.out 0).trans rfl; have hcz19_1 : w16.cell? ⟨gb383, 1, none⟩ = some (.slice none 0 0) := (blk_cell BK383.out 1).trans rfl; have hcz19_2 : w16.cell? ⟨gb383, 2, none⟩ = some (.slice none 0 0) := (blk_cell BK383.out 2).trans rfl; have hfz19_0 := blk_frozen BK383.out 0; have hfz19_1 := blk_frozen BK383.out 1; have hfz19_2 := blk_frozen BK383.out 2; have hnb20 := NB384_373.out; have hnc20 := NB373_384.out; have hcz21_0 : w16.cell? ⟨gb384, 0, none⟩ = some (.slice none 0 0) := (blk_cell BK384.out 0).trans rfl; have hcz21_1 : w16.cell? ⟨gb384, 1, none⟩ = some (.slice none 0 0) := (blk_cell BK384.out 1).trans rfl; have hcz21_2 : w16.cell? ⟨gb384, 2, none⟩ = some (.slice none 0 0) := (blk_cell BK384.out 2).trans rfl; have hfz21_0 := blk_frozen BK384.out 0; have hfz21_1 := blk_frozen BK384.out 1; have hfz21_2 := blk_frozen BK384.out 2))
 go_loopg [] k (fun kq w' => ∃ (x384000_1 : List Int) (x384001_1 : List Int) (x384002_1 : List Int) (x385000_1 : List Int) (x385001_1 : List Int) (x385002_1 : List Int) (u384000 : Value) (u384001 : Value) (u384002 : Value) (u385000 : Value) (u385001 : Value) (u385002 : Value), Aside0 (euclid_partial.l0 kq a0 a3 x384000_1 x384001_1 x384002_1 x385000_1 x385001_1 x385002_1 = some (r1, r2, r3, r4)) ∧ Aside0 (kq ≤ k) ∧ Aside0 (Kd.R (Kd.int .u64) 40 w' w.heap.size (fun _ => True) u384000 x384000_1) ∧ Aside0 (Kd.R (Kd.int .u64) 40 w' w.heap.size (fun _ => True) u384001 x384001_1) ∧ Aside0 (Kd.R (Kd.int .u64) 40 w' w.heap.size (fun _ => True) u384002 x384002_1) ∧ Aside0 (Kd.R (Kd.int .u64) 40 w' w.heap.size (fun _ => True) u385000 x385000_1) ∧ Aside0 (Kd.R (Kd.int .u64) 40 w' w.heap.size (fun _ => True) u385001 x385001_1) ∧ Aside0 (Kd.R (Kd.int .u64) 40 w' w.heap.size (fun _ => True) u385002 x385002_1) ∧ Aside0 (w'.heap[gb373]? = some (.cells #[(.slice none 0 0), (.slice none 0 0), (.slice none 0 0)] 61 (0, 0))) ∧ Aside0 (w'.heap[gb383]? = some (.cells #[u384000, u384001, u384002] 61 (0, 0))) ∧ Aside0 (w'.heap[gb384]? = some (.cells #[u385000, u385001, u385002] 61 (0, 0))) ∧ Aside0 (Below w.heap.size w w'))
 case atStart => exact ⟨(t377), (y374), (([] : List Int)), (t380), (([] : List Int)), (y374), (.slice Ao12 t377.length co12), (.slice Ao11 y374.length co11), (.slice none 0 0), (.slice Ao14 t380.length co14), (.slice none 0 0), (.slice Ao11 y374.length co11), H', ⟨Nat.le_refl _⟩, ⟨by (with_reducible repeat (first | apply Kd.R_alloc | apply Kd.R_drewN | apply Kd.R_drew)); exact Kd.R_mono (Kd.R_far (p := ⟨gb384, 2, none⟩) (Kd.R_far (p := ⟨gb384, 1, none⟩) (Kd.R_far (p := ⟨gb384, 0, none⟩) (Kd.R_far (p := ⟨gb383, 2, none⟩) (Kd.R_far (p := ⟨gb383, 1, none⟩) (Kd.R_far (p := ⟨gb383, 0, none⟩) (Kd.R_types (Kd.R_types HO379.out BK383.out (by decide)) BK384.out (by decide)) (fun _ hk => hk.1.2) (.slice Ao12 t377.length co12)) (fun _ hk => hk.1.2) (.slice Ao11 y374.length co11)) (fun _ hk => hk.1.2) (.slice none 0 0)) (fun _ hk => hk.2) (.slice Ao14 t380.length co14)) (fun _ hk => hk.2) (.slice none 0 0)) (fun _ hk => hk.2) (.slice Ao11 y374.length co11)) (fun _ hk => trivial)⟩, ⟨by (with_reducible repeat (first | apply Kd.R_alloc | apply Kd.R_drewN | apply Kd.R_drew)); exact Kd.R_mono (Kd.R_far (p := ⟨gb384, 2, none⟩) (Kd.R_far (p := ⟨gb384, 1, none⟩) (Kd.R_far (p := ⟨gb384, 0, none⟩) (Kd.R_far (p := ⟨gb383, 2, none⟩) (Kd.R_far (p := ⟨gb383, 1, none⟩) (Kd.R_far (p := ⟨gb383, 0, none⟩) (Kd.R_types (Kd.R_types HO376.out BK383.out (by decide)) BK384.out (by decide)) (fun _ hk => hk.1.2) (.slice Ao12 t377.length co12)) (fun _ hk => hk.1.2) (.slice Ao11 y374.length co11)) (fun _ hk => hk.1.2) (.slice none 0 0)) (fun _ hk => hk.2) (.slice Ao14 t380.length co14)) (fun _ hk => hk.2) (.slice none 0 0)) (fun _ hk => hk.2) (.slice Ao11 y374.length co11)) (fun _ hk => trivial)⟩, ⟨by first | exact Kd.R_nil _ _ _ _ _ | exact Kd.N_nil _ _ _ _ _ | exact Kd.V_nil _ _ _ _ _ | exact Kd.Q_nil _ _ _ _ _ | exact Kd.S_nil _ _ _ _ _⟩, ⟨by (with_reducible repeat (first | apply Kd.R_alloc | apply Kd.R_drewN | apply Kd.R_drew)); exact Kd.R_mono (Kd.R_far (p := ⟨gb384, 2, none⟩) (Kd.R_far (p := ⟨gb384, 1, none⟩) (Kd.R_far (p := ⟨gb384, 0, none⟩) (Kd.R_far (p := ⟨gb383, 2, none⟩) (Kd.R_far (p := ⟨gb383, 1, none⟩) (Kd.R_far (p := ⟨gb383, 0, none⟩) (Kd.R_types (Kd.R_types HO382.out BK383.out (by decide)) BK384.out (by decide)) (fun _ hk => hk.1.2) (.slice Ao12 t377.length co12)) (fun _ hk => hk.1.2) (.slice Ao11 y374.length co11)) (fun _ hk => hk.1.2) (.slice none 0 0)) (fun _ hk => hk.2) (.slice Ao14 t380.length co14)) (fun _ hk => hk.2) (.slice none 0 0)) (fun _ hk => hk.2) (.slice Ao11 y374.length co11)) (fun _ hk => trivial)⟩, ⟨by first | exact Kd.R_nil _ _ _ _ _ | exact Kd.N_nil _ _ _ _ _ | exact Kd.V_nil _ _ _ _ _ | exact Kd.Q_nil _ _ _ _ _ | exact Kd.S_nil _ _ _ _ _⟩, ⟨by (with_reducible repeat (first | apply Kd.R_alloc | apply Kd.R_drewN | apply Kd.R_drew)); exact Kd.R_mono (Kd.R_far (p := ⟨gb384, 2, none⟩) (Kd.R_far (p := ⟨gb384, 1, none⟩) (Kd.R_far (p := ⟨gb384, 0, none⟩) (Kd.R_far (p := ⟨gb383, 2, none⟩) (Kd.R_far (p := ⟨gb383, 1, none⟩) (Kd.R_far (p := ⟨gb383, 0, none⟩) (Kd.R_types (Kd.R_types HO376.out BK383.out (by decide)) BK384.out (by decide)) (fun _ hk => hk.1.2) (.slice Ao12 t377.length co12)) (fun _ hk => hk.1.2) (.slice Ao11 y374.length co11)) (fun _ hk => hk.1.2) (.slice none 0 0)) (fun _ hk => hk.2) (.slice Ao14 t380.length co14)) (fun _ hk => hk.2) (.slice none 0 0)) (fun _ hk => hk.2) (.slice Ao11 y374.length co11)) (fun _ hk => trivial)⟩, ⟨by (with_reducible repeat (first | refine blk_drewN ?_ _ | refine blk_drew ?_ | refine blk_alloc ?_ _)); refine blk_far ?_ NB373_384.out _; (with_reducible repeat (first | refine blk_drewN ?_ _ | refine blk_drew ?_ | refine blk_alloc ?_ _)); refine blk_far ?_ NB373_384.out _; (with_reducible repeat (first | refine blk_drewN ?_ _ | refine blk_drew ?_ | refine blk_alloc ?_ _)); refine blk_far ?_ NB373_384.out _; (with_reducible repeat (first | refine blk_drewN ?_ _ | refine blk_drew ?_ | refine blk_alloc ?_ _)); refine blk_far ?_ NB373_383.out _; (with_reducible repeat (first | refine blk_drewN ?_ _ | refine blk_drew ?_ | refine blk_alloc ?_ _)); refine blk_far ?_ NB373_383.out _; (with_reducible repeat (first | refine blk_drewN ?_ _ | refine blk_drew ?_ | refine blk_alloc ?_ _)); refine blk_far ?_ NB373_383.out _; (with_reducible repeat (first | refine blk_drewN ?_ _ | refine blk_drew ?_ | refine blk_alloc ?_ _)); exact BK373.out⟩, ⟨by (with_reducible repeat (first | refine blk_drewN ?_ _ | refine blk_drew ?_ | refine blk_alloc ?_ _)); refine blk_far ?_ NB383_384.out _; (with_reducible repeat (first | refine blk_drewN ?_ _ | refine blk_drew ?_ | refine blk_alloc ?_ _)); refine blk_far ?_ NB383_384.out _; (with_reducible repeat (first | refine blk_drewN ?_ _ | refine blk_drew ?_ | refine blk_alloc ?_ _)); refine blk_far ?_ NB383_384.out _; (with_reducible repeat (first | refine blk_drewN ?_ _ | refine blk_drew ?_ | refine blk_alloc ?_ _)); refine blk_put (cs := #[.slice Ao12 t377.length co12, .slice Ao11 y374.length co11, .slice none 0 0]) ?_ 2 _ rfl; (with_reducible repeat (first | refine blk_drewN ?_ _ | refine blk_drew ?_ | refine blk_alloc ?_ _)); refine blk_put (cs := #[.slice Ao12 t377.length co12, .slice none 0 0, .slice none 0 0]) ?_ 1 _ rfl; (with_reducible repeat (first | refine blk_drewN ?_ _ | refine blk_drew ?_ | refine blk_alloc ?_ _)); refine blk_put (cs := #[.slice none 0 0, .slice none 0 0, .slice none 0 0]) ?_ 0 _ rfl; (with_reducible repeat (first | refine blk_drewN ?_ _ | refine blk_drew ?_ | refine blk_alloc ?_ _)); exact BK383.out⟩, ⟨by (with_reducible repeat (first | refine blk_drewN ?_ _ | refine blk_drew ?_ | refine blk_alloc ?_ _)); refine blk_put (cs := #[.slice Ao14 t380.length co14, .slice none 0 0, .slice none 0 0]) ?_ 2 _ rfl; (with_reducible repeat (first | refine blk_drewN ?_ _ | refine blk_drew ?_ | refine blk_alloc ?_ _)); refine blk_put (cs := #[.slice Ao14 t380.length co14, .slice none 0 0, .slice none 0 0]) ?_ 1 _ rfl; (with_reducible repeat (first | refine blk_drewN ?_ _ | refine blk_drew ?_ | refine blk_alloc ?_ _)); refine blk_put (cs := #[.slice none 0 0, .slice none 0 0, .slice none 0 0]) ?_ 0 _ rfl; (with_reducible repeat (first | refine blk_drewN ?_ _ | refine blk_drew ?_ | refine blk_alloc ?_ _)); refine blk_far ?_ NB384_383.out _; (with_reducible repeat (first | refine blk_drewN ?_ _ | refine blk_drew ?_ | refine blk_alloc ?_ _)); refine blk_far ?_ NB384_383.out _; (with_reducible repeat (first | refine blk_drewN ?_ _ | refine blk_drew ?_ | refine blk_alloc ?_ _)); refine blk_far ?_ NB384_383.out _; (with_reducible repeat (first | refine blk_drewN ?_ _ | refine blk_drew ?_ | refine blk_alloc ?_ _)); exact BK384.out⟩, ⟨hs_⟩⟩
 case round =>
  clear H'
  try clear c1
  try clear c2
  try clear p2
  try clear c3
  try clear c17
  try clear c18
  try clear c20
  try clear hcz19_0
  try clear hcz19_1
  try clear hcz19_2
  try clear hcz21_0
  try clear hcz21_1
  try clear hcz21_2
  try clear hfz19_0
  try clear hfz19_1
  try clear hfz19_2
  try clear hfz21_0
  try clear hfz21_1
  try clear hfz21_2
  obtain ⟨x384000_1, x384001_1, x384002_1, x385000_1, x385001_1, x385002_1, u384000, u384001, u384002, u385000, u385001, u385002, HA, HK1, HO_384000, HO_384001, HO_384002, HO_385000, HO_385001, HO_385002, BK373, BK383, BK384, HB⟩ := hrel
  cases gk with
  | zero => exact absurd HA.out (by simp [euclid_partial.l0])
  | succ k1 =>
   have H := HA.out
   clear HA
   simp only [euclid_partial.l0] at H
   have HC22 := Aside0.mk H
   clear H
   go_upto_region 3 with (fail)
   go_cut [35] (fun v35 wc => ∃ (kq : Nat) (x35_21 : Bool), v35 = .bool x35_21 ∧ Aside0 (euclid_partial.j1 kq a0 a3 x35_21 x384000_1 x384001_1 x384002_1 x385000_1 x385001_1 x385002_1 = some (r1, r2, r3, r4)) ∧ Aside0 (kq ≤ k1) ∧ Aside0 (Kd.R (Kd.int .u64) 40 wc w.heap.size (fun _ => True) u384000 x384000_1) ∧ Aside0 (Kd.R (Kd.int .u64) 40 wc w.heap.size (fun _ => True) u384001 x384001_1) ∧ Aside0 (Kd.R (Kd.int .u64) 40 wc w.heap.size (fun _ => True) u384002 x384002_1) ∧ Aside0 (Kd.R (Kd.int .u64) 40 wc w.heap.size (fun _ => True) u385000 x385000_1) ∧ Aside0 (Kd.R (Kd.int .u64) 40 wc w.heap.size (fun _ => True) u385001 x385001_1) ∧ Aside0 (Kd.R (Kd.int .u64) 40 wc w.heap.size (fun _ => True) u385002 x385002_1) ∧ Aside0 (wc.heap[gb373]? = some (.cells #[(.slice none 0 0), (.slice none 0 0), (.slice none 0 0)] 61 (0, 0))) ∧ Aside0 (wc.heap[gb383]? = some (.cells #[u384000, u384001, u384002] 61 (0, 0))) ∧ Aside0 (wc.heap[gb384]? = some (.cells #[u385000, u385001, u385002] 61 (0, 0))) ∧ Aside0 (Below w.heap.size w wc))
   case first =>
    have H := HC22.out
    clear HC22
    by_cases c23 : (wrap64 ((x384000_1.length : Int) - 1)) < a3
    ·rw [if_pos c23] at H
     have c23b0 : decide ((wrap64 ((x384000_1.length : Int) - 1)) < a3) = true := decide_eq_true c23
     clear c23
     (first | rw [c23b0] | (simp only [i64_w, i32_w]; first | rw [c23b0]) | skip)
     have H' := Aside0.mk H
     clear H
     have hnb24 := NB383_373.out
     have hnc24 := NB373_383.out
     have hnb25 := NB383_384.out
     have hnc25 := NB384_383.out
     have hcz26_0 : wr.cell? ⟨gb383, 0, none⟩ = some (u384000) := (blk_cell BK383.out 0).trans rfl
     have hcz26_1 : wr.cell? ⟨gb383, 1, none⟩ = some (u384001) := (blk_cell BK383.out 1).trans rfl
     have hcz26_2 : wr.cell? ⟨gb383, 2, none⟩ = some (u384002) := (blk_cell BK383.out 2).trans rfl
     have hfz26_0 := blk_frozen BK383.out 0
     have hfz26_1 := blk_frozen BK383.out 1
     have hfz26_2 := blk_frozen BK383.out 2
     obtain ⟨Ao27, co27, eo27⟩ := Kd.R_slice HO_384000.out
     subst eo27
     go_wp2_with (go_step3)
     go_meet
     case rel => exact ⟨_, (true), (fs_), H', ⟨by have := HK1.out; first | omega | exact Nat.le_refl _⟩, ⟨mR_ HO_384000.out⟩, ⟨mR_ HO_384001.out⟩, ⟨mR_ HO_384002.out⟩, ⟨mR_ HO_385000.out⟩, ⟨mR_ HO_385001.out⟩, ⟨mR_ HO_385002.out⟩, ⟨mb_ BK373.out⟩, ⟨mb_ BK383.out⟩, ⟨mb_ BK384.out⟩, ⟨hs_⟩⟩
    ·rw [if_neg c23] at H
     have c23b0 : decide ((wrap64 ((x384000_1.length : Int) - 1)) < a3) = false := decide_eq_false c23
     clear c23
     (first | rw [c23b0] | (simp only [i64_w, i32_w]; first | rw [c23b0]) | skip)
     have H' := Aside0.mk H
     clear H
     have hnb28 := NB383_373.out
     have hnc28 := NB373_383.out
     have hnb29 := NB383_384.out
     have hnc29 := NB384_383.out
     have hcz30_0 : wr.cell? ⟨gb383, 0, none⟩ = some (u384000) := (blk_cell BK383.out 0).trans rfl
     have hcz30_1 : wr.cell? ⟨gb383, 1, none⟩ = some (u384001) := (blk_cell BK383.out 1).trans rfl
     have hcz30_2 : wr.cell? ⟨gb383, 2, none⟩ = some (u384002) := (blk_cell BK383.out 2).trans rfl
     have hfz30_0 := blk_frozen BK383.out 0
     have hfz30_1 := blk_frozen BK383.out 1
     have hfz30_2 := blk_frozen BK383.out 2
     obtain ⟨Ao31, co31, eo31⟩ := Kd.R_slice HO_384000.out
     subst eo31
     go_wp2_with (go_step3)
     go_meet
     case rel => exact ⟨_, (((x384000_1.length : Int) == 0)), (fs_), H', ⟨by have := HK1.out; first | omega | exact Nat.le_refl _⟩, ⟨mR_ HO_384000.out⟩, ⟨mR_ HO_384001.out⟩, ⟨mR_ HO_384002.out⟩, ⟨mR_ HO_385000.out⟩, ⟨mR_ HO_385001.out⟩, ⟨mR_ HO_385002.out⟩, ⟨mb_ BK373.out⟩, ⟨mb_ BK383.out⟩, ⟨mb_ BK384.out⟩, ⟨hs_⟩⟩
   case rest =>
    clear HC22
    try clear c1
    try clear c2
    try clear p2
    try clear c3
    try clear p6
    try clear c17
    try clear c18
    try clear c20
    try clear c23
    try clear c23b0
    try clear c24
    try clear c25
    try clear c28
    try clear c29
    try clear hcz19_0
    try clear hcz19_1
    try clear hcz19_2
    try clear hcz21_0
    try clear hcz21_1
    try clear hcz21_2
    try clear hcz26_0
    try clear hcz26_1
    try clear hcz26_2
    try clear hcz30_0
    try clear hcz30_1
    try clear hcz30_2
    try clear hfz19_0
    try clear hfz19_1
    try clear hfz19_2
    try clear hfz21_0
    try clear hfz21_1
    try clear hfz21_2
    try clear hfz26_0
    try clear hfz26_1
    try clear hfz26_2
    try clear hfz30_0
    try clear hfz30_1
    try clear hfz30_2
    try clear p2
    obtain ⟨kq, x35_21, rfl, HA, HJ21, HO_384000, HO_384001, HO_384002, HO_385000, HO_385001, HO_385002, BK373, BK383, BK384, HB⟩ := hcut
    cases kq with
    | zero => exact absurd HA.out (by simp [euclid_partial.j1])
    | succ kj21 =>
     have H := HA.out
     clear HA
     simp only [euclid_partial.j1] at H
     by_cases c32 : x35_21 = true
     ·subst c32
      have H1 : (some (x384000_1, x384001_1, x384002_1, 0)) = some (r1, r2, r3, r4) := by rw [if_pos rfl] at H; exact H
      clear H
      have H := H1
      clear H1
      simp only [Option.some.injEq, Prod.mk.injEq] at H
      obtain ⟨rfl, rfl, rfl, rfl⟩ := H
      have hnb33 := NB383_373.out
      have hnc33 := NB373_383.out
      have hnb34 := NB383_384.out
      have hnc34 := NB384_383.out
      have hcz35_0 : wc.cell? ⟨gb383, 0, none⟩ = some (u384000) := (blk_cell BK383.out 0).trans rfl
      have hcz35_1 : wc.cell? ⟨gb383, 1, none⟩ = some (u384001) := (blk_cell BK383.out 1).trans rfl
      have hcz35_2 : wc.cell? ⟨gb383, 2, none⟩ = some (u384002) := (blk_cell BK383.out 2).trans rfl
      have hfz35_0 := blk_frozen BK383.out 0
      have hfz35_1 := blk_frozen BK383.out 1
      have hfz35_2 := blk_frozen BK383.out 2
      obtain ⟨Ao36, co36, eo36⟩ := Kd.R_slice HO_384000.out
      subst eo36
      have hnb37 := NB373_384.out
      have hnc37 := NB384_373.out
      have hcz38_0 : wc.cell? ⟨gb373, 0, none⟩ = some (.slice none 0 0) := (blk_cell BK373.out 0).trans rfl
      have hcz38_1 : wc.cell? ⟨gb373, 1, none⟩ = some (.slice none 0 0) := (blk_cell BK373.out 1).trans rfl
      have hcz38_2 : wc.cell? ⟨gb373, 2, none⟩ = some (.slice none 0 0) := (blk_cell BK373.out 2).trans rfl
      have hfz38_0 := blk_frozen BK373.out 0
      have hfz38_1 := blk_frozen BK373.out 1
      have hfz38_2 := blk_frozen BK373.out 2
      obtain ⟨Ao39, co39, eo39⟩ := Kd.R_slice HO_384001.out
      subst eo39
      obtain ⟨Ao40, co40, eo40⟩ := Kd.R_slice HO_384002.out
      subst eo40
      go_wp2_with (go_step3)
      (try rw [Exit.noGoto_ret])
      refine bodyPost_ret (results_ct rfl _ _ gb373 61 #[.slice Ao36 x384000_1.length co36, .slice Ao39 x384001_1.length co39, .slice Ao40 x384002_1.length co40] (0, 0) _ rfl (by (with_reducible repeat (first | refine blk_drewN ?_ _ | refine blk_drew ?_ | refine blk_alloc ?_ _)); refine blk_put (cs := #[.slice Ao36 x384000_1.length co36, .slice Ao39 x384001_1.length co39, .slice none 0 0]) ?_ 2 _ rfl; (with_reducible repeat (first | refine blk_drewN ?_ _ | refine blk_drew ?_ | refine blk_alloc ?_ _)); refine blk_put (cs := #[.slice Ao36 x384000_1.length co36, .slice none 0 0, .slice none 0 0]) ?_ 1 _ rfl; (with_reducible repeat (first | refine blk_drewN ?_ _ | refine blk_drew ?_ | refine blk_alloc ?_ _)); refine blk_put (cs := #[.slice none 0 0, .slice none 0 0, .slice none 0 0]) ?_ 0 _ rfl; (with_reducible repeat (first | refine blk_drewN ?_ _ | refine blk_drew ?_ | refine blk_alloc ?_ _)); exact BK373.out) Try.underlying61 rfl (by kernel_rfl)) rfl ?_
      exact ⟨_, _, _, fr_, by (with_reducible repeat (first | apply Kd.R_alloc | apply Kd.R_drewN | apply Kd.R_drew)); exact Kd.R_mono (Kd.R_far (p := ⟨gb373, 2, none⟩) (Kd.R_far (p := ⟨gb373, 1, none⟩) (Kd.R_far (p := ⟨gb373, 0, none⟩) (Kd.R_types HO_384000.out BK373.out (by decide)) (fun _ hk => hk.2) (.slice Ao36 x384000_1.length co36)) (fun _ hk => hk.2) (.slice Ao39 x384001_1.length co39)) (fun _ hk => hk.2) (.slice Ao40 x384002_1.length co40)) (fun _ hk => trivial), by (with_reducible repeat (first | apply Kd.R_alloc | apply Kd.R_drewN | apply Kd.R_drew)); exact Kd.R_mono (Kd.R_far (p := ⟨gb373, 2, none⟩) (Kd.R_far (p := ⟨gb373, 1, none⟩) (Kd.R_far (p := ⟨gb373, 0, none⟩) (Kd.R_types HO_384001.out BK373.out (by decide)) (fun _ hk => hk.2) (.slice Ao36 x384000_1.length co36)) (fun _ hk => hk.2) (.slice Ao39 x384001_1.length co39)) (fun _ hk => hk.2) (.slice Ao40 x384002_1.length co40)) (fun _ hk => trivial), by (with_reducible repeat (first | apply Kd.R_alloc | apply Kd.R_drewN | apply Kd.R_drew)); exact Kd.R_mono (Kd.R_far (p := ⟨gb373, 2, none⟩) (Kd.R_far (p := ⟨gb373, 1, none⟩) (Kd.R_far (p := ⟨gb373, 0, none⟩) (Kd.R_types HO_384002.out BK373.out (by decide)) (fun _ hk => hk.2) (.slice Ao36 x384000_1.length co36)) (fun _ hk => hk.2) (.slice Ao39 x384001_1.length co39)) (fun _ hk => hk.2) (.slice Ao40 x384002_1.length co40)) (fun _ hk => trivial), hs_⟩
     ·replace c32 := Bool.eq_false_iff.mpr c32
      subst c32
      have H1 : (if (x385000_1.length : Int) = 0 then (euclid_partial.l0 kj21 a0 a3 x385000_1 x385001_1 x385002_1 x385000_1 x385001_1 x385002_1) else ((euclid_next.f kj21 a0 x384000_1 x384001_1 x384002_1 x385000_1 x385001_1 x385002_1).bind fun bt385 => (if bt385.2.2.2 = 0 then (euclid_partial.l0 kj21 a0 a3 x385000_1 x385001_1 x385002_1 bt385.1 bt385.2.1 bt385.2.2.1) else (some (([] : List Int), ([] : List Int), ([] : List Int), bt385.2.2.2))))) = some (r1, r2, r3, r4) := by rw [if_neg (show ¬ (false = true) by decide)] at H; exact H
      clear H
      have H := H1
      clear H1
      by_cases c41 : (x385000_1.length : Int) = 0
      ·rw [if_pos c41] at H
       have c41b0 : ((x385000_1.length : Int) == 0) = true := beq_iff_eq.mpr c41
       have c41b1 : ((x385000_1.length : Int) != 0) = false := bne_eq_false_iff_eq.mpr c41
       clear c41
       have H' := Aside0.mk H
       clear H
       have hnb42 := NB384_373.out
       have hnc42 := NB373_384.out
       have hnb43 := NB384_383.out
       have hnc43 := NB383_384.out
       have hcz44_0 : wc.cell? ⟨gb384, 0, none⟩ = some (u385000) := (blk_cell BK384.out 0).trans rfl
       have hcz44_1 : wc.cell? ⟨gb384, 1, none⟩ = some (u385001) := (blk_cell BK384.out 1).trans rfl
       have hcz44_2 : wc.cell? ⟨gb384, 2, none⟩ = some (u385002) := (blk_cell BK384.out 2).trans rfl
       have hfz44_0 := blk_frozen BK384.out 0
       have hfz44_1 := blk_frozen BK384.out 1
       have hfz44_2 := blk_frozen BK384.out 2
       obtain ⟨Ao45, co45, eo45⟩ := Kd.R_slice HO_385000.out
       subst eo45
       have hnb46 := NB383_373.out
       have hnc46 := NB373_383.out
       have hcz47_0 : wc.cell? ⟨gb383, 0, none⟩ = some (u384000) := (blk_cell BK383.out 0).trans rfl
       have hcz47_1 : wc.cell? ⟨gb383, 1, none⟩ = some (u384001) := (blk_cell BK383.out 1).trans rfl
       have hcz47_2 : wc.cell? ⟨gb383, 2, none⟩ = some (u384002) := (blk_cell BK383.out 2).trans rfl
       have hfz47_0 := blk_frozen BK383.out 0
       have hfz47_1 := blk_frozen BK383.out 1
       have hfz47_2 := blk_frozen BK383.out 2
       obtain ⟨Ao48, co48, eo48⟩ := Kd.R_slice HO_385001.out
       subst eo48
       obtain ⟨Ao49, co49, eo49⟩ := Kd.R_slice HO_385002.out
       subst eo49
       go_wp2_with (go_step3)
       go_roundg kj21
       case measure => have := HK1.out; have := HJ21.out; omega
       case rel => exact ⟨(x385000_1), (x385001_1), (x385002_1), (x385000_1), (x385001_1), (x385002_1), (.slice Ao45 x385000_1.length co45), (.slice Ao48 x385001_1.length co48), (.slice Ao49 x385002_1.length co49), (.slice Ao45 x385000_1.length co45), (.slice Ao48 x385001_1.length co48), (.slice Ao49 x385002_1.length co49), H', ⟨by have := HK1.out; have := HJ21.out; omega⟩, ⟨by (with_reducible repeat (first | apply Kd.R_alloc | apply Kd.R_drewN | apply Kd.R_drew)); exact Kd.R_mono (Kd.R_far (p := ⟨gb383, 2, none⟩) (Kd.R_far (p := ⟨gb383, 1, none⟩) (Kd.R_far (p := ⟨gb383, 0, none⟩) (Kd.R_types HO_385000.out BK383.out (by decide)) (fun _ hk => hk.2) (.slice Ao45 x385000_1.length co45)) (fun _ hk => hk.2) (.slice Ao48 x385001_1.length co48)) (fun _ hk => hk.2) (.slice Ao49 x385002_1.length co49)) (fun _ hk => trivial)⟩, ⟨by (with_reducible repeat (first | apply Kd.R_alloc | apply Kd.R_drewN | apply Kd.R_drew)); exact Kd.R_mono (Kd.R_far (p := ⟨gb383, 2, none⟩) (Kd.R_far (p := ⟨gb383, 1, none⟩) (Kd.R_far (p := ⟨gb383, 0, none⟩) (Kd.R_types HO_385001.out BK383.out (by decide)) (fun _ hk => hk.2) (.slice Ao45 x385000_1.length co45)) (fun _ hk => hk.2) (.slice Ao48 x385001_1.length co48)) (fun _ hk => hk.2) (.slice Ao49 x385002_1.length co49)) (fun _ hk => trivial)⟩, ⟨by (with_reducible repeat (first | apply Kd.R_alloc | apply Kd.R_drewN | apply Kd.R_drew)); exact Kd.R_mono (Kd.R_far (p := ⟨gb383, 2, none⟩) (Kd.R_far (p := ⟨gb383, 1, none⟩) (Kd.R_far (p := ⟨gb383, 0, none⟩) (Kd.R_types HO_385002.out BK383.out (by decide)) (fun _ hk => hk.2) (.slice Ao45 x385000_1.length co45)) (fun _ hk => hk.2) (.slice Ao48 x385001_1.length co48)) (fun _ hk => hk.2) (.slice Ao49 x385002_1.length co49)) (fun _ hk => trivial)⟩, ⟨by (with_reducible repeat (first | apply Kd.R_alloc | apply Kd.R_drewN | apply Kd.R_drew)); exact Kd.R_mono (Kd.R_far (p := ⟨gb383, 2, none⟩) (Kd.R_far (p := ⟨gb383, 1, none⟩) (Kd.R_far (p := ⟨gb383, 0, none⟩) (Kd.R_types HO_385000.out BK383.out (by decide)) (fun _ hk => hk.2) (.slice Ao45 x385000_1.length co45)) (fun _ hk => hk.2) (.slice Ao48 x385001_1.length co48)) (fun _ hk => hk.2) (.slice Ao49 x385002_1.length co49)) (fun _ hk => trivial)⟩, ⟨by (with_reducible repeat (first | apply Kd.R_alloc | apply Kd.R_drewN | apply Kd.R_drew)); exact Kd.R_mono (Kd.R_far (p := ⟨gb383, 2, none⟩) (Kd.R_far (p := ⟨gb383, 1, none⟩) (Kd.R_far (p := ⟨gb383, 0, none⟩) (Kd.R_types HO_385001.out BK383.out (by decide)) (fun _ hk => hk.2) (.slice Ao45 x385000_1.length co45)) (fun _ hk => hk.2) (.slice Ao48 x385001_1.length co48)) (fun _ hk => hk.2) (.slice Ao49 x385002_1.length co49)) (fun _ hk => trivial)⟩, ⟨by (with_reducible repeat (first | apply Kd.R_alloc | apply Kd.R_drewN | apply Kd.R_drew)); exact Kd.R_mono (Kd.R_far (p := ⟨gb383, 2, none⟩) (Kd.R_far (p := ⟨gb383, 1, none⟩) (Kd.R_far (p := ⟨gb383, 0, none⟩) (Kd.R_types HO_385002.out BK383.out (by decide)) (fun _ hk => hk.2) (.slice Ao45 x385000_1.length co45)) (fun _ hk => hk.2) (.slice Ao48 x385001_1.length co48)) (fun _ hk => hk.2) (.slice Ao49 x385002_1.length co49)) (fun _ hk => trivial)⟩, ⟨by (with_reducible repeat (first | refine blk_drewN ?_ _ | refine blk_drew ?_ | refine blk_alloc ?_ _)); refine blk_far ?_ NB373_383.out _; (with_reducible repeat (first | refine blk_drewN ?_ _ | refine blk_drew ?_ | refine blk_alloc ?_ _)); refine blk_far ?_ NB373_383.out _; (with_reducible repeat (first | refine blk_drewN ?_ _ | refine blk_drew ?_ | refine blk_alloc ?_ _)); refine blk_far ?_ NB373_383.out _; (with_reducible repeat (first | refine blk_drewN ?_ _ | refine blk_drew ?_ | refine blk_alloc ?_ _)); exact BK373.out⟩, ⟨by (with_reducible repeat (first | refine blk_drewN ?_ _ | refine blk_drew ?_ | refine blk_alloc ?_ _)); refine blk_put (cs := #[.slice Ao45 x385000_1.length co45, .slice Ao48 x385001_1.length co48, u384002]) ?_ 2 _ rfl; (with_reducible repeat (first | refine blk_drewN ?_ _ | refine blk_drew ?_ | refine blk_alloc ?_ _)); refine blk_put (cs := #[.slice Ao45 x385000_1.length co45, u384001, u384002]) ?_ 1 _ rfl; (with_reducible repeat (first | refine blk_drewN ?_ _ | refine blk_drew ?_ | refine blk_alloc ?_ _)); refine blk_put (cs := #[u384000, u384001, u384002]) ?_ 0 _ rfl; (with_reducible repeat (first | refine blk_drewN ?_ _ | refine blk_drew ?_ | refine blk_alloc ?_ _)); exact BK383.out⟩, ⟨by (with_reducible repeat (first | refine blk_drewN ?_ _ | refine blk_drew ?_ | refine blk_alloc ?_ _)); refine blk_far ?_ NB384_383.out _; (with_reducible repeat (first | refine blk_drewN ?_ _ | refine blk_drew ?_ | refine blk_alloc ?_ _)); refine blk_far ?_ NB384_383.out _; (with_reducible repeat (first | refine blk_drewN ?_ _ | refine blk_drew ?_ | refine blk_alloc ?_ _)); refine blk_far ?_ NB384_383.out _; (with_reducible repeat (first | refine blk_drewN ?_ _ | refine blk_drew ?_ | refine blk_alloc ?_ _)); exact BK384.out⟩, ⟨hs_⟩⟩
      ·rw [if_neg c41] at H
       have c41b0 : ((x385000_1.length : Int) == 0) = false := beq_eq_false_iff_ne.mpr c41
       have c41b1 : ((x385000_1.length : Int) != 0) = true := bne_iff_ne.mpr c41
       have c41b2 : ¬ (x385000_1 = []) := fun h_ => c41 (by rw [h_]; rfl)
       replace H := Option.bind_eq_some_iff.mp H
       obtain ⟨⟨t385, t388, t391, t394⟩, A500, H⟩ := H
       replace H : (if t394 = 0 then (euclid_partial.l0 kj21 a0 a3 x385000_1 x385001_1 x385002_1 t385 t388 t391) else (some (([] : List Int), ([] : List Int), ([] : List Int), t394))) = some (r1, r2, r3, r4) := H
       have A50 := Aside0.mk A500
       clear A500
       have HC51 := Aside0.mk H
       clear H
       have hnb52 := NB384_373.out
       have hnc52 := NB373_384.out
       have hnb53 := NB384_383.out
       have hnc53 := NB383_384.out
       have hcz54_0 : wc.cell? ⟨gb384, 0, none⟩ = some (u385000) := (blk_cell BK384.out 0).trans rfl
       have hcz54_1 : wc.cell? ⟨gb384, 1, none⟩ = some (u385001) := (blk_cell BK384.out 1).trans rfl
       have hcz54_2 : wc.cell? ⟨gb384, 2, none⟩ = some (u385002) := (blk_cell BK384.out 2).trans rfl
       have hfz54_0 := blk_frozen BK384.out 0
       have hfz54_1 := blk_frozen BK384.out 1
       have hfz54_2 := blk_frozen BK384.out 2
       obtain ⟨Ao55, co55, eo55⟩ := Kd.R_slice HO_385000.out
       subst eo55
       have hnb56 := NB383_373.out
       have hnc56 := NB373_383.out
       have hcz57_0 : wc.cell? ⟨gb383, 0, none⟩ = some (u384000) := (blk_cell BK383.out 0).trans rfl
       have hcz57_1 : wc.cell? ⟨gb383, 1, none⟩ = some (u384001) := (blk_cell BK383.out 1).trans rfl
       have hcz57_2 : wc.cell? ⟨gb383, 2, none⟩ = some (u384002) := (blk_cell BK383.out 2).trans rfl
       have hfz57_0 := blk_frozen BK383.out 0
       have hfz57_1 := blk_frozen BK383.out 1
       have hfz57_2 := blk_frozen BK383.out 2
       obtain ⟨Ao58, co58, eo58⟩ := Kd.R_slice HO_384000.out
       subst eo58
       obtain ⟨Ao59, co59, eo59⟩ := Kd.R_slice HO_384001.out
       subst eo59
       obtain ⟨Ao60, co60, eo60⟩ := Kd.R_slice HO_384002.out
       subst eo60
       obtain ⟨Ao61, co61, eo61⟩ := Kd.R_slice HO_385001.out
       subst eo61
       obtain ⟨Ao62, co62, eo62⟩ := Kd.R_slice HO_385002.out
       subst eo62
       go_upto_if 49 with (first | ((with_reducible refine gate_callee (f := 52) rfl ?_); refine goesM_ (some 45) Try.func52 #[.int .u8 a0, .agg #[.slice Ao58 x384000_1.length co58, .slice Ao59 x384001_1.length co59, .slice Ao60 x384002_1.length co60], .agg #[.slice Ao55 x385000_1.length co55, .slice Ao61 x385001_1.length co61, .slice Ao62 x385002_1.length co62]] ?_; (with_reducible refine (euclid_next.calls kj21 a0 _ _ x384000_1 _ _ x384001_1 _ _ x384002_1 _ _ x385000_1 _ _ x385001_1 _ _ x385002_1 t385 t388 t391 t394 _ ?side1 ?side2 ?side3 ?side4 ?side5 ?side6 ?side7 ?side8 ?side9 ?side10 ?side11 ?side12 A50.out).mono ?_); (case side1 => repeat (first | exact (Kd.R_reads' HO_384000.out).2.2 | (with_reducible refine Kd.C_alloc ?_ _) | (with_reducible refine Kd.C_drewN ?_ _) | (with_reducible refine Kd.C_drew ?_))); (case side2 => exact (Kd.R_reads' HO_384000.out).2.1); (case side3 => repeat (first | exact (Kd.R_reads' HO_384001.out).2.2 | (with_reducible refine Kd.C_alloc ?_ _) | (with_reducible refine Kd.C_drewN ?_ _) | (with_reducible refine Kd.C_drew ?_))); (case side4 => exact (Kd.R_reads' HO_384001.out).2.1); (case side5 => repeat (first | exact (Kd.R_reads' HO_384002.out).2.2 | (with_reducible refine Kd.C_alloc ?_ _) | (with_reducible refine Kd.C_drewN ?_ _) | (with_reducible refine Kd.C_drew ?_))); (case side6 => exact (Kd.R_reads' HO_384002.out).2.1); (case side7 => repeat (first | exact (Kd.R_reads' HO_385000.out).2.2 | (with_reducible refine Kd.C_alloc ?_ _) | (with_reducible refine Kd.C_drewN ?_ _) | (with_reducible refine Kd.C_drew ?_))); (case side8 => exact (Kd.R_reads' HO_385000.out).2.1); (case side9 => repeat (first | exact (Kd.R_reads' HO_385001.out).2.2 | (with_reducible refine Kd.C_alloc ?_ _) | (with_reducible refine Kd.C_drewN ?_ _) | (with_reducible refine Kd.C_drew ?_))); (case side10 => exact (Kd.R_reads' HO_385001.out).2.1); (case side11 => repeat (first | exact (Kd.R_reads' HO_385002.out).2.2 | (with_reducible refine Kd.C_alloc ?_ _) | (with_reducible refine Kd.C_drewN ?_ _) | (with_reducible refine Kd.C_drew ?_))); (case side12 => exact (Kd.R_reads' HO_385002.out).2.1); rintro e w63 ⟨v386, v389, v392, rfl, ho0, ho1, ho2, hb⟩; refine ⟨_, rfl, ?_⟩; have n0_ := A_ (Kd.R_below (nR_ HO_384000) hb); have n1_ := A_ (Kd.R_below (nR_ HO_384001) hb); have n2_ := A_ (Kd.R_below (nR_ HO_384002) hb); have n3_ := A_ (Kd.R_below (nR_ HO_385000) hb); have n4_ := A_ (Kd.R_below (nR_ HO_385001) hb); have n5_ := A_ (Kd.R_below (nR_ HO_385002) hb); have n6_ := A_ (Kd.R_lower (Kd.R_mono (ok' := fun _ => True) ho0 (fun _ _ => trivial)) (below_size hs_)); have n7_ := A_ (Kd.R_lower (Kd.R_mono (ok' := fun _ => True) ho1 (fun _ _ => trivial)) (below_size hs_)); have n8_ := A_ (Kd.R_lower (Kd.R_mono (ok' := fun _ => True) ho2 (fun _ _ => trivial)) (below_size hs_)); have n9_ := A_ (blk_below (g := gb373) (o := .cells #[.slice none 0 0, .slice none 0 0, .slice none 0 0] 61 (0, 0)) (nb_ BK373) hb); have n10_ := A_ (blk_below (g := gb383) (o := .cells #[.slice Ao58 x384000_1.length co58, .slice Ao59 x384001_1.length co59, .slice Ao60 x384002_1.length co60] 61 (0, 0)) (nb_ BK383) hb); have n11_ := A_ (blk_below (g := gb384) (o := .cells #[.slice Ao55 x385000_1.length co55, .slice Ao61 x385001_1.length co61, .slice Ao62 x385002_1.length co62] 61 (0, 0)) (nb_ BK384) hb); have n12_ := A_ (below_step hs_ hb); clear HO_384000 HO_384001 HO_384002 HO_385000 HO_385001 HO_385002 BK373 BK383 BK384 HB; have HO_384000 := n0_; have HO_384001 := n1_; have HO_384002 := n2_; have HO_385000 := n3_; have HO_385001 := n4_; have HO_385002 := n5_; have HO387 := n6_; have HO390 := n7_; have HO393 := n8_; have BK373 := n9_; have BK383 := n10_; have BK384 := n11_; have HB := n12_; clear n0_ n1_ n2_ n3_ n4_ n5_ n6_ n7_ n8_ n9_ n10_ n11_ n12_; (try clear hb); (try clear ho0); (try clear ho1); (try clear ho2)) | ((with_reducible refine gate_dst (N := 13) rfl ?_); (try (refine gate_guard (by rfl) ?_; dsimp only)); refine box_event ?hg (N := 13) ?hd (cs := #[.slice none 0 0, .slice none 0 0, .slice none 0 0]) (t := 61) ?hr ?_; (case hd => rfl); (case hg => rfl); (case hr => first | (go_simp; done) | (go_simp; rfl)); intro gb395 hg w64 hbox hb; have n0_ := A_ (Kd.R_below (nR_ HO_384000) hb); have n1_ := A_ (Kd.R_below (nR_ HO_384001) hb); have n2_ := A_ (Kd.R_below (nR_ HO_384002) hb); have n3_ := A_ (Kd.R_below (nR_ HO_385000) hb); have n4_ := A_ (Kd.R_below (nR_ HO_385001) hb); have n5_ := A_ (Kd.R_below (nR_ HO_385002) hb); have n6_ := A_ (Kd.R_below (nR_ HO387) hb); have n7_ := A_ (Kd.R_below (nR_ HO390) hb); have n8_ := A_ (Kd.R_below (nR_ HO393) hb); have n9_ := A_ (blk_below (g := gb373) (o := .cells #[.slice none 0 0, .slice none 0 0, .slice none 0 0] 61 (0, 0)) (nb_ BK373) hb); have n10_ := A_ (blk_below (g := gb383) (o := .cells #[.slice Ao58 x384000_1.length co58, .slice Ao59 x384001_1.length co59, .slice Ao60 x384002_1.length co60] 61 (0, 0)) (nb_ BK383) hb); have n11_ := A_ (blk_below (g := gb384) (o := .cells #[.slice Ao55 x385000_1.length co55, .slice Ao61 x385001_1.length co61, .slice Ao62 x385002_1.length co62] 61 (0, 0)) (nb_ BK384) hb); have n12_ := A_ (below_step hs_ hb); have n13_ := A_ (hbox); have n14_ := A_ ((by rw [hg]; exact (below_size hs_) : w.heap.size ≤ gb395)); have n15_ := A_ ((by rw [hg]; exact (below_size hs_) : w.heap.size ≤ gb395)); have n16_ := A_ ((by rw [hg]; exact Nat.ne_of_lt (blk_lt (g := gb373) (o := .cells #[.slice none 0 0, .slice none 0 0, .slice none 0 0] 61 (0, 0)) (nb_ BK373)) : gb373 ≠ gb395)); have n17_ := A_ ((by rw [hg]; exact Nat.ne_of_gt (blk_lt (g := gb373) (o := .cells #[.slice none 0 0, .slice none 0 0, .slice none 0 0] 61 (0, 0)) (nb_ BK373)) : gb395 ≠ gb373)); have n18_ := A_ ((by rw [hg]; exact Nat.ne_of_lt (blk_lt (g := gb383) (o := .cells #[.slice Ao58 x384000_1.length co58, .slice Ao59 x384001_1.length co59, .slice Ao60 x384002_1.length co60] 61 (0, 0)) (nb_ BK383)) : gb383 ≠ gb395)); have n19_ := A_ ((by rw [hg]; exact Nat.ne_of_gt (blk_lt (g := gb383) (o := .cells #[.slice Ao58 x384000_1.length co58, .slice Ao59 x384001_1.length co59, .slice Ao60 x384002_1.length co60] 61 (0, 0)) (nb_ BK383)) : gb395 ≠ gb383)); have n20_ := A_ ((by rw [hg]; exact Nat.ne_of_lt (blk_lt (g := gb384) (o := .cells #[.slice Ao55 x385000_1.length co55, .slice Ao61 x385001_1.length co61, .slice Ao62 x385002_1.length co62] 61 (0, 0)) (nb_ BK384)) : gb384 ≠ gb395)); have n21_ := A_ ((by rw [hg]; exact Nat.ne_of_gt (blk_lt (g := gb384) (o := .cells #[.slice Ao55 x385000_1.length co55, .slice Ao61 x385001_1.length co61, .slice Ao62 x385002_1.length co62] 61 (0, 0)) (nb_ BK384)) : gb395 ≠ gb384)); clear HO_384000 HO_384001 HO_384002 HO_385000 HO_385001 HO_385002 HO387 HO390 HO393 BK373 BK383 BK384 HB; have HO_384000 := n0_; have HO_384001 := n1_; have HO_384002 := n2_; have HO_385000 := n3_; have HO_385001 := n4_; have HO_385002 := n5_; have HO387 := n6_; have HO390 := n7_; have HO393 := n8_; have BK373 := n9_; have BK383 := n10_; have BK384 := n11_; have HB := n12_; have BK395 := n13_; have GW395 := n14_; have GE395 := n15_; have NB373_395 := n16_; have NB395_373 := n17_; have NB383_395 := n18_; have NB395_383 := n19_; have NB384_395 := n20_; have NB395_384 := n21_; clear n0_ n1_ n2_ n3_ n4_ n5_ n6_ n7_ n8_ n9_ n10_ n11_ n12_ n13_ n14_ n15_ n16_ n17_ n18_ n19_ n20_ n21_; clear hb hbox hg; obtain ⟨Ao65, co65, eo65⟩ := Kd.R_slice HO387.out; subst eo65; have hnb66 := NB395_373.out; have hnc66 := NB373_395.out; have hnb67 := NB395_383.out; have hnc67 := NB383_395.out; have hnb68 := NB395_384.out; have hnc68 := NB384_395.out; have hcz69_0 : w64.cell? ⟨gb395, 0, none⟩ = some (.slice none 0 0) := (blk_cell BK395.out 0).trans rfl; have hcz69_1 : w64.cell? ⟨gb395, 1, none⟩ = some (.slice none 0 0) := (blk_cell BK395.out 1).trans rfl; have hcz69_2 : w64.cell? ⟨gb395, 2, none⟩ = some (.slice none 0 0) := (blk_cell BK395.out 2).trans rfl; have hfz69_0 := blk_frozen BK395.out 0; have hfz69_1 := blk_frozen BK395.out 1; have hfz69_2 := blk_frozen BK395.out 2; obtain ⟨Ao70, co70, eo70⟩ := Kd.R_slice HO390.out; subst eo70; obtain ⟨Ao71, co71, eo71⟩ := Kd.R_slice HO393.out; subst eo71))
       (try simp only [Act.put, List.setIfInBounds_toArray, List.set_cons_zero, List.set_cons_succ])
       have H := HC51.out
       clear HC51
       by_cases c72 : t394 = 0
       ·rw [if_pos c72] at H
        have c72b0 : (t394 == 0) = true := beq_iff_eq.mpr c72
        have c72b1 : (t394 != 0) = false := bne_eq_false_iff_eq.mpr c72
        clear c72
        (first | rw [c72b0] | rw [c72b1] | (simp only [i64_w, i32_w]; first | rw [c72b0] | rw [c72b1]) | skip)
        have H' := Aside0.mk H
        clear H
        try go_wp2_with (go_step3)
        have n0_ : Aside0 (Kd.R (Kd.int .u64) 40 (((w64.setCell ⟨gb395, 0, none⟩ (.slice Ao65 t385.length co65)).setCell ⟨gb395, 1, none⟩ (.slice Ao70 t388.length co70)).setCell ⟨gb395, 2, none⟩ (.slice Ao71 t391.length co71)) w.heap.size (fun _ => True) (.slice Ao58 x384000_1.length co58) x384000_1) := ⟨by (with_reducible repeat (first | apply Kd.R_alloc | apply Kd.R_drewN | apply Kd.R_drew)); exact Kd.R_mono (Kd.R_far (p := ⟨gb395, 2, none⟩) (Kd.R_far (p := ⟨gb395, 1, none⟩) (Kd.R_far (p := ⟨gb395, 0, none⟩) (Kd.R_types HO_384000.out BK395.out (by decide)) (fun _ hk => hk.2) (.slice Ao65 t385.length co65)) (fun _ hk => hk.2) (.slice Ao70 t388.length co70)) (fun _ hk => hk.2) (.slice Ao71 t391.length co71)) (fun _ hk => trivial)⟩
        have n1_ : Aside0 (Kd.R (Kd.int .u64) 40 (((w64.setCell ⟨gb395, 0, none⟩ (.slice Ao65 t385.length co65)).setCell ⟨gb395, 1, none⟩ (.slice Ao70 t388.length co70)).setCell ⟨gb395, 2, none⟩ (.slice Ao71 t391.length co71)) w.heap.size (fun _ => True) (.slice Ao59 x384001_1.length co59) x384001_1) := ⟨by (with_reducible repeat (first | apply Kd.R_alloc | apply Kd.R_drewN | apply Kd.R_drew)); exact Kd.R_mono (Kd.R_far (p := ⟨gb395, 2, none⟩) (Kd.R_far (p := ⟨gb395, 1, none⟩) (Kd.R_far (p := ⟨gb395, 0, none⟩) (Kd.R_types HO_384001.out BK395.out (by decide)) (fun _ hk => hk.2) (.slice Ao65 t385.length co65)) (fun _ hk => hk.2) (.slice Ao70 t388.length co70)) (fun _ hk => hk.2) (.slice Ao71 t391.length co71)) (fun _ hk => trivial)⟩
        have n2_ : Aside0 (Kd.R (Kd.int .u64) 40 (((w64.setCell ⟨gb395, 0, none⟩ (.slice Ao65 t385.length co65)).setCell ⟨gb395, 1, none⟩ (.slice Ao70 t388.length co70)).setCell ⟨gb395, 2, none⟩ (.slice Ao71 t391.length co71)) w.heap.size (fun _ => True) (.slice Ao60 x384002_1.length co60) x384002_1) := ⟨by (with_reducible repeat (first | apply Kd.R_alloc | apply Kd.R_drewN | apply Kd.R_drew)); exact Kd.R_mono (Kd.R_far (p := ⟨gb395, 2, none⟩) (Kd.R_far (p := ⟨gb395, 1, none⟩) (Kd.R_far (p := ⟨gb395, 0, none⟩) (Kd.R_types HO_384002.out BK395.out (by decide)) (fun _ hk => hk.2) (.slice Ao65 t385.length co65)) (fun _ hk => hk.2) (.slice Ao70 t388.length co70)) (fun _ hk => hk.2) (.slice Ao71 t391.length co71)) (fun _ hk => trivial)⟩
        have n3_ : Aside0 (Kd.R (Kd.int .u64) 40 (((w64.setCell ⟨gb395, 0, none⟩ (.slice Ao65 t385.length co65)).setCell ⟨gb395, 1, none⟩ (.slice Ao70 t388.length co70)).setCell ⟨gb395, 2, none⟩ (.slice Ao71 t391.length co71)) w.heap.size (fun _ => True) (.slice Ao55 x385000_1.length co55) x385000_1) := ⟨by (with_reducible repeat (first | apply Kd.R_alloc | apply Kd.R_drewN | apply Kd.R_drew)); exact Kd.R_mono (Kd.R_far (p := ⟨gb395, 2, none⟩) (Kd.R_far (p := ⟨gb395, 1, none⟩) (Kd.R_far (p := ⟨gb395, 0, none⟩) (Kd.R_types HO_385000.out BK395.out (by decide)) (fun _ hk => hk.2) (.slice Ao65 t385.length co65)) (fun _ hk => hk.2) (.slice Ao70 t388.length co70)) (fun _ hk => hk.2) (.slice Ao71 t391.length co71)) (fun _ hk => trivial)⟩
        have n4_ : Aside0 (Kd.R (Kd.int .u64) 40 (((w64.setCell ⟨gb395, 0, none⟩ (.slice Ao65 t385.length co65)).setCell ⟨gb395, 1, none⟩ (.slice Ao70 t388.length co70)).setCell ⟨gb395, 2, none⟩ (.slice Ao71 t391.length co71)) w.heap.size (fun _ => True) (.slice Ao61 x385001_1.length co61) x385001_1) := ⟨by (with_reducible repeat (first | apply Kd.R_alloc | apply Kd.R_drewN | apply Kd.R_drew)); exact Kd.R_mono (Kd.R_far (p := ⟨gb395, 2, none⟩) (Kd.R_far (p := ⟨gb395, 1, none⟩) (Kd.R_far (p := ⟨gb395, 0, none⟩) (Kd.R_types HO_385001.out BK395.out (by decide)) (fun _ hk => hk.2) (.slice Ao65 t385.length co65)) (fun _ hk => hk.2) (.slice Ao70 t388.length co70)) (fun _ hk => hk.2) (.slice Ao71 t391.length co71)) (fun _ hk => trivial)⟩
        have n5_ : Aside0 (Kd.R (Kd.int .u64) 40 (((w64.setCell ⟨gb395, 0, none⟩ (.slice Ao65 t385.length co65)).setCell ⟨gb395, 1, none⟩ (.slice Ao70 t388.length co70)).setCell ⟨gb395, 2, none⟩ (.slice Ao71 t391.length co71)) w.heap.size (fun _ => True) (.slice Ao62 x385002_1.length co62) x385002_1) := ⟨by (with_reducible repeat (first | apply Kd.R_alloc | apply Kd.R_drewN | apply Kd.R_drew)); exact Kd.R_mono (Kd.R_far (p := ⟨gb395, 2, none⟩) (Kd.R_far (p := ⟨gb395, 1, none⟩) (Kd.R_far (p := ⟨gb395, 0, none⟩) (Kd.R_types HO_385002.out BK395.out (by decide)) (fun _ hk => hk.2) (.slice Ao65 t385.length co65)) (fun _ hk => hk.2) (.slice Ao70 t388.length co70)) (fun _ hk => hk.2) (.slice Ao71 t391.length co71)) (fun _ hk => trivial)⟩
        have n6_ : Aside0 (Kd.R (Kd.int .u64) 40 (((w64.setCell ⟨gb395, 0, none⟩ (.slice Ao65 t385.length co65)).setCell ⟨gb395, 1, none⟩ (.slice Ao70 t388.length co70)).setCell ⟨gb395, 2, none⟩ (.slice Ao71 t391.length co71)) w.heap.size (fun _ => True) (.slice Ao65 t385.length co65) t385) := ⟨by (with_reducible repeat (first | apply Kd.R_alloc | apply Kd.R_drewN | apply Kd.R_drew)); exact Kd.R_mono (Kd.R_far (p := ⟨gb395, 2, none⟩) (Kd.R_far (p := ⟨gb395, 1, none⟩) (Kd.R_far (p := ⟨gb395, 0, none⟩) (Kd.R_types HO387.out BK395.out (by decide)) (fun _ hk => hk.2) (.slice Ao65 t385.length co65)) (fun _ hk => hk.2) (.slice Ao70 t388.length co70)) (fun _ hk => hk.2) (.slice Ao71 t391.length co71)) (fun _ hk => trivial)⟩
        have n7_ : Aside0 (Kd.R (Kd.int .u64) 40 (((w64.setCell ⟨gb395, 0, none⟩ (.slice Ao65 t385.length co65)).setCell ⟨gb395, 1, none⟩ (.slice Ao70 t388.length co70)).setCell ⟨gb395, 2, none⟩ (.slice Ao71 t391.length co71)) w.heap.size (fun _ => True) (.slice Ao70 t388.length co70) t388) := ⟨by (with_reducible repeat (first | apply Kd.R_alloc | apply Kd.R_drewN | apply Kd.R_drew)); exact Kd.R_mono (Kd.R_far (p := ⟨gb395, 2, none⟩) (Kd.R_far (p := ⟨gb395, 1, none⟩) (Kd.R_far (p := ⟨gb395, 0, none⟩) (Kd.R_types HO390.out BK395.out (by decide)) (fun _ hk => hk.2) (.slice Ao65 t385.length co65)) (fun _ hk => hk.2) (.slice Ao70 t388.length co70)) (fun _ hk => hk.2) (.slice Ao71 t391.length co71)) (fun _ hk => trivial)⟩
        have n8_ : Aside0 (Kd.R (Kd.int .u64) 40 (((w64.setCell ⟨gb395, 0, none⟩ (.slice Ao65 t385.length co65)).setCell ⟨gb395, 1, none⟩ (.slice Ao70 t388.length co70)).setCell ⟨gb395, 2, none⟩ (.slice Ao71 t391.length co71)) w.heap.size (fun _ => True) (.slice Ao71 t391.length co71) t391) := ⟨by (with_reducible repeat (first | apply Kd.R_alloc | apply Kd.R_drewN | apply Kd.R_drew)); exact Kd.R_mono (Kd.R_far (p := ⟨gb395, 2, none⟩) (Kd.R_far (p := ⟨gb395, 1, none⟩) (Kd.R_far (p := ⟨gb395, 0, none⟩) (Kd.R_types HO393.out BK395.out (by decide)) (fun _ hk => hk.2) (.slice Ao65 t385.length co65)) (fun _ hk => hk.2) (.slice Ao70 t388.length co70)) (fun _ hk => hk.2) (.slice Ao71 t391.length co71)) (fun _ hk => trivial)⟩
        have n9_ : Aside0 ((((w64.setCell ⟨gb395, 0, none⟩ (.slice Ao65 t385.length co65)).setCell ⟨gb395, 1, none⟩ (.slice Ao70 t388.length co70)).setCell ⟨gb395, 2, none⟩ (.slice Ao71 t391.length co71)).heap[gb373]? = some (.cells #[.slice none 0 0, .slice none 0 0, .slice none 0 0] 61 (0, 0))) := ⟨by (with_reducible repeat (first | refine blk_drewN ?_ _ | refine blk_drew ?_ | refine blk_alloc ?_ _)); refine blk_far ?_ NB373_395.out _; (with_reducible repeat (first | refine blk_drewN ?_ _ | refine blk_drew ?_ | refine blk_alloc ?_ _)); refine blk_far ?_ NB373_395.out _; (with_reducible repeat (first | refine blk_drewN ?_ _ | refine blk_drew ?_ | refine blk_alloc ?_ _)); refine blk_far ?_ NB373_395.out _; (with_reducible repeat (first | refine blk_drewN ?_ _ | refine blk_drew ?_ | refine blk_alloc ?_ _)); exact BK373.out⟩
        have n10_ : Aside0 ((((w64.setCell ⟨gb395, 0, none⟩ (.slice Ao65 t385.length co65)).setCell ⟨gb395, 1, none⟩ (.slice Ao70 t388.length co70)).setCell ⟨gb395, 2, none⟩ (.slice Ao71 t391.length co71)).heap[gb383]? = some (.cells #[.slice Ao58 x384000_1.length co58, .slice Ao59 x384001_1.length co59, .slice Ao60 x384002_1.length co60] 61 (0, 0))) := ⟨by (with_reducible repeat (first | refine blk_drewN ?_ _ | refine blk_drew ?_ | refine blk_alloc ?_ _)); refine blk_far ?_ NB383_395.out _; (with_reducible repeat (first | refine blk_drewN ?_ _ | refine blk_drew ?_ | refine blk_alloc ?_ _)); refine blk_far ?_ NB383_395.out _; (with_reducible repeat (first | refine blk_drewN ?_ _ | refine blk_drew ?_ | refine blk_alloc ?_ _)); refine blk_far ?_ NB383_395.out _; (with_reducible repeat (first | refine blk_drewN ?_ _ | refine blk_drew ?_ | refine blk_alloc ?_ _)); exact BK383.out⟩
        have n11_ : Aside0 ((((w64.setCell ⟨gb395, 0, none⟩ (.slice Ao65 t385.length co65)).setCell ⟨gb395, 1, none⟩ (.slice Ao70 t388.length co70)).setCell ⟨gb395, 2, none⟩ (.slice Ao71 t391.length co71)).heap[gb384]? = some (.cells #[.slice Ao55 x385000_1.length co55, .slice Ao61 x385001_1.length co61, .slice Ao62 x385002_1.length co62] 61 (0, 0))) := ⟨by (with_reducible repeat (first | refine blk_drewN ?_ _ | refine blk_drew ?_ | refine blk_alloc ?_ _)); refine blk_far ?_ NB384_395.out _; (with_reducible repeat (first | refine blk_drewN ?_ _ | refine blk_drew ?_ | refine blk_alloc ?_ _)); refine blk_far ?_ NB384_395.out _; (with_reducible repeat (first | refine blk_drewN ?_ _ | refine blk_drew ?_ | refine blk_alloc ?_ _)); refine blk_far ?_ NB384_395.out _; (with_reducible repeat (first | refine blk_drewN ?_ _ | refine blk_drew ?_ | refine blk_alloc ?_ _)); exact BK384.out⟩
        have n12_ : Aside0 ((((w64.setCell ⟨gb395, 0, none⟩ (.slice Ao65 t385.length co65)).setCell ⟨gb395, 1, none⟩ (.slice Ao70 t388.length co70)).setCell ⟨gb395, 2, none⟩ (.slice Ao71 t391.length co71)).heap[gb395]? = some (.cells #[.slice Ao65 t385.length co65, .slice Ao70 t388.length co70, .slice Ao71 t391.length co71] 61 (0, 0))) := ⟨by (with_reducible repeat (first | refine blk_drewN ?_ _ | refine blk_drew ?_ | refine blk_alloc ?_ _)); refine blk_put (cs := #[.slice Ao65 t385.length co65, .slice Ao70 t388.length co70, .slice none 0 0]) ?_ 2 _ rfl; (with_reducible repeat (first | refine blk_drewN ?_ _ | refine blk_drew ?_ | refine blk_alloc ?_ _)); refine blk_put (cs := #[.slice Ao65 t385.length co65, .slice none 0 0, .slice none 0 0]) ?_ 1 _ rfl; (with_reducible repeat (first | refine blk_drewN ?_ _ | refine blk_drew ?_ | refine blk_alloc ?_ _)); refine blk_put (cs := #[.slice none 0 0, .slice none 0 0, .slice none 0 0]) ?_ 0 _ rfl; (with_reducible repeat (first | refine blk_drewN ?_ _ | refine blk_drew ?_ | refine blk_alloc ?_ _)); exact BK395.out⟩
        have n13_ : Aside0 (Below w.heap.size w (((w64.setCell ⟨gb395, 0, none⟩ (.slice Ao65 t385.length co65)).setCell ⟨gb395, 1, none⟩ (.slice Ao70 t388.length co70)).setCell ⟨gb395, 2, none⟩ (.slice Ao71 t391.length co71))) := ⟨hs_⟩
        (try clear HO_384000)
        (try clear HO_384001)
        (try clear HO_384002)
        (try clear HO_385000)
        (try clear HO_385001)
        (try clear HO_385002)
        (try clear HO387)
        (try clear HO390)
        (try clear HO393)
        (try clear BK373)
        (try clear BK383)
        (try clear BK384)
        (try clear BK395)
        (try clear HB)
        generalize (((w64.setCell ⟨gb395, 0, none⟩ (.slice Ao65 t385.length co65)).setCell ⟨gb395, 1, none⟩ (.slice Ao70 t388.length co70)).setCell ⟨gb395, 2, none⟩ (.slice Ao71 t391.length co71)) = w73 at n0_ n1_ n2_ n3_ n4_ n5_ n6_ n7_ n8_ n9_ n10_ n11_ n12_ n13_ ⊢
        have HO_384000 := n0_
        have HO_384001 := n1_
        have HO_384002 := n2_
        have HO_385000 := n3_
        have HO_385001 := n4_
        have HO_385002 := n5_
        have HO387 := n6_
        have HO390 := n7_
        have HO393 := n8_
        have BK373 := n9_
        have BK383 := n10_
        have BK384 := n11_
        have BK395 := n12_
        have HB := n13_
        clear n0_ n1_ n2_ n3_ n4_ n5_ n6_ n7_ n8_ n9_ n10_ n11_ n12_ n13_
        have n0_ := A_ (Kd.R_drew HO_384000.out)
        have n1_ := A_ (Kd.R_drew HO_384001.out)
        have n2_ := A_ (Kd.R_drew HO_384002.out)
        have n3_ := A_ (Kd.R_drew HO_385000.out)
        have n4_ := A_ (Kd.R_drew HO_385001.out)
        have n5_ := A_ (Kd.R_drew HO_385002.out)
        have n6_ := A_ (Kd.R_drew HO387.out)
        have n7_ := A_ (Kd.R_drew HO390.out)
        have n8_ := A_ (Kd.R_drew HO393.out)
        have n9_ := A_ (blk_drew BK373.out)
        have n10_ := A_ (blk_drew BK383.out)
        have n11_ := A_ (blk_drew BK384.out)
        have n12_ := A_ (blk_drew BK395.out)
        have n13_ := A_ (below_drew1 HB.out)
        clear HO_384000
        clear HO_384001
        clear HO_384002
        clear HO_385000
        clear HO_385001
        clear HO_385002
        clear HO387
        clear HO390
        clear HO393
        clear BK373
        clear BK383
        clear BK384
        clear BK395
        clear HB
        have HO_384000 := n0_
        have HO_384001 := n1_
        have HO_384002 := n2_
        have HO_385000 := n3_
        have HO_385001 := n4_
        have HO_385002 := n5_
        have HO387 := n6_
        have HO390 := n7_
        have HO393 := n8_
        have BK373 := n9_
        have BK383 := n10_
        have BK384 := n11_
        have BK395 := n12_
        have HB := n13_
        clear n0_ n1_ n2_ n3_ n4_ n5_ n6_ n7_ n8_ n9_ n10_ n11_ n12_ n13_
        refine start_ (n := 4) (S := fun w' => w'.cell? ⟨gb384, 0, none⟩ = some (.slice Ao55 x385000_1.length co55) ∧ w'.cell? ⟨gb384, 1, none⟩ = some (.slice Ao61 x385001_1.length co61) ∧ w'.cell? ⟨gb384, 2, none⟩ = some (.slice Ao62 x385002_1.length co62) ∧ w'.cell? ⟨gb395, 0, none⟩ = some (.slice Ao65 t385.length co65) ∧ w'.cell? ⟨gb395, 1, none⟩ = some (.slice Ao70 t388.length co70) ∧ w'.cell? ⟨gb395, 2, none⟩ = some (.slice Ao71 t391.length co71)) (ds := [3]) #[false, false, false, false] (by kernel_rfl) rfl rfl ⟨(blk_cell BK384.out 0).trans rfl, (blk_cell BK384.out 1).trans rfl, (blk_cell BK384.out 2).trans rfl, (blk_cell BK395.out 0).trans rfl, (blk_cell BK395.out 1).trans rfl, (blk_cell BK395.out 2).trans rfl⟩ (fun hHeld => ?_)
        generalize w73.drew = w74 at HO_384000 HO_384001 HO_384002 HO_385000 HO_385001 HO_385002 HO387 HO390 HO393 BK373 BK383 BK384 BK395 HB hHeld ⊢
        refine take_ (i := 0) (N := some 52) (v := ?_) (a' := ?_) #[true, false, false, false] rfl rfl (by kernel_rfl) (fun _ _ _ h => h) (Or.inl ⟨by rfl, ?_⟩) hHeld ?_ ?_
        rotate_left
        ·rintro w' ⟨s0, s1, s2, s3, s4, s5⟩
         go_simp
         with_reducible rfl
        rotate_left
        ·simp only [Act.put, List.setIfInBounds_toArray, List.set_cons_zero, List.set_cons_succ, i64_w, i32_w]
         rfl
        refine take_ (i := 1) (N := some 53) (v := ?_) (a' := ?_) #[true, true, false, false] rfl rfl (by kernel_rfl) (fun _ _ _ h => h) (Or.inl ⟨by rfl, ?_⟩) hHeld ?_ ?_
        rotate_left
        ·rintro w' ⟨s0, s1, s2, s3, s4, s5⟩
         go_simp
         with_reducible rfl
        rotate_left
        ·simp only [Act.put, List.setIfInBounds_toArray, List.set_cons_zero, List.set_cons_succ, i64_w, i32_w]
         rfl
        refine one_ (i := 2) (N := none) #[true, true, true, false] rfl rfl (by kernel_rfl) (by decide) (fun K hK => ?_)
        have hs75 : w74.cell? ⟨gb383, 0, none⟩ = some (.slice Ao58 x384000_1.length co58) := (blk_cell BK383.out 0).trans rfl
        have hfs75 := blk_frozen BK383.out 0
        have hns75_0 := NB373_383.out
        have hns75_2 := NB384_383.out
        have hns75_3 := NB395_383.out
        have hms75_0 := NB383_373.out
        have hms75_2 := NB383_384.out
        have hms75_3 := NB383_395.out
        have hs76 : w74.cell? ⟨gb383, 1, none⟩ = some (.slice Ao59 x384001_1.length co59) := (blk_cell BK383.out 1).trans rfl
        have hfs76 := blk_frozen BK383.out 1
        have hns76_0 := NB373_383.out
        have hns76_2 := NB384_383.out
        have hns76_3 := NB395_383.out
        have hms76_0 := NB383_373.out
        have hms76_2 := NB383_384.out
        have hms76_3 := NB383_395.out
        have hs77 : w74.cell? ⟨gb383, 2, none⟩ = some (.slice Ao60 x384002_1.length co60) := (blk_cell BK383.out 2).trans rfl
        have hfs77 := blk_frozen BK383.out 2
        have hns77_0 := NB373_383.out
        have hns77_2 := NB384_383.out
        have hns77_3 := NB395_383.out
        have hms77_0 := NB383_373.out
        have hms77_2 := NB383_384.out
        have hms77_3 := NB383_395.out
        refine skip_ (w1 := ?_) (by rfl) rfl ?_ ?_
        rotate_left
        ·go_simp
         rfl
        refine hK.out _ _ ⟨((cell_far (p := ⟨gb383, _, none⟩) NB384_383.out _).trans (((cell_far (p := ⟨gb383, _, none⟩) NB384_383.out _).trans (((cell_far (p := ⟨gb383, _, none⟩) NB384_383.out _).trans (hHeld.1)))))), ((cell_far (p := ⟨gb383, _, none⟩) NB384_383.out _).trans (((cell_far (p := ⟨gb383, _, none⟩) NB384_383.out _).trans (((cell_far (p := ⟨gb383, _, none⟩) NB384_383.out _).trans (hHeld.2.1)))))), ((cell_far (p := ⟨gb383, _, none⟩) NB384_383.out _).trans (((cell_far (p := ⟨gb383, _, none⟩) NB384_383.out _).trans (((cell_far (p := ⟨gb383, _, none⟩) NB384_383.out _).trans (hHeld.2.2.1)))))), ((cell_far (p := ⟨gb383, _, none⟩) NB395_383.out _).trans (((cell_far (p := ⟨gb383, _, none⟩) NB395_383.out _).trans (((cell_far (p := ⟨gb383, _, none⟩) NB395_383.out _).trans (hHeld.2.2.2.1)))))), ((cell_far (p := ⟨gb383, _, none⟩) NB395_383.out _).trans (((cell_far (p := ⟨gb383, _, none⟩) NB395_383.out _).trans (((cell_far (p := ⟨gb383, _, none⟩) NB395_383.out _).trans (hHeld.2.2.2.2.1)))))), ((cell_far (p := ⟨gb383, _, none⟩) NB395_383.out _).trans (((cell_far (p := ⟨gb383, _, none⟩) NB395_383.out _).trans (((cell_far (p := ⟨gb383, _, none⟩) NB395_383.out _).trans (hHeld.2.2.2.2.2))))))⟩ (fun hHeld => ?_)
        clear hK K
        refine last_ (i := 3) (N := none) #[true, true, true, true] rfl rfl (by kernel_rfl) (by decide) (fun K hK => ?_)
        have hs78 : w74.cell? ⟨gb384, 0, none⟩ = some (.slice Ao55 x385000_1.length co55) := (blk_cell BK384.out 0).trans rfl
        have hfs78 := blk_frozen BK384.out 0
        have hns78_0 := NB373_384.out
        have hns78_1 := NB383_384.out
        have hns78_3 := NB395_384.out
        have hms78_0 := NB384_373.out
        have hms78_1 := NB384_383.out
        have hms78_3 := NB384_395.out
        have hs79 : w74.cell? ⟨gb384, 1, none⟩ = some (.slice Ao61 x385001_1.length co61) := (blk_cell BK384.out 1).trans rfl
        have hfs79 := blk_frozen BK384.out 1
        have hns79_0 := NB373_384.out
        have hns79_1 := NB383_384.out
        have hns79_3 := NB395_384.out
        have hms79_0 := NB384_373.out
        have hms79_1 := NB384_383.out
        have hms79_3 := NB384_395.out
        have hs80 : w74.cell? ⟨gb384, 2, none⟩ = some (.slice Ao62 x385002_1.length co62) := (blk_cell BK384.out 2).trans rfl
        have hfs80 := blk_frozen BK384.out 2
        have hns80_0 := NB373_384.out
        have hns80_1 := NB383_384.out
        have hns80_3 := NB395_384.out
        have hms80_0 := NB384_373.out
        have hms80_1 := NB384_383.out
        have hms80_3 := NB384_395.out
        refine skip_ (w1 := ?_) (by rfl) rfl ?_ ?_
        rotate_left
        ·go_simp
         rfl
        refine hK.out _ _ ?_
        clear hK K
        refine done_ (by kernel_rfl) ?_
        try go_wp2_with (go_step3)
        go_roundg kj21
        case measure => have := HK1.out; have := HJ21.out; omega
        case rel => exact ⟨(x385000_1), (x385001_1), (x385002_1), (t385), (t388), (t391), (.slice Ao55 x385000_1.length co55), (.slice Ao61 x385001_1.length co61), (.slice Ao62 x385002_1.length co62), (.slice Ao65 t385.length co65), (.slice Ao70 t388.length co70), (.slice Ao71 t391.length co71), H', ⟨by have := HK1.out; have := HJ21.out; omega⟩, ⟨by (with_reducible repeat (first | apply Kd.R_alloc | apply Kd.R_drewN | apply Kd.R_drew)); exact Kd.R_mono (Kd.R_far (p := ⟨gb384, 2, none⟩) (Kd.R_far (p := ⟨gb384, 1, none⟩) (Kd.R_far (p := ⟨gb384, 0, none⟩) (Kd.R_far (p := ⟨gb383, 2, none⟩) (Kd.R_far (p := ⟨gb383, 1, none⟩) (Kd.R_far (p := ⟨gb383, 0, none⟩) (Kd.R_types (Kd.R_types HO_385000.out BK383.out (by decide)) BK384.out (by decide)) (fun _ hk => hk.1.2) (.slice Ao55 x385000_1.length co55)) (fun _ hk => hk.1.2) (.slice Ao61 x385001_1.length co61)) (fun _ hk => hk.1.2) (.slice Ao62 x385002_1.length co62)) (fun _ hk => hk.2) (.slice Ao65 t385.length co65)) (fun _ hk => hk.2) (.slice Ao70 t388.length co70)) (fun _ hk => hk.2) (.slice Ao71 t391.length co71)) (fun _ hk => trivial)⟩, ⟨by (with_reducible repeat (first | apply Kd.R_alloc | apply Kd.R_drewN | apply Kd.R_drew)); exact Kd.R_mono (Kd.R_far (p := ⟨gb384, 2, none⟩) (Kd.R_far (p := ⟨gb384, 1, none⟩) (Kd.R_far (p := ⟨gb384, 0, none⟩) (Kd.R_far (p := ⟨gb383, 2, none⟩) (Kd.R_far (p := ⟨gb383, 1, none⟩) (Kd.R_far (p := ⟨gb383, 0, none⟩) (Kd.R_types (Kd.R_types HO_385001.out BK383.out (by decide)) BK384.out (by decide)) (fun _ hk => hk.1.2) (.slice Ao55 x385000_1.length co55)) (fun _ hk => hk.1.2) (.slice Ao61 x385001_1.length co61)) (fun _ hk => hk.1.2) (.slice Ao62 x385002_1.length co62)) (fun _ hk => hk.2) (.slice Ao65 t385.length co65)) (fun _ hk => hk.2) (.slice Ao70 t388.length co70)) (fun _ hk => hk.2) (.slice Ao71 t391.length co71)) (fun _ hk => trivial)⟩, ⟨by (with_reducible repeat (first | apply Kd.R_alloc | apply Kd.R_drewN | apply Kd.R_drew)); exact Kd.R_mono (Kd.R_far (p := ⟨gb384, 2, none⟩) (Kd.R_far (p := ⟨gb384, 1, none⟩) (Kd.R_far (p := ⟨gb384, 0, none⟩) (Kd.R_far (p := ⟨gb383, 2, none⟩) (Kd.R_far (p := ⟨gb383, 1, none⟩) (Kd.R_far (p := ⟨gb383, 0, none⟩) (Kd.R_types (Kd.R_types HO_385002.out BK383.out (by decide)) BK384.out (by decide)) (fun _ hk => hk.1.2) (.slice Ao55 x385000_1.length co55)) (fun _ hk => hk.1.2) (.slice Ao61 x385001_1.length co61)) (fun _ hk => hk.1.2) (.slice Ao62 x385002_1.length co62)) (fun _ hk => hk.2) (.slice Ao65 t385.length co65)) (fun _ hk => hk.2) (.slice Ao70 t388.length co70)) (fun _ hk => hk.2) (.slice Ao71 t391.length co71)) (fun _ hk => trivial)⟩, ⟨by (with_reducible repeat (first | apply Kd.R_alloc | apply Kd.R_drewN | apply Kd.R_drew)); exact Kd.R_mono (Kd.R_far (p := ⟨gb384, 2, none⟩) (Kd.R_far (p := ⟨gb384, 1, none⟩) (Kd.R_far (p := ⟨gb384, 0, none⟩) (Kd.R_far (p := ⟨gb383, 2, none⟩) (Kd.R_far (p := ⟨gb383, 1, none⟩) (Kd.R_far (p := ⟨gb383, 0, none⟩) (Kd.R_types (Kd.R_types HO387.out BK383.out (by decide)) BK384.out (by decide)) (fun _ hk => hk.1.2) (.slice Ao55 x385000_1.length co55)) (fun _ hk => hk.1.2) (.slice Ao61 x385001_1.length co61)) (fun _ hk => hk.1.2) (.slice Ao62 x385002_1.length co62)) (fun _ hk => hk.2) (.slice Ao65 t385.length co65)) (fun _ hk => hk.2) (.slice Ao70 t388.length co70)) (fun _ hk => hk.2) (.slice Ao71 t391.length co71)) (fun _ hk => trivial)⟩, ⟨by (with_reducible repeat (first | apply Kd.R_alloc | apply Kd.R_drewN | apply Kd.R_drew)); exact Kd.R_mono (Kd.R_far (p := ⟨gb384, 2, none⟩) (Kd.R_far (p := ⟨gb384, 1, none⟩) (Kd.R_far (p := ⟨gb384, 0, none⟩) (Kd.R_far (p := ⟨gb383, 2, none⟩) (Kd.R_far (p := ⟨gb383, 1, none⟩) (Kd.R_far (p := ⟨gb383, 0, none⟩) (Kd.R_types (Kd.R_types HO390.out BK383.out (by decide)) BK384.out (by decide)) (fun _ hk => hk.1.2) (.slice Ao55 x385000_1.length co55)) (fun _ hk => hk.1.2) (.slice Ao61 x385001_1.length co61)) (fun _ hk => hk.1.2) (.slice Ao62 x385002_1.length co62)) (fun _ hk => hk.2) (.slice Ao65 t385.length co65)) (fun _ hk => hk.2) (.slice Ao70 t388.length co70)) (fun _ hk => hk.2) (.slice Ao71 t391.length co71)) (fun _ hk => trivial)⟩, ⟨by (with_reducible repeat (first | apply Kd.R_alloc | apply Kd.R_drewN | apply Kd.R_drew)); exact Kd.R_mono (Kd.R_far (p := ⟨gb384, 2, none⟩) (Kd.R_far (p := ⟨gb384, 1, none⟩) (Kd.R_far (p := ⟨gb384, 0, none⟩) (Kd.R_far (p := ⟨gb383, 2, none⟩) (Kd.R_far (p := ⟨gb383, 1, none⟩) (Kd.R_far (p := ⟨gb383, 0, none⟩) (Kd.R_types (Kd.R_types HO393.out BK383.out (by decide)) BK384.out (by decide)) (fun _ hk => hk.1.2) (.slice Ao55 x385000_1.length co55)) (fun _ hk => hk.1.2) (.slice Ao61 x385001_1.length co61)) (fun _ hk => hk.1.2) (.slice Ao62 x385002_1.length co62)) (fun _ hk => hk.2) (.slice Ao65 t385.length co65)) (fun _ hk => hk.2) (.slice Ao70 t388.length co70)) (fun _ hk => hk.2) (.slice Ao71 t391.length co71)) (fun _ hk => trivial)⟩, ⟨by (with_reducible repeat (first | refine blk_drewN ?_ _ | refine blk_drew ?_ | refine blk_alloc ?_ _)); refine blk_far ?_ NB373_384.out _; (with_reducible repeat (first | refine blk_drewN ?_ _ | refine blk_drew ?_ | refine blk_alloc ?_ _)); refine blk_far ?_ NB373_384.out _; (with_reducible repeat (first | refine blk_drewN ?_ _ | refine blk_drew ?_ | refine blk_alloc ?_ _)); refine blk_far ?_ NB373_384.out _; (with_reducible repeat (first | refine blk_drewN ?_ _ | refine blk_drew ?_ | refine blk_alloc ?_ _)); refine blk_far ?_ NB373_383.out _; (with_reducible repeat (first | refine blk_drewN ?_ _ | refine blk_drew ?_ | refine blk_alloc ?_ _)); refine blk_far ?_ NB373_383.out _; (with_reducible repeat (first | refine blk_drewN ?_ _ | refine blk_drew ?_ | refine blk_alloc ?_ _)); refine blk_far ?_ NB373_383.out _; (with_reducible repeat (first | refine blk_drewN ?_ _ | refine blk_drew ?_ | refine blk_alloc ?_ _)); exact BK373.out⟩, ⟨by (with_reducible repeat (first | refine blk_drewN ?_ _ | refine blk_drew ?_ | refine blk_alloc ?_ _)); refine blk_far ?_ NB383_384.out _; (with_reducible repeat (first | refine blk_drewN ?_ _ | refine blk_drew ?_ | refine blk_alloc ?_ _)); refine blk_far ?_ NB383_384.out _; (with_reducible repeat (first | refine blk_drewN ?_ _ | refine blk_drew ?_ | refine blk_alloc ?_ _)); refine blk_far ?_ NB383_384.out _; (with_reducible repeat (first | refine blk_drewN ?_ _ | refine blk_drew ?_ | refine blk_alloc ?_ _)); refine blk_put (cs := #[.slice Ao55 x385000_1.length co55, .slice Ao61 x385001_1.length co61, .slice Ao60 x384002_1.length co60]) ?_ 2 _ rfl; (with_reducible repeat (first | refine blk_drewN ?_ _ | refine blk_drew ?_ | refine blk_alloc ?_ _)); refine blk_put (cs := #[.slice Ao55 x385000_1.length co55, .slice Ao59 x384001_1.length co59, .slice Ao60 x384002_1.length co60]) ?_ 1 _ rfl; (with_reducible repeat (first | refine blk_drewN ?_ _ | refine blk_drew ?_ | refine blk_alloc ?_ _)); refine blk_put (cs := #[.slice Ao58 x384000_1.length co58, .slice Ao59 x384001_1.length co59, .slice Ao60 x384002_1.length co60]) ?_ 0 _ rfl; (with_reducible repeat (first | refine blk_drewN ?_ _ | refine blk_drew ?_ | refine blk_alloc ?_ _)); exact BK383.out⟩, ⟨by (with_reducible repeat (first | refine blk_drewN ?_ _ | refine blk_drew ?_ | refine blk_alloc ?_ _)); refine blk_put (cs := #[.slice Ao65 t385.length co65, .slice Ao70 t388.length co70, .slice Ao62 x385002_1.length co62]) ?_ 2 _ rfl; (with_reducible repeat (first | refine blk_drewN ?_ _ | refine blk_drew ?_ | refine blk_alloc ?_ _)); refine blk_put (cs := #[.slice Ao65 t385.length co65, .slice Ao61 x385001_1.length co61, .slice Ao62 x385002_1.length co62]) ?_ 1 _ rfl; (with_reducible repeat (first | refine blk_drewN ?_ _ | refine blk_drew ?_ | refine blk_alloc ?_ _)); refine blk_put (cs := #[.slice Ao55 x385000_1.length co55, .slice Ao61 x385001_1.length co61, .slice Ao62 x385002_1.length co62]) ?_ 0 _ rfl; (with_reducible repeat (first | refine blk_drewN ?_ _ | refine blk_drew ?_ | refine blk_alloc ?_ _)); refine blk_far ?_ NB384_383.out _; (with_reducible repeat (first | refine blk_drewN ?_ _ | refine blk_drew ?_ | refine blk_alloc ?_ _)); refine blk_far ?_ NB384_383.out _; (with_reducible repeat (first | refine blk_drewN ?_ _ | refine blk_drew ?_ | refine blk_alloc ?_ _)); refine blk_far ?_ NB384_383.out _; (with_reducible repeat (first | refine blk_drewN ?_ _ | refine blk_drew ?_ | refine blk_alloc ?_ _)); exact BK384.out⟩, ⟨hs_⟩⟩
       ·rw [if_neg c72] at H
        have c72b0 : (t394 == 0) = false := beq_eq_false_iff_ne.mpr c72
        have c72b1 : (t394 != 0) = true := bne_iff_ne.mpr c72
        (first | rw [c72b0] | rw [c72b1] | (simp only [i64_w, i32_w]; first | rw [c72b0] | rw [c72b1]) | skip)
        simp only [Option.some.injEq, Prod.mk.injEq] at H
        obtain ⟨rfl, rfl, rfl, rfl⟩ := H
        have hnb81 := NB373_383.out
        have hnc81 := NB383_373.out
        have hnb82 := NB373_384.out
        have hnc82 := NB384_373.out
        have hnb83 := NB373_395.out
        have hnc83 := NB395_373.out
        have hcz84_0 : w64.cell? ⟨gb373, 0, none⟩ = some (.slice none 0 0) := (blk_cell BK373.out 0).trans rfl
        have hcz84_1 : w64.cell? ⟨gb373, 1, none⟩ = some (.slice none 0 0) := (blk_cell BK373.out 1).trans rfl
        have hcz84_2 : w64.cell? ⟨gb373, 2, none⟩ = some (.slice none 0 0) := (blk_cell BK373.out 2).trans rfl
        have hfz84_0 := blk_frozen BK373.out 0
        have hfz84_1 := blk_frozen BK373.out 1
        have hfz84_2 := blk_frozen BK373.out 2
        go_wp2_with (go_step3)
        (try rw [Exit.noGoto_ret])
        refine bodyPost_ret (results_ct rfl _ _ gb373 61 #[.slice none 0 0, .slice none 0 0, .slice none 0 0] (0, 0) _ rfl (by (with_reducible repeat (first | refine blk_drewN ?_ _ | refine blk_drew ?_ | refine blk_alloc ?_ _)); refine blk_put (cs := #[.slice none 0 0, .slice none 0 0, .slice none 0 0]) ?_ 2 _ rfl; (with_reducible repeat (first | refine blk_drewN ?_ _ | refine blk_drew ?_ | refine blk_alloc ?_ _)); refine blk_put (cs := #[.slice none 0 0, .slice none 0 0, .slice none 0 0]) ?_ 1 _ rfl; (with_reducible repeat (first | refine blk_drewN ?_ _ | refine blk_drew ?_ | refine blk_alloc ?_ _)); refine blk_put (cs := #[.slice none 0 0, .slice none 0 0, .slice none 0 0]) ?_ 0 _ rfl; (with_reducible repeat (first | refine blk_drewN ?_ _ | refine blk_drew ?_ | refine blk_alloc ?_ _)); refine blk_far ?_ NB373_395.out _; (with_reducible repeat (first | refine blk_drewN ?_ _ | refine blk_drew ?_ | refine blk_alloc ?_ _)); refine blk_far ?_ NB373_395.out _; (with_reducible repeat (first | refine blk_drewN ?_ _ | refine blk_drew ?_ | refine blk_alloc ?_ _)); refine blk_far ?_ NB373_395.out _; (with_reducible repeat (first | refine blk_drewN ?_ _ | refine blk_drew ?_ | refine blk_alloc ?_ _)); exact BK373.out) Try.underlying61 rfl (by kernel_rfl)) rfl ?_
        exact ⟨_, _, _, fr_, by first | exact Kd.R_nil _ _ _ _ _ | exact Kd.N_nil _ _ _ _ _ | exact Kd.V_nil _ _ _ _ _ | exact Kd.Q_nil _ _ _ _ _ | exact Kd.S_nil _ _ _ _ _, by first | exact Kd.R_nil _ _ _ _ _ | exact Kd.N_nil _ _ _ _ _ | exact Kd.V_nil _ _ _ _ _ | exact Kd.Q_nil _ _ _ _ _ | exact Kd.S_nil _ _ _ _ _, by first | exact Kd.R_nil _ _ _ _ _ | exact Kd.N_nil _ _ _ _ _ | exact Kd.V_nil _ _ _ _ _ | exact Kd.Q_nil _ _ _ _ _ | exact Kd.S_nil _ _ _ _ _, hs_⟩
end Go.Proofs.Yteofgcmgncaojaa.PEuclidMade
