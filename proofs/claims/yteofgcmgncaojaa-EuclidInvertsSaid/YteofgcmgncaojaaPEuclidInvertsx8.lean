/- The Go functions as Lean functions, each with the proof that its call comes to just that; written by a program of this session, by the words of the print. -/
import Derived.Test.YteofgcmgncaojaaPEuclidInvertsx0
import Derived.Test.YteofgcmgncaojaaPEuclidInvertsx2
import Derived.Test.YteofgcmgncaojaaPEuclidInvertsx7
namespace Go.Proofs.Yteofgcmgncaojaa.PEuclidInverts
open Go.RowKit Go.Proofs.YteofgcmgncaojaaW.PrintWords Go.Proofs.YteofgcmgncaojaaW.PrintLast Go.Proofs.YteofgcmgncaojaaW.PrintMore
attribute [local go_sem] max2_int min2_int max_two min_two max_three min_three max_four min_four   -- for this text's walks alone
set_option linter.unusedVariables false
set_option linter.unusedSimpArgs false
/-! ### euclid_partial: function 34 -/
mutual
def euclid_partial.l0 : Nat → Int → Int → List Int → List Int → List Int → List Int → List Int → List Int → Option (List Int × List Int × List Int × Int)
 | 0, _, _, _, _, _, _, _, _ => none
 | k + 1, x0, x3, x377000, x377001, x377002, x378000, x378001, x378002 => if (wrap64 ((x377000.length : Int) - 1)) < x3 then (euclid_partial.j1 k x0 x3 true x377000 x377001 x377002 x378000 x378001 x378002) else (euclid_partial.j1 k x0 x3 ((x377000.length : Int) == 0) x377000 x377001 x377002 x378000 x378001 x378002)
def euclid_partial.j1 : Nat → Int → Int → Bool → List Int → List Int → List Int → List Int → List Int → List Int → Option (List Int × List Int × List Int × Int)
 | 0, _, _, _, _, _, _, _, _, _ => none
 | k + 1, x0, x3, x35, x377000, x377001, x377002, x378000, x378001, x378002 => if x35 = true then (some (x377000, x377001, x377002, 0)) else (if (x378000.length : Int) = 0 then (euclid_partial.l0 k x0 x3 x378000 x378001 x378002 x378000 x378001 x378002) else ((euclid_next.f k x0 x377000 x377001 x377002 x378000 x378001 x378002).bind fun bt378 => (if bt378.2.2.2 = 0 then (euclid_partial.l0 k x0 x3 x378000 x378001 x378002 bt378.1 bt378.2.1 bt378.2.2.1) else (some (([] : List Int), ([] : List Int), ([] : List Int), bt378.2.2.2)))))
end
def euclid_partial.f (k : Nat) (a0 : Int) (l1 : List Int) (l2 : List Int) (a3 : Int) : Option (List Int × List Int × List Int × Int) := (some (([1] : List Int) : List Int)).bind fun y367 => ((poly_Trim.f k l1).bind fun t370 => ((poly_Trim.f k l2).bind fun t373 => (euclid_partial.l0 k a0 a3 t370 y367 ([] : List Int) t373 ([] : List Int) y367)))
theorem euclid_partial.mono_l : ∀ k, (∀ y0 y1 y2 y3 y4 y5 y6 y7, LeO (euclid_partial.l0 k y0 y1 y2 y3 y4 y5 y6 y7) (euclid_partial.l0 (k + 1) y0 y1 y2 y3 y4 y5 y6 y7)) ∧ (∀ y0 y1 y2 y3 y4 y5 y6 y7 y8, LeO (euclid_partial.j1 k y0 y1 y2 y3 y4 y5 y6 y7 y8) (euclid_partial.j1 (k + 1) y0 y1 y2 y3 y4 y5 y6 y7 y8))
 | 0 => ⟨fun _ _ _ _ _ _ _ _ r h => by simp [euclid_partial.l0] at h, fun _ _ _ _ _ _ _ _ _ r h => by simp [euclid_partial.j1] at h⟩
 | k + 1 => by
  obtain ⟨ih0, ih1⟩ := euclid_partial.mono_l k
  refine ⟨?_, ?_⟩
  ·intro y0 y1 y2 y3 y4 y5 y6 y7
   unfold euclid_partial.l0
   repeat' first
   | (with_reducible exact ih0 _ _ _ _ _ _ _ _)
   | (with_reducible exact ih1 _ _ _ _ _ _ _ _ _)
   | (with_reducible exact euclid_next.mono _ _ _ _ _ _ _ _)
   | (with_reducible exact poly_Trim.mono _ _)
   | (with_reducible exact LeO.refl _)
   | (with_reducible exact LeO.none _)
   | (with_reducible refine LeO.ite ?_ ?_)
   | (with_reducible refine LeO.bind ?_ (fun _ => ?_))
   | exact ih0 _ _ _ _ _ _ _ _
   | exact ih1 _ _ _ _ _ _ _ _ _
   | exact euclid_next.mono _ _ _ _ _ _ _ _
   | exact poly_Trim.mono _ _
   | exact LeO.none _
   | refine LeO.ite ?_ ?_
   | refine LeO.bind ?_ (fun _ => ?_)
  ·intro y0 y1 y2 y3 y4 y5 y6 y7 y8
   unfold euclid_partial.j1
   repeat' first
   | (with_reducible exact ih0 _ _ _ _ _ _ _ _)
   | (with_reducible exact ih1 _ _ _ _ _ _ _ _ _)
   | (with_reducible exact euclid_next.mono _ _ _ _ _ _ _ _)
   | (with_reducible exact poly_Trim.mono _ _)
   | (with_reducible exact LeO.refl _)
   | (with_reducible exact LeO.none _)
   | (with_reducible refine LeO.ite ?_ ?_)
   | (with_reducible refine LeO.bind ?_ (fun _ => ?_))
   | exact ih0 _ _ _ _ _ _ _ _
   | exact ih1 _ _ _ _ _ _ _ _ _
   | exact euclid_next.mono _ _ _ _ _ _ _ _
   | exact poly_Trim.mono _ _
   | exact LeO.none _
   | refine LeO.ite ?_ ?_
   | refine LeO.bind ?_ (fun _ => ?_)
theorem euclid_partial.mono : ∀ a0 a1 a2 a3 k, LeO (euclid_partial.f k a0 a1 a2 a3) (euclid_partial.f (k + 1) a0 a1 a2 a3) := by
 intro a0 a1 a2 a3 k
 obtain ⟨ih0, ih1⟩ := euclid_partial.mono_l k
 unfold euclid_partial.f
 repeat' first
   | (with_reducible exact ih0 _ _ _ _ _ _ _ _)
   | (with_reducible exact ih1 _ _ _ _ _ _ _ _ _)
   | (with_reducible exact euclid_next.mono _ _ _ _ _ _ _ _)
   | (with_reducible exact poly_Trim.mono _ _)
   | (with_reducible exact LeO.refl _)
   | (with_reducible exact LeO.none _)
   | (with_reducible refine LeO.ite ?_ ?_)
   | (with_reducible refine LeO.bind ?_ (fun _ => ?_))
   | exact ih0 _ _ _ _ _ _ _ _
   | exact ih1 _ _ _ _ _ _ _ _ _
   | exact euclid_next.mono _ _ _ _ _ _ _ _
   | exact poly_Trim.mono _ _
   | exact LeO.none _
   | refine LeO.ite ?_ ?_
   | refine LeO.bind ?_ (fun _ => ?_)
set_option maxHeartbeats 8000000 in
set_option maxRecDepth 100000 in
theorem euclid_partial.calls (k : Nat) (a0 : Int) (A1 : Option Addr) (c1 : Nat) (l1 : List Int) (A2 : Option Addr) (c2 : Nat) (l2 : List Int) (a3 : Int) (r1 : List Int) (r2 : List Int) (r3 : List Int) (r4 : Int) (w : World) (hr1 : Kd.C (Kd.int .u64) w A1 l1.length l1) (hc1 : l1.length ≤ c1) (hr2 : Kd.C (Kd.int .u64) w A2 l2.length l2) (hc2 : l2.length ≤ c2) (h : euclid_partial.f k a0 l1 l2 a3 = some (r1, r2, r3, r4)) :
  Calls Try.prog 34 #[.int .u8 a0, .slice A1 l1.length c1, .slice A2 l2.length c2, .int .i64 a3] w fun e w' => ∃ v0_ v1_ v2_ : Value, e = .returned (.tuple #[.agg #[v0_, v1_, v2_], .int .i64 r4]) ∧ Kd.R (Kd.int .u64) 40 w' w.heap.size (fun _ => True) v0_ r1 ∧ Kd.R (Kd.int .u64) 40 w' w.heap.size (fun _ => True) v1_ r2 ∧ Kd.R (Kd.int .u64) 40 w' w.heap.size (fun _ => True) v2_ r3 ∧ Below w.heap.size w w' := by
 have hu61 := Try.underlying61
 have HR1 := Aside0.mk hr1
 have HC1 := Aside0.mk hc1
 clear hr1 hc1
 have HR2 := Aside0.mk hr2
 have HC2 := Aside0.mk hc2
 clear hr2 hc2
 have HB := A_ (Below.refl w.heap.size w)
 have H : ((some (([1] : List Int) : List Int)).bind fun y367 => ((poly_Trim.f k l1).bind fun t370 => ((poly_Trim.f k l2).bind fun t373 => (euclid_partial.l0 k a0 a3 t370 y367 ([] : List Int) t373 ([] : List Int) y367)))) = some (r1, r2, r3, r4) := h
 clear h
 obtain ⟨y367, hy367⟩ : ∃ y_ : List Int, y_ = (([1] : List Int)) := ⟨_, rfl⟩
 replace H : ((poly_Trim.f k l1).bind fun t370 => ((poly_Trim.f k l2).bind fun t373 => (euclid_partial.l0 k a0 a3 t370 y367 ([] : List Int) t373 ([] : List Int) y367))) = some (r1, r2, r3, r4) := by first | (rw [hy367]; with_reducible exact H) | (have H2_ := (Option.bind_some _ _).symm.trans H; rw [hy367]; with_reducible exact H2_) | (have H2_ := (Option.bind_some _ _).symm.trans H; with_reducible exact H2_) | with_reducible exact H | (rw [hy367]; exact H) | exact H
 have Ny367 := Aside0.mk hy367
 clear hy367
 replace H := Option.bind_eq_some_iff.mp H
 obtain ⟨t370, A50, H⟩ := H
 replace H : ((poly_Trim.f k l2).bind fun t373 => (euclid_partial.l0 k a0 a3 t370 y367 ([] : List Int) t373 ([] : List Int) y367)) = some (r1, r2, r3, r4) := H
 have A5 := Aside0.mk A50
 clear A50
 replace H := Option.bind_eq_some_iff.mp H
 obtain ⟨t373, A60, H⟩ := H
 replace H : (euclid_partial.l0 k a0 a3 t370 y367 ([] : List Int) t373 ([] : List Int) y367) = some (r1, r2, r3, r4) := H
 have A6 := Aside0.mk A60
 clear A60
 have H' := Aside0.mk H
 clear H
 go_enter Try.func34, Try.ntmps34
 go_wp2_with (first | go_step3 | ((with_reducible refine gate_dst (N := 8) rfl ?_); (try (refine gate_guard (by rfl) ?_; dsimp only)); refine box_event ?hg (N := 8) ?hd (cs := #[.slice none 0 0, .slice none 0 0, .slice none 0 0]) (t := 61) ?hr ?_; (case hd => rfl); (case hg => rfl); (case hr => first | (go_simp; done) | (go_simp; rfl)); intro gb366 hg w7 hbox hb; have n0_ := A_ (below_step hb_ hb); have n1_ := A_ (hbox); have n2_ := A_ ((by rw [hg]; exact (below_size hb_) : w.heap.size ≤ gb366)); have n3_ := A_ ((by rw [hg]; exact (below_size hb_) : w.heap.size ≤ gb366)); clear HB; have HB := n0_; have BK366 := n1_; have GW366 := n2_; have GE366 := n3_; clear n0_ n1_ n2_ n3_; clear hb hbox hg) | ((with_reducible refine gate_dst (N := 15) rfl ?_); (try (refine gate_guard (by rfl) ?_; dsimp only)); refine Kd.R_lit (Kd.int .u64) _ 40 ?hg (N := 15) ?hd (xs := ([1] : List Int)) (inner := [.int .u64 1]) (ok := fun _ => True) (okp := fun _ => True) ?hr ?hp (fun _ hk => hk) trivial (Below.refl _ _) (Nat.le_refl _) (by simp) ?_; (case hd => rfl); (case hg => rfl); (case hr => first | (go_simp; done) | (go_simp; rfl)); (case hp => exact (Reps.one (show Kd.M (Kd.int .u64) _ _ _ 1 [.int .u64 1] from rfl) (Reps.none _ _))); intro v368 w8 ho9 hb hg_ hnew_; clear hg_ hnew_; (first | rw [← Ny367.out] at ho9 | (simp only [Int.reduceToNat] at ho9; rw [← Ny367.out] at ho9)); have n0_ := A_ (Kd.R_lower (Kd.R_mono (ok' := fun _ => True) ho9 (fun _ _ => trivial)) (below_size hs_)); have n1_ := A_ (blk_below (g := gb366) (o := .cells #[.slice none 0 0, .slice none 0 0, .slice none 0 0] 61 (0, 0)) (nb_ BK366) hb); have n2_ := A_ (below_step hs_ hb); clear BK366 HB; have HO369 := n0_; have BK366 := n1_; have HB := n2_; clear n0_ n1_ n2_; clear hb ho9) | ((with_reducible refine gate_callee (f := 28) rfl ?_); refine goesM_ (some 17) Try.func28 #[.slice A1 l1.length c1] ?_; (with_reducible refine (poly_Trim.calls k _ _ l1 t370 _ ?side1 ?side2 A5.out).mono ?_); (case side1 => repeat (first | exact (Kd.C_below HR1.out HB.out) | (with_reducible refine Kd.C_alloc ?_ _) | (with_reducible refine Kd.C_drewN ?_ _) | (with_reducible refine Kd.C_drew ?_))); (case side2 => exact HC1.out); rintro e w10 ⟨v371, rfl, ho0, hb⟩; refine ⟨_, rfl, ?_⟩; have n0_ := A_ (Kd.R_below (nR_ HO369) hb); have n1_ := A_ (Kd.R_lower (Kd.R_mono (ok' := fun _ => True) ho0 (fun _ _ => trivial)) (below_size hs_)); have n2_ := A_ (blk_below (g := gb366) (o := .cells #[.slice none 0 0, .slice none 0 0, .slice none 0 0] 61 (0, 0)) (nb_ BK366) hb); have n3_ := A_ (below_step hs_ hb); clear HO369 BK366 HB; have HO369 := n0_; have HO372 := n1_; have BK366 := n2_; have HB := n3_; clear n0_ n1_ n2_ n3_; (try clear hb); (try clear ho0); obtain ⟨Ao11, co11, eo11⟩ := Kd.R_slice HO369.out; subst eo11; obtain ⟨Ao12, co12, eo12⟩ := Kd.R_slice HO372.out; subst eo12) | ((with_reducible refine gate_callee (f := 28) rfl ?_); refine goesM_ (some 21) Try.func28 #[.slice A2 l2.length c2] ?_; (with_reducible refine (poly_Trim.calls k _ _ l2 t373 _ ?side1 ?side2 A6.out).mono ?_); (case side1 => repeat (first | exact (Kd.C_below HR2.out HB.out) | (with_reducible refine Kd.C_alloc ?_ _) | (with_reducible refine Kd.C_drewN ?_ _) | (with_reducible refine Kd.C_drew ?_))); (case side2 => exact HC2.out); rintro e w13 ⟨v374, rfl, ho0, hb⟩; refine ⟨_, rfl, ?_⟩; have n0_ := A_ (Kd.R_below (nR_ HO369) hb); have n1_ := A_ (Kd.R_below (nR_ HO372) hb); have n2_ := A_ (Kd.R_lower (Kd.R_mono (ok' := fun _ => True) ho0 (fun _ _ => trivial)) (below_size hs_)); have n3_ := A_ (blk_below (g := gb366) (o := .cells #[.slice none 0 0, .slice none 0 0, .slice none 0 0] 61 (0, 0)) (nb_ BK366) hb); have n4_ := A_ (below_step hs_ hb); clear HO369 HO372 BK366 HB; have HO369 := n0_; have HO372 := n1_; have HO375 := n2_; have BK366 := n3_; have HB := n4_; clear n0_ n1_ n2_ n3_ n4_; (try clear hb); (try clear ho0); obtain ⟨Ao14, co14, eo14⟩ := Kd.R_slice HO375.out; subst eo14) | ((with_reducible refine gate_dst (N := 11) rfl ?_); (try (refine gate_guard (by rfl) ?_; dsimp only)); refine box_event ?hg (N := 11) ?hd (cs := #[.slice none 0 0, .slice none 0 0, .slice none 0 0]) (t := 61) ?hr ?_; (case hd => rfl); (case hg => rfl); (case hr => first | (go_simp; done) | (go_simp; rfl)); intro gb376 hg w15 hbox hb; have n0_ := A_ (Kd.R_below (nR_ HO369) hb); have n1_ := A_ (Kd.R_below (nR_ HO372) hb); have n2_ := A_ (Kd.R_below (nR_ HO375) hb); have n3_ := A_ (blk_below (g := gb366) (o := .cells #[.slice none 0 0, .slice none 0 0, .slice none 0 0] 61 (0, 0)) (nb_ BK366) hb); have n4_ := A_ (below_step hs_ hb); have n5_ := A_ (hbox); have n6_ := A_ ((by rw [hg]; exact (below_size hs_) : w.heap.size ≤ gb376)); have n7_ := A_ ((by rw [hg]; exact (below_size hs_) : w.heap.size ≤ gb376)); have n8_ := A_ ((by rw [hg]; exact Nat.ne_of_lt (blk_lt (g := gb366) (o := .cells #[.slice none 0 0, .slice none 0 0, .slice none 0 0] 61 (0, 0)) (nb_ BK366)) : gb366 ≠ gb376)); have n9_ := A_ ((by rw [hg]; exact Nat.ne_of_gt (blk_lt (g := gb366) (o := .cells #[.slice none 0 0, .slice none 0 0, .slice none 0 0] 61 (0, 0)) (nb_ BK366)) : gb376 ≠ gb366)); clear HO369 HO372 HO375 BK366 HB; have HO369 := n0_; have HO372 := n1_; have HO375 := n2_; have BK366 := n3_; have HB := n4_; have BK376 := n5_; have GW376 := n6_; have GE376 := n7_; have NB366_376 := n8_; have NB376_366 := n9_; clear n0_ n1_ n2_ n3_ n4_ n5_ n6_ n7_ n8_ n9_; clear hb hbox hg) | ((with_reducible refine gate_dst (N := 12) rfl ?_); (try (refine gate_guard (by rfl) ?_; dsimp only)); refine box_event ?hg (N := 12) ?hd (cs := #[.slice none 0 0, .slice none 0 0, .slice none 0 0]) (t := 61) ?hr ?_; (case hd => rfl); (case hg => rfl); (case hr => first | (go_simp; done) | (go_simp; rfl)); intro gb377 hg w16 hbox hb; have n0_ := A_ (Kd.R_below (nR_ HO369) hb); have n1_ := A_ (Kd.R_below (nR_ HO372) hb); have n2_ := A_ (Kd.R_below (nR_ HO375) hb); have n3_ := A_ (blk_below (g := gb366) (o := .cells #[.slice none 0 0, .slice none 0 0, .slice none 0 0] 61 (0, 0)) (nb_ BK366) hb); have n4_ := A_ (blk_below (g := gb376) (o := .cells #[.slice none 0 0, .slice none 0 0, .slice none 0 0] 61 (0, 0)) (nb_ BK376) hb); have n5_ := A_ (below_step hs_ hb); have n6_ := A_ (hbox); have n7_ := A_ ((by rw [hg]; exact (below_size hs_) : w.heap.size ≤ gb377)); have n8_ := A_ ((by rw [hg]; exact (below_size hs_) : w.heap.size ≤ gb377)); have n9_ := A_ ((by rw [hg]; exact Nat.ne_of_lt (blk_lt (g := gb366) (o := .cells #[.slice none 0 0, .slice none 0 0, .slice none 0 0] 61 (0, 0)) (nb_ BK366)) : gb366 ≠ gb377)); have n10_ := A_ ((by rw [hg]; exact Nat.ne_of_gt (blk_lt (g := gb366) (o := .cells #[.slice none 0 0, .slice none 0 0, .slice none 0 0] 61 (0, 0)) (nb_ BK366)) : gb377 ≠ gb366)); have n11_ := A_ ((by rw [hg]; exact Nat.ne_of_lt (blk_lt (g := gb376) (o := .cells #[.slice none 0 0, .slice none 0 0, .slice none 0 0] 61 (0, 0)) (nb_ BK376)) : gb376 ≠ gb377)); have n12_ := A_ ((by rw [hg]; exact Nat.ne_of_gt (blk_lt (g := gb376) (o := .cells #[.slice none 0 0, .slice none 0 0, .slice none 0 0] 61 (0, 0)) (nb_ BK376)) : gb377 ≠ gb376)); clear HO369 HO372 HO375 BK366 BK376 HB; have HO369 := n0_; have HO372 := n1_; have HO375 := n2_; have BK366 := n3_; have BK376 := n4_; have HB := n5_; have BK377 := n6_; have GW377 := n7_; have GE377 := n8_; have NB366_377 := n9_; have NB377_366 := n10_; have NB376_377 := n11_; have NB377_376 := n12_; clear n0_ n1_ n2_ n3_ n4_ n5_ n6_ n7_ n8_ n9_ n10_ n11_ n12_; clear hb hbox hg; have hnb17 := NB376_366.out; have hnc17 := NB366_376.out; have hnb18 := NB376_377.out; have hnc18 := NB377_376.out; have hcz19_0 : w16.cell? ⟨gb376, 0, none⟩ = some (.slice none 0 0) := (blk_cell BK376.out 0).trans rfl; have hcz19_1 : w16.cell? ⟨gb376, 1, none⟩ = some (.slice none 0 0) := (blk_cell BK376.out 1).trans rfl; have hcz19_2 : w16.cell? ⟨gb376, 2, none⟩ = some (.slice none 0 0) := (blk_cell BK376.out 2).trans rfl; have hfz19_0 := blk_frozen BK376.out 0; have hfz19_1 := blk_frozen BK376.out 1; have hfz19_2 := blk_frozen BK376.out 2; have hnb20 := NB377_366.out; have hnc20 := NB366_377.out; have hcz21_0 : w16.cell? ⟨gb377, 0, none⟩ = some (.slice none 0 0) := (blk_cell BK377.out 0).trans rfl; have hcz21_1 : w16.cell? ⟨gb377, 1, none⟩ = some (.slice none 0 0) := (blk_cell BK377.out 1).trans rfl; have hcz21_2 : w16.cell? ⟨gb377, 2, none⟩ = some (.slice none 0 0) := (blk_cell BK377.out 2).trans rfl; have hfz21_0 := blk_frozen BK377.out 0; have hfz21_1 := blk_frozen BK377.out 1; have hfz21_2 := blk_frozen BK377.out 2))
 go_loopg [] k (fun kq w' => ∃ (x377000_1 : List Int) (x377001_1 : List Int) (x377002_1 : List Int) (x378000_1 : List Int) (x378001_1 : List Int) (x378002_1 : List Int) (u377000 : Value) (u377001 : Value) (u377002 : Value) (u378000 : Value) (u378001 : Value) (u378002 : Value), Aside0 (euclid_partial.l0 kq a0 a3 x377000_1 x377001_1 x377002_1 x378000_1 x378001_1 x378002_1 = some (r1, r2, r3, r4)) ∧ Aside0 (kq ≤ k) ∧ Aside0 (Kd.R (Kd.int .u64) 40 w' w.heap.size (fun _ => True) u377000 x377000_1) ∧ Aside0 (Kd.R (Kd.int .u64) 40 w' w.heap.size (fun _ => True) u377001 x377001_1) ∧ Aside0 (Kd.R (Kd.int .u64) 40 w' w.heap.size (fun _ => True) u377002 x377002_1) ∧ Aside0 (Kd.R (Kd.int .u64) 40 w' w.heap.size (fun _ => True) u378000 x378000_1) ∧ Aside0 (Kd.R (Kd.int .u64) 40 w' w.heap.size (fun _ => True) u378001 x378001_1) ∧ Aside0 (Kd.R (Kd.int .u64) 40 w' w.heap.size (fun _ => True) u378002 x378002_1) ∧ Aside0 (w'.heap[gb366]? = some (.cells #[(.slice none 0 0), (.slice none 0 0), (.slice none 0 0)] 61 (0, 0))) ∧ Aside0 (w'.heap[gb376]? = some (.cells #[u377000, u377001, u377002] 61 (0, 0))) ∧ Aside0 (w'.heap[gb377]? = some (.cells #[u378000, u378001, u378002] 61 (0, 0))) ∧ Aside0 (Below w.heap.size w w'))
 case atStart => exact ⟨(t370), (y367), (([] : List Int)), (t373), (([] : List Int)), (y367), (.slice Ao12 t370.length co12), (.slice Ao11 y367.length co11), (.slice none 0 0), (.slice Ao14 t373.length co14), (.slice none 0 0), (.slice Ao11 y367.length co11), H', ⟨Nat.le_refl _⟩, ⟨by (with_reducible repeat (first | apply Kd.R_alloc | apply Kd.R_drewN | apply Kd.R_drew)); exact Kd.R_mono (Kd.R_far (p := ⟨gb377, 2, none⟩) (Kd.R_far (p := ⟨gb377, 1, none⟩) (Kd.R_far (p := ⟨gb377, 0, none⟩) (Kd.R_far (p := ⟨gb376, 2, none⟩) (Kd.R_far (p := ⟨gb376, 1, none⟩) (Kd.R_far (p := ⟨gb376, 0, none⟩) (Kd.R_types (Kd.R_types HO372.out BK376.out (by decide)) BK377.out (by decide)) (fun _ hk => hk.1.2) (.slice Ao12 t370.length co12)) (fun _ hk => hk.1.2) (.slice Ao11 y367.length co11)) (fun _ hk => hk.1.2) (.slice none 0 0)) (fun _ hk => hk.2) (.slice Ao14 t373.length co14)) (fun _ hk => hk.2) (.slice none 0 0)) (fun _ hk => hk.2) (.slice Ao11 y367.length co11)) (fun _ hk => trivial)⟩, ⟨by (with_reducible repeat (first | apply Kd.R_alloc | apply Kd.R_drewN | apply Kd.R_drew)); exact Kd.R_mono (Kd.R_far (p := ⟨gb377, 2, none⟩) (Kd.R_far (p := ⟨gb377, 1, none⟩) (Kd.R_far (p := ⟨gb377, 0, none⟩) (Kd.R_far (p := ⟨gb376, 2, none⟩) (Kd.R_far (p := ⟨gb376, 1, none⟩) (Kd.R_far (p := ⟨gb376, 0, none⟩) (Kd.R_types (Kd.R_types HO369.out BK376.out (by decide)) BK377.out (by decide)) (fun _ hk => hk.1.2) (.slice Ao12 t370.length co12)) (fun _ hk => hk.1.2) (.slice Ao11 y367.length co11)) (fun _ hk => hk.1.2) (.slice none 0 0)) (fun _ hk => hk.2) (.slice Ao14 t373.length co14)) (fun _ hk => hk.2) (.slice none 0 0)) (fun _ hk => hk.2) (.slice Ao11 y367.length co11)) (fun _ hk => trivial)⟩, ⟨by first | exact Kd.R_nil _ _ _ _ _ | exact Kd.N_nil _ _ _ _ _ | exact Kd.V_nil _ _ _ _ _ | exact Kd.Q_nil _ _ _ _ _ | exact Kd.S_nil _ _ _ _ _⟩, ⟨by (with_reducible repeat (first | apply Kd.R_alloc | apply Kd.R_drewN | apply Kd.R_drew)); exact Kd.R_mono (Kd.R_far (p := ⟨gb377, 2, none⟩) (Kd.R_far (p := ⟨gb377, 1, none⟩) (Kd.R_far (p := ⟨gb377, 0, none⟩) (Kd.R_far (p := ⟨gb376, 2, none⟩) (Kd.R_far (p := ⟨gb376, 1, none⟩) (Kd.R_far (p := ⟨gb376, 0, none⟩) (Kd.R_types (Kd.R_types HO375.out BK376.out (by decide)) BK377.out (by decide)) (fun _ hk => hk.1.2) (.slice Ao12 t370.length co12)) (fun _ hk => hk.1.2) (.slice Ao11 y367.length co11)) (fun _ hk => hk.1.2) (.slice none 0 0)) (fun _ hk => hk.2) (.slice Ao14 t373.length co14)) (fun _ hk => hk.2) (.slice none 0 0)) (fun _ hk => hk.2) (.slice Ao11 y367.length co11)) (fun _ hk => trivial)⟩, ⟨by first | exact Kd.R_nil _ _ _ _ _ | exact Kd.N_nil _ _ _ _ _ | exact Kd.V_nil _ _ _ _ _ | exact Kd.Q_nil _ _ _ _ _ | exact Kd.S_nil _ _ _ _ _⟩, ⟨by (with_reducible repeat (first | apply Kd.R_alloc | apply Kd.R_drewN | apply Kd.R_drew)); exact Kd.R_mono (Kd.R_far (p := ⟨gb377, 2, none⟩) (Kd.R_far (p := ⟨gb377, 1, none⟩) (Kd.R_far (p := ⟨gb377, 0, none⟩) (Kd.R_far (p := ⟨gb376, 2, none⟩) (Kd.R_far (p := ⟨gb376, 1, none⟩) (Kd.R_far (p := ⟨gb376, 0, none⟩) (Kd.R_types (Kd.R_types HO369.out BK376.out (by decide)) BK377.out (by decide)) (fun _ hk => hk.1.2) (.slice Ao12 t370.length co12)) (fun _ hk => hk.1.2) (.slice Ao11 y367.length co11)) (fun _ hk => hk.1.2) (.slice none 0 0)) (fun _ hk => hk.2) (.slice Ao14 t373.length co14)) (fun _ hk => hk.2) (.slice none 0 0)) (fun _ hk => hk.2) (.slice Ao11 y367.length co11)) (fun _ hk => trivial)⟩, ⟨by (with_reducible repeat (first | refine blk_drewN ?_ _ | refine blk_drew ?_ | refine blk_alloc ?_ _)); refine blk_far ?_ NB366_377.out _; (with_reducible repeat (first | refine blk_drewN ?_ _ | refine blk_drew ?_ | refine blk_alloc ?_ _)); refine blk_far ?_ NB366_377.out _; (with_reducible repeat (first | refine blk_drewN ?_ _ | refine blk_drew ?_ | refine blk_alloc ?_ _)); refine blk_far ?_ NB366_377.out _; (with_reducible repeat (first | refine blk_drewN ?_ _ | refine blk_drew ?_ | refine blk_alloc ?_ _)); refine blk_far ?_ NB366_376.out _; (with_reducible repeat (first | refine blk_drewN ?_ _ | refine blk_drew ?_ | refine blk_alloc ?_ _)); refine blk_far ?_ NB366_376.out _; (with_reducible repeat (first | refine blk_drewN ?_ _ | refine blk_drew ?_ | refine blk_alloc ?_ _)); refine blk_far ?_ NB366_376.out _; (with_reducible repeat (first | refine blk_drewN ?_ _ | refine blk_drew ?_ | refine blk_alloc ?_ _)); exact BK366.out⟩, ⟨by (with_reducible repeat (first | refine blk_drewN ?_ _ | refine blk_drew ?_ | refine blk_alloc ?_ _)); refine blk_far ?_ NB376_377.out _; (with_reducible repeat (first | refine blk_drewN ?_ _ | refine blk_drew ?_ | refine blk_alloc ?_ _)); refine blk_far ?_ NB376_377.out _; (with_reducible repeat (first | refine blk_drewN ?_ _ | refine blk_drew ?_ | refine blk_alloc ?_ _)); refine blk_far ?_ NB376_377.out _; (with_reducible repeat (first | refine blk_drewN ?_ _ | refine blk_drew ?_ | refine blk_alloc ?_ _)); refine blk_put (cs := #[.slice Ao12 t370.length co12, .slice Ao11 y367.length co11, .slice none 0 0]) ?_ 2 _ rfl; (with_reducible repeat (first | refine blk_drewN ?_ _ | refine blk_drew ?_ | refine blk_alloc ?_ _)); refine blk_put (cs := #[.slice Ao12 t370.length co12, .slice none 0 0, .slice none 0 0]) ?_ 1 _ rfl; (with_reducible repeat (first | refine blk_drewN ?_ _ | refine blk_drew ?_ | refine blk_alloc ?_ _)); refine blk_put (cs := #[.slice none 0 0, .slice none 0 0, .slice none 0 0]) ?_ 0 _ rfl; (with_reducible repeat (first | refine blk_drewN ?_ _ | refine blk_drew ?_ | refine blk_alloc ?_ _)); exact BK376.out⟩, ⟨by (with_reducible repeat (first | refine blk_drewN ?_ _ | refine blk_drew ?_ | refine blk_alloc ?_ _)); refine blk_put (cs := #[.slice Ao14 t373.length co14, .slice none 0 0, .slice none 0 0]) ?_ 2 _ rfl; (with_reducible repeat (first | refine blk_drewN ?_ _ | refine blk_drew ?_ | refine blk_alloc ?_ _)); refine blk_put (cs := #[.slice Ao14 t373.length co14, .slice none 0 0, .slice none 0 0]) ?_ 1 _ rfl; (with_reducible repeat (first | refine blk_drewN ?_ _ | refine blk_drew ?_ | refine blk_alloc ?_ _)); refine blk_put (cs := #[.slice none 0 0, .slice none 0 0, .slice none 0 0]) ?_ 0 _ rfl; (with_reducible repeat (first | refine blk_drewN ?_ _ | refine blk_drew ?_ | refine blk_alloc ?_ _)); refine blk_far ?_ NB377_376.out _; (with_reducible repeat (first | refine blk_drewN ?_ _ | refine blk_drew ?_ | refine blk_alloc ?_ _)); refine blk_far ?_ NB377_376.out _; (with_reducible repeat (first | refine blk_drewN ?_ _ | refine blk_drew ?_ | refine blk_alloc ?_ _)); refine blk_far ?_ NB377_376.out _; (with_reducible repeat (first | refine blk_drewN ?_ _ | refine blk_drew ?_ | refine blk_alloc ?_ _)); exact BK377.out⟩, ⟨hs_⟩⟩
 case round =>
  clear H'
  try clear c1
  try clear c2
  try clear p2
  try clear c3
  try clear c17
  try clear c18
  try clear c20
  try clear hcz19_0
  try clear hcz19_1
  try clear hcz19_2
  try clear hcz21_0
  try clear hcz21_1
  try clear hcz21_2
  try clear hfz19_0
  try clear hfz19_1
  try clear hfz19_2
  try clear hfz21_0
  try clear hfz21_1
  try clear hfz21_2
  obtain ⟨x377000_1, x377001_1, x377002_1, x378000_1, x378001_1, x378002_1, u377000, u377001, u377002, u378000, u378001, u378002, HA, HK1, HO_377000, HO_377001, HO_377002, HO_378000, HO_378001, HO_378002, BK366, BK376, BK377, HB⟩ := hrel
  cases gk with
  | zero => exact absurd HA.out (by simp [euclid_partial.l0])
  | succ k1 =>
   have H := HA.out
   clear HA
   simp only [euclid_partial.l0] at H
   have HC22 := Aside0.mk H
   clear H
   go_upto_region 3 with (fail)
   go_cut [35] (fun v35 wc => ∃ (kq : Nat) (x35_21 : Bool), v35 = .bool x35_21 ∧ Aside0 (euclid_partial.j1 kq a0 a3 x35_21 x377000_1 x377001_1 x377002_1 x378000_1 x378001_1 x378002_1 = some (r1, r2, r3, r4)) ∧ Aside0 (kq ≤ k1) ∧ Aside0 (Kd.R (Kd.int .u64) 40 wc w.heap.size (fun _ => True) u377000 x377000_1) ∧ Aside0 (Kd.R (Kd.int .u64) 40 wc w.heap.size (fun _ => True) u377001 x377001_1) ∧ Aside0 (Kd.R (Kd.int .u64) 40 wc w.heap.size (fun _ => True) u377002 x377002_1) ∧ Aside0 (Kd.R (Kd.int .u64) 40 wc w.heap.size (fun _ => True) u378000 x378000_1) ∧ Aside0 (Kd.R (Kd.int .u64) 40 wc w.heap.size (fun _ => True) u378001 x378001_1) ∧ Aside0 (Kd.R (Kd.int .u64) 40 wc w.heap.size (fun _ => True) u378002 x378002_1) ∧ Aside0 (wc.heap[gb366]? = some (.cells #[(.slice none 0 0), (.slice none 0 0), (.slice none 0 0)] 61 (0, 0))) ∧ Aside0 (wc.heap[gb376]? = some (.cells #[u377000, u377001, u377002] 61 (0, 0))) ∧ Aside0 (wc.heap[gb377]? = some (.cells #[u378000, u378001, u378002] 61 (0, 0))) ∧ Aside0 (Below w.heap.size w wc))
   case first =>
    have H := HC22.out
    clear HC22
    by_cases c23 : (wrap64 ((x377000_1.length : Int) - 1)) < a3
    ·rw [if_pos c23] at H
     have c23b0 : decide ((wrap64 ((x377000_1.length : Int) - 1)) < a3) = true := decide_eq_true c23
     clear c23
     (first | rw [c23b0] | (simp only [i64_w, i32_w]; first | rw [c23b0]) | skip)
     have H' := Aside0.mk H
     clear H
     have hnb24 := NB376_366.out
     have hnc24 := NB366_376.out
     have hnb25 := NB376_377.out
     have hnc25 := NB377_376.out
     have hcz26_0 : wr.cell? ⟨gb376, 0, none⟩ = some (u377000) := (blk_cell BK376.out 0).trans rfl
     have hcz26_1 : wr.cell? ⟨gb376, 1, none⟩ = some (u377001) := (blk_cell BK376.out 1).trans rfl
     have hcz26_2 : wr.cell? ⟨gb376, 2, none⟩ = some (u377002) := (blk_cell BK376.out 2).trans rfl
     have hfz26_0 := blk_frozen BK376.out 0
     have hfz26_1 := blk_frozen BK376.out 1
     have hfz26_2 := blk_frozen BK376.out 2
     obtain ⟨Ao27, co27, eo27⟩ := Kd.R_slice HO_377000.out
     subst eo27
     go_wp2_with (go_step3)
     go_meet
     case rel => exact ⟨_, (true), (fs_), H', ⟨by have := HK1.out; first | omega | exact Nat.le_refl _⟩, ⟨mR_ HO_377000.out⟩, ⟨mR_ HO_377001.out⟩, ⟨mR_ HO_377002.out⟩, ⟨mR_ HO_378000.out⟩, ⟨mR_ HO_378001.out⟩, ⟨mR_ HO_378002.out⟩, ⟨mb_ BK366.out⟩, ⟨mb_ BK376.out⟩, ⟨mb_ BK377.out⟩, ⟨hs_⟩⟩
    ·rw [if_neg c23] at H
     have c23b0 : decide ((wrap64 ((x377000_1.length : Int) - 1)) < a3) = false := decide_eq_false c23
     clear c23
     (first | rw [c23b0] | (simp only [i64_w, i32_w]; first | rw [c23b0]) | skip)
     have H' := Aside0.mk H
     clear H
     have hnb28 := NB376_366.out
     have hnc28 := NB366_376.out
     have hnb29 := NB376_377.out
     have hnc29 := NB377_376.out
     have hcz30_0 : wr.cell? ⟨gb376, 0, none⟩ = some (u377000) := (blk_cell BK376.out 0).trans rfl
     have hcz30_1 : wr.cell? ⟨gb376, 1, none⟩ = some (u377001) := (blk_cell BK376.out 1).trans rfl
     have hcz30_2 : wr.cell? ⟨gb376, 2, none⟩ = some (u377002) := (blk_cell BK376.out 2).trans rfl
     have hfz30_0 := blk_frozen BK376.out 0
     have hfz30_1 := blk_frozen BK376.out 1
     have hfz30_2 := blk_frozen BK376.out 2
     obtain ⟨Ao31, co31, eo31⟩ := Kd.R_slice HO_377000.out
     subst eo31
     go_wp2_with (go_step3)
     go_meet
     case rel => exact ⟨_, (((x377000_1.length : Int) == 0)), (fs_), H', ⟨by have := HK1.out; first | omega | exact Nat.le_refl _⟩, ⟨mR_ HO_377000.out⟩, ⟨mR_ HO_377001.out⟩, ⟨mR_ HO_377002.out⟩, ⟨mR_ HO_378000.out⟩, ⟨mR_ HO_378001.out⟩, ⟨mR_ HO_378002.out⟩, ⟨mb_ BK366.out⟩, ⟨mb_ BK376.out⟩, ⟨mb_ BK377.out⟩, ⟨hs_⟩⟩
   case rest =>
    clear HC22
    try clear c1
    try clear c2
    try clear p2
    try clear c3
    try clear p6
    try clear c17
    try clear c18
    try clear c20
    try clear c23
    try clear c23b0
    try clear c24
    try clear c25
    try clear c28
    try clear c29
    try clear hcz19_0
    try clear hcz19_1
    try clear hcz19_2
    try clear hcz21_0
    try clear hcz21_1
    try clear hcz21_2
    try clear hcz26_0
    try clear hcz26_1
    try clear hcz26_2
    try clear hcz30_0
    try clear hcz30_1
    try clear hcz30_2
    try clear hfz19_0
    try clear hfz19_1
    try clear hfz19_2
    try clear hfz21_0
    try clear hfz21_1
    try clear hfz21_2
    try clear hfz26_0
    try clear hfz26_1
    try clear hfz26_2
    try clear hfz30_0
    try clear hfz30_1
    try clear hfz30_2
    try clear p2
    obtain ⟨kq, x35_21, rfl, HA, HJ21, HO_377000, HO_377001, HO_377002, HO_378000, HO_378001, HO_378002, BK366, BK376, BK377, HB⟩ := hcut
    cases kq with
    | zero => exact absurd HA.out (by simp [euclid_partial.j1])
    | succ kj21 =>
     have H := HA.out
     clear HA
     simp only [euclid_partial.j1] at H
     by_cases c32 : x35_21 = true
     ·subst c32
      have H1 : (some (x377000_1, x377001_1, x377002_1, 0)) = some (r1, r2, r3, r4) := by rw [if_pos rfl] at H; exact H
      clear H
      have H := H1
      clear H1
      simp only [Option.some.injEq, Prod.mk.injEq] at H
      obtain ⟨rfl, rfl, rfl, rfl⟩ := H
      have hnb33 := NB376_366.out
      have hnc33 := NB366_376.out
      have hnb34 := NB376_377.out
      have hnc34 := NB377_376.out
      have hcz35_0 : wc.cell? ⟨gb376, 0, none⟩ = some (u377000) := (blk_cell BK376.out 0).trans rfl
      have hcz35_1 : wc.cell? ⟨gb376, 1, none⟩ = some (u377001) := (blk_cell BK376.out 1).trans rfl
      have hcz35_2 : wc.cell? ⟨gb376, 2, none⟩ = some (u377002) := (blk_cell BK376.out 2).trans rfl
      have hfz35_0 := blk_frozen BK376.out 0
      have hfz35_1 := blk_frozen BK376.out 1
      have hfz35_2 := blk_frozen BK376.out 2
      obtain ⟨Ao36, co36, eo36⟩ := Kd.R_slice HO_377000.out
      subst eo36
      have hnb37 := NB366_377.out
      have hnc37 := NB377_366.out
      have hcz38_0 : wc.cell? ⟨gb366, 0, none⟩ = some (.slice none 0 0) := (blk_cell BK366.out 0).trans rfl
      have hcz38_1 : wc.cell? ⟨gb366, 1, none⟩ = some (.slice none 0 0) := (blk_cell BK366.out 1).trans rfl
      have hcz38_2 : wc.cell? ⟨gb366, 2, none⟩ = some (.slice none 0 0) := (blk_cell BK366.out 2).trans rfl
      have hfz38_0 := blk_frozen BK366.out 0
      have hfz38_1 := blk_frozen BK366.out 1
      have hfz38_2 := blk_frozen BK366.out 2
      obtain ⟨Ao39, co39, eo39⟩ := Kd.R_slice HO_377001.out
      subst eo39
      obtain ⟨Ao40, co40, eo40⟩ := Kd.R_slice HO_377002.out
      subst eo40
      go_wp2_with (go_step3)
      (try rw [Exit.noGoto_ret])
      refine bodyPost_ret (results_ct rfl _ _ gb366 61 #[.slice Ao36 x377000_1.length co36, .slice Ao39 x377001_1.length co39, .slice Ao40 x377002_1.length co40] (0, 0) _ rfl (by (with_reducible repeat (first | refine blk_drewN ?_ _ | refine blk_drew ?_ | refine blk_alloc ?_ _)); refine blk_put (cs := #[.slice Ao36 x377000_1.length co36, .slice Ao39 x377001_1.length co39, .slice none 0 0]) ?_ 2 _ rfl; (with_reducible repeat (first | refine blk_drewN ?_ _ | refine blk_drew ?_ | refine blk_alloc ?_ _)); refine blk_put (cs := #[.slice Ao36 x377000_1.length co36, .slice none 0 0, .slice none 0 0]) ?_ 1 _ rfl; (with_reducible repeat (first | refine blk_drewN ?_ _ | refine blk_drew ?_ | refine blk_alloc ?_ _)); refine blk_put (cs := #[.slice none 0 0, .slice none 0 0, .slice none 0 0]) ?_ 0 _ rfl; (with_reducible repeat (first | refine blk_drewN ?_ _ | refine blk_drew ?_ | refine blk_alloc ?_ _)); exact BK366.out) Try.underlying61 rfl (by kernel_rfl)) rfl ?_
      exact ⟨_, _, _, fr_, by (with_reducible repeat (first | apply Kd.R_alloc | apply Kd.R_drewN | apply Kd.R_drew)); exact Kd.R_mono (Kd.R_far (p := ⟨gb366, 2, none⟩) (Kd.R_far (p := ⟨gb366, 1, none⟩) (Kd.R_far (p := ⟨gb366, 0, none⟩) (Kd.R_types HO_377000.out BK366.out (by decide)) (fun _ hk => hk.2) (.slice Ao36 x377000_1.length co36)) (fun _ hk => hk.2) (.slice Ao39 x377001_1.length co39)) (fun _ hk => hk.2) (.slice Ao40 x377002_1.length co40)) (fun _ hk => trivial), by (with_reducible repeat (first | apply Kd.R_alloc | apply Kd.R_drewN | apply Kd.R_drew)); exact Kd.R_mono (Kd.R_far (p := ⟨gb366, 2, none⟩) (Kd.R_far (p := ⟨gb366, 1, none⟩) (Kd.R_far (p := ⟨gb366, 0, none⟩) (Kd.R_types HO_377001.out BK366.out (by decide)) (fun _ hk => hk.2) (.slice Ao36 x377000_1.length co36)) (fun _ hk => hk.2) (.slice Ao39 x377001_1.length co39)) (fun _ hk => hk.2) (.slice Ao40 x377002_1.length co40)) (fun _ hk => trivial), by (with_reducible repeat (first | apply Kd.R_alloc | apply Kd.R_drewN | apply Kd.R_drew)); exact Kd.R_mono (Kd.R_far (p := ⟨gb366, 2, none⟩) (Kd.R_far (p := ⟨gb366, 1, none⟩) (Kd.R_far (p := ⟨gb366, 0, none⟩) (Kd.R_types HO_377002.out BK366.out (by decide)) (fun _ hk => hk.2) (.slice Ao36 x377000_1.length co36)) (fun _ hk => hk.2) (.slice Ao39 x377001_1.length co39)) (fun _ hk => hk.2) (.slice Ao40 x377002_1.length co40)) (fun _ hk => trivial), hs_⟩
     ·replace c32 := Bool.eq_false_iff.mpr c32
      subst c32
      have H1 : (if (x378000_1.length : Int) = 0 then (euclid_partial.l0 kj21 a0 a3 x378000_1 x378001_1 x378002_1 x378000_1 x378001_1 x378002_1) else ((euclid_next.f kj21 a0 x377000_1 x377001_1 x377002_1 x378000_1 x378001_1 x378002_1).bind fun bt378 => (if bt378.2.2.2 = 0 then (euclid_partial.l0 kj21 a0 a3 x378000_1 x378001_1 x378002_1 bt378.1 bt378.2.1 bt378.2.2.1) else (some (([] : List Int), ([] : List Int), ([] : List Int), bt378.2.2.2))))) = some (r1, r2, r3, r4) := by rw [if_neg (show ¬ (false = true) by decide)] at H; exact H
      clear H
      have H := H1
      clear H1
      by_cases c41 : (x378000_1.length : Int) = 0
      ·rw [if_pos c41] at H
       have c41b0 : ((x378000_1.length : Int) == 0) = true := beq_iff_eq.mpr c41
       have c41b1 : ((x378000_1.length : Int) != 0) = false := bne_eq_false_iff_eq.mpr c41
       clear c41
       have H' := Aside0.mk H
       clear H
       have hnb42 := NB377_366.out
       have hnc42 := NB366_377.out
       have hnb43 := NB377_376.out
       have hnc43 := NB376_377.out
       have hcz44_0 : wc.cell? ⟨gb377, 0, none⟩ = some (u378000) := (blk_cell BK377.out 0).trans rfl
       have hcz44_1 : wc.cell? ⟨gb377, 1, none⟩ = some (u378001) := (blk_cell BK377.out 1).trans rfl
       have hcz44_2 : wc.cell? ⟨gb377, 2, none⟩ = some (u378002) := (blk_cell BK377.out 2).trans rfl
       have hfz44_0 := blk_frozen BK377.out 0
       have hfz44_1 := blk_frozen BK377.out 1
       have hfz44_2 := blk_frozen BK377.out 2
       obtain ⟨Ao45, co45, eo45⟩ := Kd.R_slice HO_378000.out
       subst eo45
       have hnb46 := NB376_366.out
       have hnc46 := NB366_376.out
       have hcz47_0 : wc.cell? ⟨gb376, 0, none⟩ = some (u377000) := (blk_cell BK376.out 0).trans rfl
       have hcz47_1 : wc.cell? ⟨gb376, 1, none⟩ = some (u377001) := (blk_cell BK376.out 1).trans rfl
       have hcz47_2 : wc.cell? ⟨gb376, 2, none⟩ = some (u377002) := (blk_cell BK376.out 2).trans rfl
       have hfz47_0 := blk_frozen BK376.out 0
       have hfz47_1 := blk_frozen BK376.out 1
       have hfz47_2 := blk_frozen BK376.out 2
       obtain ⟨Ao48, co48, eo48⟩ := Kd.R_slice HO_378001.out
       subst eo48
       obtain ⟨Ao49, co49, eo49⟩ := Kd.R_slice HO_378002.out
       subst eo49
       go_wp2_with (go_step3)
       go_roundg kj21
       case measure => have := HK1.out; have := HJ21.out; omega
       case rel => exact ⟨(x378000_1), (x378001_1), (x378002_1), (x378000_1), (x378001_1), (x378002_1), (.slice Ao45 x378000_1.length co45), (.slice Ao48 x378001_1.length co48), (.slice Ao49 x378002_1.length co49), (.slice Ao45 x378000_1.length co45), (.slice Ao48 x378001_1.length co48), (.slice Ao49 x378002_1.length co49), H', ⟨by have := HK1.out; have := HJ21.out; omega⟩, ⟨by (with_reducible repeat (first | apply Kd.R_alloc | apply Kd.R_drewN | apply Kd.R_drew)); exact Kd.R_mono (Kd.R_far (p := ⟨gb376, 2, none⟩) (Kd.R_far (p := ⟨gb376, 1, none⟩) (Kd.R_far (p := ⟨gb376, 0, none⟩) (Kd.R_types HO_378000.out BK376.out (by decide)) (fun _ hk => hk.2) (.slice Ao45 x378000_1.length co45)) (fun _ hk => hk.2) (.slice Ao48 x378001_1.length co48)) (fun _ hk => hk.2) (.slice Ao49 x378002_1.length co49)) (fun _ hk => trivial)⟩, ⟨by (with_reducible repeat (first | apply Kd.R_alloc | apply Kd.R_drewN | apply Kd.R_drew)); exact Kd.R_mono (Kd.R_far (p := ⟨gb376, 2, none⟩) (Kd.R_far (p := ⟨gb376, 1, none⟩) (Kd.R_far (p := ⟨gb376, 0, none⟩) (Kd.R_types HO_378001.out BK376.out (by decide)) (fun _ hk => hk.2) (.slice Ao45 x378000_1.length co45)) (fun _ hk => hk.2) (.slice Ao48 x378001_1.length co48)) (fun _ hk => hk.2) (.slice Ao49 x378002_1.length co49)) (fun _ hk => trivial)⟩, ⟨by (with_reducible repeat (first | apply Kd.R_alloc | apply Kd.R_drewN | apply Kd.R_drew)); exact Kd.R_mono (Kd.R_far (p := ⟨gb376, 2, none⟩) (Kd.R_far (p := ⟨gb376, 1, none⟩) (Kd.R_far (p := ⟨gb376, 0, none⟩) (Kd.R_types HO_378002.out BK376.out (by decide)) (fun _ hk => hk.2) (.slice Ao45 x378000_1.length co45)) (fun _ hk => hk.2) (.slice Ao48 x378001_1.length co48)) (fun _ hk => hk.2) (.slice Ao49 x378002_1.length co49)) (fun _ hk => trivial)⟩, ⟨by (with_reducible repeat (first | apply Kd.R_alloc | apply Kd.R_drewN | apply Kd.R_drew)); exact Kd.R_mono (Kd.R_far (p := ⟨gb376, 2, none⟩) (Kd.R_far (p := ⟨gb376, 1, none⟩) (Kd.R_far (p := ⟨gb376, 0, none⟩) (Kd.R_types HO_378000.out BK376.out (by decide)) (fun _ hk => hk.2) (.slice Ao45 x378000_1.length co45)) (fun _ hk => hk.2) (.slice Ao48 x378001_1.length co48)) (fun _ hk => hk.2) (.slice Ao49 x378002_1.length co49)) (fun _ hk => trivial)⟩, ⟨by (with_reducible repeat (first | apply Kd.R_alloc | apply Kd.R_drewN | apply Kd.R_drew)); exact Kd.R_mono (Kd.R_far (p := ⟨gb376, 2, none⟩) (Kd.R_far (p := ⟨gb376, 1, none⟩) (Kd.R_far (p := ⟨gb376, 0, none⟩) (Kd.R_types HO_378001.out BK376.out (by decide)) (fun _ hk => hk.2) (.slice Ao45 x378000_1.length co45)) (fun _ hk => hk.2) (.slice Ao48 x378001_1.length co48)) (fun _ hk => hk.2) (.slice Ao49 x378002_1.length co49)) (fun _ hk => trivial)⟩, ⟨by (with_reducible repeat (first | apply Kd.R_alloc | apply Kd.R_drewN | apply Kd.R_drew)); exact Kd.R_mono (Kd.R_far (p := ⟨gb376, 2, none⟩) (Kd.R_far (p := ⟨gb376, 1, none⟩) (Kd.R_far (p := ⟨gb376, 0, none⟩) (Kd.R_types HO_378002.out BK376.out (by decide)) (fun _ hk => hk.2) (.slice Ao45 x378000_1.length co45)) (fun _ hk => hk.2) (.slice Ao48 x378001_1.length co48)) (fun _ hk => hk.2) (.slice Ao49 x378002_1.length co49)) (fun _ hk => trivial)⟩, ⟨by (with_reducible repeat (first | refine blk_drewN ?_ _ | refine blk_drew ?_ | refine blk_alloc ?_ _)); refine blk_far ?_ NB366_376.out _; (with_reducible repeat (first | refine blk_drewN ?_ _ | refine blk_drew ?_ | refine blk_alloc ?_ _)); refine blk_far ?_ NB366_376.out _; (with_reducible repeat (first | refine blk_drewN ?_ _ | refine blk_drew ?_ | refine blk_alloc ?_ _)); refine blk_far ?_ NB366_376.out _; (with_reducible repeat (first | refine blk_drewN ?_ _ | refine blk_drew ?_ | refine blk_alloc ?_ _)); exact BK366.out⟩, ⟨by (with_reducible repeat (first | refine blk_drewN ?_ _ | refine blk_drew ?_ | refine blk_alloc ?_ _)); refine blk_put (cs := #[.slice Ao45 x378000_1.length co45, .slice Ao48 x378001_1.length co48, u377002]) ?_ 2 _ rfl; (with_reducible repeat (first | refine blk_drewN ?_ _ | refine blk_drew ?_ | refine blk_alloc ?_ _)); refine blk_put (cs := #[.slice Ao45 x378000_1.length co45, u377001, u377002]) ?_ 1 _ rfl; (with_reducible repeat (first | refine blk_drewN ?_ _ | refine blk_drew ?_ | refine blk_alloc ?_ _)); refine blk_put (cs := #[u377000, u377001, u377002]) ?_ 0 _ rfl; (with_reducible repeat (first | refine blk_drewN ?_ _ | refine blk_drew ?_ | refine blk_alloc ?_ _)); exact BK376.out⟩, ⟨by (with_reducible repeat (first | refine blk_drewN ?_ _ | refine blk_drew ?_ | refine blk_alloc ?_ _)); refine blk_far ?_ NB377_376.out _; (with_reducible repeat (first | refine blk_drewN ?_ _ | refine blk_drew ?_ | refine blk_alloc ?_ _)); refine blk_far ?_ NB377_376.out _; (with_reducible repeat (first | refine blk_drewN ?_ _ | refine blk_drew ?_ | refine blk_alloc ?_ _)); refine blk_far ?_ NB377_376.out _; (with_reducible repeat (first | refine blk_drewN ?_ _ | refine blk_drew ?_ | refine blk_alloc ?_ _)); exact BK377.out⟩, ⟨hs_⟩⟩
      ·rw [if_neg c41] at H
       have c41b0 : ((x378000_1.length : Int) == 0) = false := beq_eq_false_iff_ne.mpr c41
       have c41b1 : ((x378000_1.length : Int) != 0) = true := bne_iff_ne.mpr c41
       have c41b2 : ¬ (x378000_1 = []) := fun h_ => c41 (by rw [h_]; rfl)
       replace H := Option.bind_eq_some_iff.mp H
       obtain ⟨⟨t378, t381, t384, t387⟩, A500, H⟩ := H
       replace H : (if t387 = 0 then (euclid_partial.l0 kj21 a0 a3 x378000_1 x378001_1 x378002_1 t378 t381 t384) else (some (([] : List Int), ([] : List Int), ([] : List Int), t387))) = some (r1, r2, r3, r4) := H
       have A50 := Aside0.mk A500
       clear A500
       have HC51 := Aside0.mk H
       clear H
       have hnb52 := NB377_366.out
       have hnc52 := NB366_377.out
       have hnb53 := NB377_376.out
       have hnc53 := NB376_377.out
       have hcz54_0 : wc.cell? ⟨gb377, 0, none⟩ = some (u378000) := (blk_cell BK377.out 0).trans rfl
       have hcz54_1 : wc.cell? ⟨gb377, 1, none⟩ = some (u378001) := (blk_cell BK377.out 1).trans rfl
       have hcz54_2 : wc.cell? ⟨gb377, 2, none⟩ = some (u378002) := (blk_cell BK377.out 2).trans rfl
       have hfz54_0 := blk_frozen BK377.out 0
       have hfz54_1 := blk_frozen BK377.out 1
       have hfz54_2 := blk_frozen BK377.out 2
       obtain ⟨Ao55, co55, eo55⟩ := Kd.R_slice HO_378000.out
       subst eo55
       have hnb56 := NB376_366.out
       have hnc56 := NB366_376.out
       have hcz57_0 : wc.cell? ⟨gb376, 0, none⟩ = some (u377000) := (blk_cell BK376.out 0).trans rfl
       have hcz57_1 : wc.cell? ⟨gb376, 1, none⟩ = some (u377001) := (blk_cell BK376.out 1).trans rfl
       have hcz57_2 : wc.cell? ⟨gb376, 2, none⟩ = some (u377002) := (blk_cell BK376.out 2).trans rfl
       have hfz57_0 := blk_frozen BK376.out 0
       have hfz57_1 := blk_frozen BK376.out 1
       have hfz57_2 := blk_frozen BK376.out 2
       obtain ⟨Ao58, co58, eo58⟩ := Kd.R_slice HO_377000.out
       subst eo58
       obtain ⟨Ao59, co59, eo59⟩ := Kd.R_slice HO_377001.out
       subst eo59
       obtain ⟨Ao60, co60, eo60⟩ := Kd.R_slice HO_377002.out
       subst eo60
       obtain ⟨Ao61, co61, eo61⟩ := Kd.R_slice HO_378001.out
       subst eo61
       obtain ⟨Ao62, co62, eo62⟩ := Kd.R_slice HO_378002.out
       subst eo62
       go_upto_if 49 with (first | ((with_reducible refine gate_callee (f := 52) rfl ?_); refine goesM_ (some 45) Try.func52 #[.int .u8 a0, .agg #[.slice Ao58 x377000_1.length co58, .slice Ao59 x377001_1.length co59, .slice Ao60 x377002_1.length co60], .agg #[.slice Ao55 x378000_1.length co55, .slice Ao61 x378001_1.length co61, .slice Ao62 x378002_1.length co62]] ?_; (with_reducible refine (euclid_next.calls kj21 a0 _ _ x377000_1 _ _ x377001_1 _ _ x377002_1 _ _ x378000_1 _ _ x378001_1 _ _ x378002_1 t378 t381 t384 t387 _ ?side1 ?side2 ?side3 ?side4 ?side5 ?side6 ?side7 ?side8 ?side9 ?side10 ?side11 ?side12 A50.out).mono ?_); (case side1 => repeat (first | exact (Kd.R_reads' HO_377000.out).2.2 | (with_reducible refine Kd.C_alloc ?_ _) | (with_reducible refine Kd.C_drewN ?_ _) | (with_reducible refine Kd.C_drew ?_))); (case side2 => exact (Kd.R_reads' HO_377000.out).2.1); (case side3 => repeat (first | exact (Kd.R_reads' HO_377001.out).2.2 | (with_reducible refine Kd.C_alloc ?_ _) | (with_reducible refine Kd.C_drewN ?_ _) | (with_reducible refine Kd.C_drew ?_))); (case side4 => exact (Kd.R_reads' HO_377001.out).2.1); (case side5 => repeat (first | exact (Kd.R_reads' HO_377002.out).2.2 | (with_reducible refine Kd.C_alloc ?_ _) | (with_reducible refine Kd.C_drewN ?_ _) | (with_reducible refine Kd.C_drew ?_))); (case side6 => exact (Kd.R_reads' HO_377002.out).2.1); (case side7 => repeat (first | exact (Kd.R_reads' HO_378000.out).2.2 | (with_reducible refine Kd.C_alloc ?_ _) | (with_reducible refine Kd.C_drewN ?_ _) | (with_reducible refine Kd.C_drew ?_))); (case side8 => exact (Kd.R_reads' HO_378000.out).2.1); (case side9 => repeat (first | exact (Kd.R_reads' HO_378001.out).2.2 | (with_reducible refine Kd.C_alloc ?_ _) | (with_reducible refine Kd.C_drewN ?_ _) | (with_reducible refine Kd.C_drew ?_))); (case side10 => exact (Kd.R_reads' HO_378001.out).2.1); (case side11 => repeat (first | exact (Kd.R_reads' HO_378002.out).2.2 | (with_reducible refine Kd.C_alloc ?_ _) | (with_reducible refine Kd.C_drewN ?_ _) | (with_reducible refine Kd.C_drew ?_))); (case side12 => exact (Kd.R_reads' HO_378002.out).2.1); rintro e w63 ⟨v379, v382, v385, rfl, ho0, ho1, ho2, hb⟩; refine ⟨_, rfl, ?_⟩; have n0_ := A_ (Kd.R_below (nR_ HO_377000) hb); have n1_ := A_ (Kd.R_below (nR_ HO_377001) hb); have n2_ := A_ (Kd.R_below (nR_ HO_377002) hb); have n3_ := A_ (Kd.R_below (nR_ HO_378000) hb); have n4_ := A_ (Kd.R_below (nR_ HO_378001) hb); have n5_ := A_ (Kd.R_below (nR_ HO_378002) hb); have n6_ := A_ (Kd.R_lower (Kd.R_mono (ok' := fun _ => True) ho0 (fun _ _ => trivial)) (below_size hs_)); have n7_ := A_ (Kd.R_lower (Kd.R_mono (ok' := fun _ => True) ho1 (fun _ _ => trivial)) (below_size hs_)); have n8_ := A_ (Kd.R_lower (Kd.R_mono (ok' := fun _ => True) ho2 (fun _ _ => trivial)) (below_size hs_)); have n9_ := A_ (blk_below (g := gb366) (o := .cells #[.slice none 0 0, .slice none 0 0, .slice none 0 0] 61 (0, 0)) (nb_ BK366) hb); have n10_ := A_ (blk_below (g := gb376) (o := .cells #[.slice Ao58 x377000_1.length co58, .slice Ao59 x377001_1.length co59, .slice Ao60 x377002_1.length co60] 61 (0, 0)) (nb_ BK376) hb); have n11_ := A_ (blk_below (g := gb377) (o := .cells #[.slice Ao55 x378000_1.length co55, .slice Ao61 x378001_1.length co61, .slice Ao62 x378002_1.length co62] 61 (0, 0)) (nb_ BK377) hb); have n12_ := A_ (below_step hs_ hb); clear HO_377000 HO_377001 HO_377002 HO_378000 HO_378001 HO_378002 BK366 BK376 BK377 HB; have HO_377000 := n0_; have HO_377001 := n1_; have HO_377002 := n2_; have HO_378000 := n3_; have HO_378001 := n4_; have HO_378002 := n5_; have HO380 := n6_; have HO383 := n7_; have HO386 := n8_; have BK366 := n9_; have BK376 := n10_; have BK377 := n11_; have HB := n12_; clear n0_ n1_ n2_ n3_ n4_ n5_ n6_ n7_ n8_ n9_ n10_ n11_ n12_; (try clear hb); (try clear ho0); (try clear ho1); (try clear ho2)) | ((with_reducible refine gate_dst (N := 13) rfl ?_); (try (refine gate_guard (by rfl) ?_; dsimp only)); refine box_event ?hg (N := 13) ?hd (cs := #[.slice none 0 0, .slice none 0 0, .slice none 0 0]) (t := 61) ?hr ?_; (case hd => rfl); (case hg => rfl); (case hr => first | (go_simp; done) | (go_simp; rfl)); intro gb388 hg w64 hbox hb; have n0_ := A_ (Kd.R_below (nR_ HO_377000) hb); have n1_ := A_ (Kd.R_below (nR_ HO_377001) hb); have n2_ := A_ (Kd.R_below (nR_ HO_377002) hb); have n3_ := A_ (Kd.R_below (nR_ HO_378000) hb); have n4_ := A_ (Kd.R_below (nR_ HO_378001) hb); have n5_ := A_ (Kd.R_below (nR_ HO_378002) hb); have n6_ := A_ (Kd.R_below (nR_ HO380) hb); have n7_ := A_ (Kd.R_below (nR_ HO383) hb); have n8_ := A_ (Kd.R_below (nR_ HO386) hb); have n9_ := A_ (blk_below (g := gb366) (o := .cells #[.slice none 0 0, .slice none 0 0, .slice none 0 0] 61 (0, 0)) (nb_ BK366) hb); have n10_ := A_ (blk_below (g := gb376) (o := .cells #[.slice Ao58 x377000_1.length co58, .slice Ao59 x377001_1.length co59, .slice Ao60 x377002_1.length co60] 61 (0, 0)) (nb_ BK376) hb); have n11_ := A_ (blk_below (g := gb377) (o := .cells #[.slice Ao55 x378000_1.length co55, .slice Ao61 x378001_1.length co61, .slice Ao62 x378002_1.length co62] 61 (0, 0)) (nb_ BK377) hb); have n12_ := A_ (below_step hs_ hb); have n13_ := A_ (hbox); have n14_ := A_ ((by rw [hg]; exact (below_size hs_) : w.heap.size ≤ gb388)); have n15_ := A_ ((by rw [hg]; exact (below_size hs_) : w.heap.size ≤ gb388)); have n16_ := A_ ((by rw [hg]; exact Nat.ne_of_lt (blk_lt (g := gb366) (o := .cells #[.slice none 0 0, .slice none 0 0, .slice none 0 0] 61 (0, 0)) (nb_ BK366)) : gb366 ≠ gb388)); have n17_ := A_ ((by rw [hg]; exact Nat.ne_of_gt (blk_lt (g := gb366) (o := .cells #[.slice none 0 0, .slice none 0 0, .slice none 0 0] 61 (0, 0)) (nb_ BK366)) : gb388 ≠ gb366)); have n18_ := A_ ((by rw [hg]; exact Nat.ne_of_lt (blk_lt (g := gb376) (o := .cells #[.slice Ao58 x377000_1.length co58, .slice Ao59 x377001_1.length co59, .slice Ao60 x377002_1.length co60] 61 (0, 0)) (nb_ BK376)) : gb376 ≠ gb388)); have n19_ := A_ ((by rw [hg]; exact Nat.ne_of_gt (blk_lt (g := gb376) (o := .cells #[.slice Ao58 x377000_1.length co58, .slice Ao59 x377001_1.length co59, .slice Ao60 x377002_1.length co60] 61 (0, 0)) (nb_ BK376)) : gb388 ≠ gb376)); have n20_ := A_ ((by rw [hg]; exact Nat.ne_of_lt (blk_lt (g := gb377) (o := .cells #[.slice Ao55 x378000_1.length co55, .slice Ao61 x378001_1.length co61, .slice Ao62 x378002_1.length co62] 61 (0, 0)) (nb_ BK377)) : gb377 ≠ gb388)); have n21_ := A_ ((by rw [hg]; exact Nat.ne_of_gt (blk_lt (g := gb377) (o := .cells #[.slice Ao55 x378000_1.length co55, .slice Ao61 x378001_1.length co61, .slice Ao62 x378002_1.length co62] 61 (0, 0)) (nb_ BK377)) : gb388 ≠ gb377)); clear HO_377000 HO_377001 HO_377002 HO_378000 HO_378001 HO_378002 HO380 HO383 HO386 BK366 BK376 BK377 HB; have HO_377000 := n0_; have HO_377001 := n1_; have HO_377002 := n2_; have HO_378000 := n3_; have HO_378001 := n4_; have HO_378002 := n5_; have HO380 := n6_; have HO383 := n7_; have HO386 := n8_; have BK366 := n9_; have BK376 := n10_; have BK377 := n11_; have HB := n12_; have BK388 := n13_; have GW388 := n14_; have GE388 := n15_; have NB366_388 := n16_; have NB388_366 := n17_; have NB376_388 := n18_; have NB388_376 := n19_; have NB377_388 := n20_; have NB388_377 := n21_; clear n0_ n1_ n2_ n3_ n4_ n5_ n6_ n7_ n8_ n9_ n10_ n11_ n12_ n13_ n14_ n15_ n16_ n17_ n18_ n19_ n20_ n21_; clear hb hbox hg; obtain ⟨Ao65, co65, eo65⟩ := Kd.R_slice HO380.out; subst eo65; have hnb66 := NB388_366.out; have hnc66 := NB366_388.out; have hnb67 := NB388_376.out; have hnc67 := NB376_388.out; have hnb68 := NB388_377.out; have hnc68 := NB377_388.out; have hcz69_0 : w64.cell? ⟨gb388, 0, none⟩ = some (.slice none 0 0) := (blk_cell BK388.out 0).trans rfl; have hcz69_1 : w64.cell? ⟨gb388, 1, none⟩ = some (.slice none 0 0) := (blk_cell BK388.out 1).trans rfl; have hcz69_2 : w64.cell? ⟨gb388, 2, none⟩ = some (.slice none 0 0) := (blk_cell BK388.out 2).trans rfl; have hfz69_0 := blk_frozen BK388.out 0; have hfz69_1 := blk_frozen BK388.out 1; have hfz69_2 := blk_frozen BK388.out 2; obtain ⟨Ao70, co70, eo70⟩ := Kd.R_slice HO383.out; subst eo70; obtain ⟨Ao71, co71, eo71⟩ := Kd.R_slice HO386.out; subst eo71))
       (try simp only [Act.put, List.setIfInBounds_toArray, List.set_cons_zero, List.set_cons_succ])
       have H := HC51.out
       clear HC51
       by_cases c72 : t387 = 0
       ·rw [if_pos c72] at H
        have c72b0 : (t387 == 0) = true := beq_iff_eq.mpr c72
        have c72b1 : (t387 != 0) = false := bne_eq_false_iff_eq.mpr c72
        clear c72
        (first | rw [c72b0] | rw [c72b1] | (simp only [i64_w, i32_w]; first | rw [c72b0] | rw [c72b1]) | skip)
        have H' := Aside0.mk H
        clear H
        try go_wp2_with (go_step3)
        have n0_ : Aside0 (Kd.R (Kd.int .u64) 40 (((w64.setCell ⟨gb388, 0, none⟩ (.slice Ao65 t378.length co65)).setCell ⟨gb388, 1, none⟩ (.slice Ao70 t381.length co70)).setCell ⟨gb388, 2, none⟩ (.slice Ao71 t384.length co71)) w.heap.size (fun _ => True) (.slice Ao58 x377000_1.length co58) x377000_1) := ⟨by (with_reducible repeat (first | apply Kd.R_alloc | apply Kd.R_drewN | apply Kd.R_drew)); exact Kd.R_mono (Kd.R_far (p := ⟨gb388, 2, none⟩) (Kd.R_far (p := ⟨gb388, 1, none⟩) (Kd.R_far (p := ⟨gb388, 0, none⟩) (Kd.R_types HO_377000.out BK388.out (by decide)) (fun _ hk => hk.2) (.slice Ao65 t378.length co65)) (fun _ hk => hk.2) (.slice Ao70 t381.length co70)) (fun _ hk => hk.2) (.slice Ao71 t384.length co71)) (fun _ hk => trivial)⟩
        have n1_ : Aside0 (Kd.R (Kd.int .u64) 40 (((w64.setCell ⟨gb388, 0, none⟩ (.slice Ao65 t378.length co65)).setCell ⟨gb388, 1, none⟩ (.slice Ao70 t381.length co70)).setCell ⟨gb388, 2, none⟩ (.slice Ao71 t384.length co71)) w.heap.size (fun _ => True) (.slice Ao59 x377001_1.length co59) x377001_1) := ⟨by (with_reducible repeat (first | apply Kd.R_alloc | apply Kd.R_drewN | apply Kd.R_drew)); exact Kd.R_mono (Kd.R_far (p := ⟨gb388, 2, none⟩) (Kd.R_far (p := ⟨gb388, 1, none⟩) (Kd.R_far (p := ⟨gb388, 0, none⟩) (Kd.R_types HO_377001.out BK388.out (by decide)) (fun _ hk => hk.2) (.slice Ao65 t378.length co65)) (fun _ hk => hk.2) (.slice Ao70 t381.length co70)) (fun _ hk => hk.2) (.slice Ao71 t384.length co71)) (fun _ hk => trivial)⟩
        have n2_ : Aside0 (Kd.R (Kd.int .u64) 40 (((w64.setCell ⟨gb388, 0, none⟩ (.slice Ao65 t378.length co65)).setCell ⟨gb388, 1, none⟩ (.slice Ao70 t381.length co70)).setCell ⟨gb388, 2, none⟩ (.slice Ao71 t384.length co71)) w.heap.size (fun _ => True) (.slice Ao60 x377002_1.length co60) x377002_1) := ⟨by (with_reducible repeat (first | apply Kd.R_alloc | apply Kd.R_drewN | apply Kd.R_drew)); exact Kd.R_mono (Kd.R_far (p := ⟨gb388, 2, none⟩) (Kd.R_far (p := ⟨gb388, 1, none⟩) (Kd.R_far (p := ⟨gb388, 0, none⟩) (Kd.R_types HO_377002.out BK388.out (by decide)) (fun _ hk => hk.2) (.slice Ao65 t378.length co65)) (fun _ hk => hk.2) (.slice Ao70 t381.length co70)) (fun _ hk => hk.2) (.slice Ao71 t384.length co71)) (fun _ hk => trivial)⟩
        have n3_ : Aside0 (Kd.R (Kd.int .u64) 40 (((w64.setCell ⟨gb388, 0, none⟩ (.slice Ao65 t378.length co65)).setCell ⟨gb388, 1, none⟩ (.slice Ao70 t381.length co70)).setCell ⟨gb388, 2, none⟩ (.slice Ao71 t384.length co71)) w.heap.size (fun _ => True) (.slice Ao55 x378000_1.length co55) x378000_1) := ⟨by (with_reducible repeat (first | apply Kd.R_alloc | apply Kd.R_drewN | apply Kd.R_drew)); exact Kd.R_mono (Kd.R_far (p := ⟨gb388, 2, none⟩) (Kd.R_far (p := ⟨gb388, 1, none⟩) (Kd.R_far (p := ⟨gb388, 0, none⟩) (Kd.R_types HO_378000.out BK388.out (by decide)) (fun _ hk => hk.2) (.slice Ao65 t378.length co65)) (fun _ hk => hk.2) (.slice Ao70 t381.length co70)) (fun _ hk => hk.2) (.slice Ao71 t384.length co71)) (fun _ hk => trivial)⟩
        have n4_ : Aside0 (Kd.R (Kd.int .u64) 40 (((w64.setCell ⟨gb388, 0, none⟩ (.slice Ao65 t378.length co65)).setCell ⟨gb388, 1, none⟩ (.slice Ao70 t381.length co70)).setCell ⟨gb388, 2, none⟩ (.slice Ao71 t384.length co71)) w.heap.size (fun _ => True) (.slice Ao61 x378001_1.length co61) x378001_1) := ⟨by (with_reducible repeat (first | apply Kd.R_alloc | apply Kd.R_drewN | apply Kd.R_drew)); exact Kd.R_mono (Kd.R_far (p := ⟨gb388, 2, none⟩) (Kd.R_far (p := ⟨gb388, 1, none⟩) (Kd.R_far (p := ⟨gb388, 0, none⟩) (Kd.R_types HO_378001.out BK388.out (by decide)) (fun _ hk => hk.2) (.slice Ao65 t378.length co65)) (fun _ hk => hk.2) (.slice Ao70 t381.length co70)) (fun _ hk => hk.2) (.slice Ao71 t384.length co71)) (fun _ hk => trivial)⟩
        have n5_ : Aside0 (Kd.R (Kd.int .u64) 40 (((w64.setCell ⟨gb388, 0, none⟩ (.slice Ao65 t378.length co65)).setCell ⟨gb388, 1, none⟩ (.slice Ao70 t381.length co70)).setCell ⟨gb388, 2, none⟩ (.slice Ao71 t384.length co71)) w.heap.size (fun _ => True) (.slice Ao62 x378002_1.length co62) x378002_1) := ⟨by (with_reducible repeat (first | apply Kd.R_alloc | apply Kd.R_drewN | apply Kd.R_drew)); exact Kd.R_mono (Kd.R_far (p := ⟨gb388, 2, none⟩) (Kd.R_far (p := ⟨gb388, 1, none⟩) (Kd.R_far (p := ⟨gb388, 0, none⟩) (Kd.R_types HO_378002.out BK388.out (by decide)) (fun _ hk => hk.2) (.slice Ao65 t378.length co65)) (fun _ hk => hk.2) (.slice Ao70 t381.length co70)) (fun _ hk => hk.2) (.slice Ao71 t384.length co71)) (fun _ hk => trivial)⟩
        have n6_ : Aside0 (Kd.R (Kd.int .u64) 40 (((w64.setCell ⟨gb388, 0, none⟩ (.slice Ao65 t378.length co65)).setCell ⟨gb388, 1, none⟩ (.slice Ao70 t381.length co70)).setCell ⟨gb388, 2, none⟩ (.slice Ao71 t384.length co71)) w.heap.size (fun _ => True) (.slice Ao65 t378.length co65) t378) := ⟨by (with_reducible repeat (first | apply Kd.R_alloc | apply Kd.R_drewN | apply Kd.R_drew)); exact Kd.R_mono (Kd.R_far (p := ⟨gb388, 2, none⟩) (Kd.R_far (p := ⟨gb388, 1, none⟩) (Kd.R_far (p := ⟨gb388, 0, none⟩) (Kd.R_types HO380.out BK388.out (by decide)) (fun _ hk => hk.2) (.slice Ao65 t378.length co65)) (fun _ hk => hk.2) (.slice Ao70 t381.length co70)) (fun _ hk => hk.2) (.slice Ao71 t384.length co71)) (fun _ hk => trivial)⟩
        have n7_ : Aside0 (Kd.R (Kd.int .u64) 40 (((w64.setCell ⟨gb388, 0, none⟩ (.slice Ao65 t378.length co65)).setCell ⟨gb388, 1, none⟩ (.slice Ao70 t381.length co70)).setCell ⟨gb388, 2, none⟩ (.slice Ao71 t384.length co71)) w.heap.size (fun _ => True) (.slice Ao70 t381.length co70) t381) := ⟨by (with_reducible repeat (first | apply Kd.R_alloc | apply Kd.R_drewN | apply Kd.R_drew)); exact Kd.R_mono (Kd.R_far (p := ⟨gb388, 2, none⟩) (Kd.R_far (p := ⟨gb388, 1, none⟩) (Kd.R_far (p := ⟨gb388, 0, none⟩) (Kd.R_types HO383.out BK388.out (by decide)) (fun _ hk => hk.2) (.slice Ao65 t378.length co65)) (fun _ hk => hk.2) (.slice Ao70 t381.length co70)) (fun _ hk => hk.2) (.slice Ao71 t384.length co71)) (fun _ hk => trivial)⟩
        have n8_ : Aside0 (Kd.R (Kd.int .u64) 40 (((w64.setCell ⟨gb388, 0, none⟩ (.slice Ao65 t378.length co65)).setCell ⟨gb388, 1, none⟩ (.slice Ao70 t381.length co70)).setCell ⟨gb388, 2, none⟩ (.slice Ao71 t384.length co71)) w.heap.size (fun _ => True) (.slice Ao71 t384.length co71) t384) := ⟨by (with_reducible repeat (first | apply Kd.R_alloc | apply Kd.R_drewN | apply Kd.R_drew)); exact Kd.R_mono (Kd.R_far (p := ⟨gb388, 2, none⟩) (Kd.R_far (p := ⟨gb388, 1, none⟩) (Kd.R_far (p := ⟨gb388, 0, none⟩) (Kd.R_types HO386.out BK388.out (by decide)) (fun _ hk => hk.2) (.slice Ao65 t378.length co65)) (fun _ hk => hk.2) (.slice Ao70 t381.length co70)) (fun _ hk => hk.2) (.slice Ao71 t384.length co71)) (fun _ hk => trivial)⟩
        have n9_ : Aside0 ((((w64.setCell ⟨gb388, 0, none⟩ (.slice Ao65 t378.length co65)).setCell ⟨gb388, 1, none⟩ (.slice Ao70 t381.length co70)).setCell ⟨gb388, 2, none⟩ (.slice Ao71 t384.length co71)).heap[gb366]? = some (.cells #[.slice none 0 0, .slice none 0 0, .slice none 0 0] 61 (0, 0))) := ⟨by (with_reducible repeat (first | refine blk_drewN ?_ _ | refine blk_drew ?_ | refine blk_alloc ?_ _)); refine blk_far ?_ NB366_388.out _; (with_reducible repeat (first | refine blk_drewN ?_ _ | refine blk_drew ?_ | refine blk_alloc ?_ _)); refine blk_far ?_ NB366_388.out _; (with_reducible repeat (first | refine blk_drewN ?_ _ | refine blk_drew ?_ | refine blk_alloc ?_ _)); refine blk_far ?_ NB366_388.out _; (with_reducible repeat (first | refine blk_drewN ?_ _ | refine blk_drew ?_ | refine blk_alloc ?_ _)); exact BK366.out⟩
        have n10_ : Aside0 ((((w64.setCell ⟨gb388, 0, none⟩ (.slice Ao65 t378.length co65)).setCell ⟨gb388, 1, none⟩ (.slice Ao70 t381.length co70)).setCell ⟨gb388, 2, none⟩ (.slice Ao71 t384.length co71)).heap[gb376]? = some (.cells #[.slice Ao58 x377000_1.length co58, .slice Ao59 x377001_1.length co59, .slice Ao60 x377002_1.length co60] 61 (0, 0))) := ⟨by (with_reducible repeat (first | refine blk_drewN ?_ _ | refine blk_drew ?_ | refine blk_alloc ?_ _)); refine blk_far ?_ NB376_388.out _; (with_reducible repeat (first | refine blk_drewN ?_ _ | refine blk_drew ?_ | refine blk_alloc ?_ _)); refine blk_far ?_ NB376_388.out _; (with_reducible repeat (first | refine blk_drewN ?_ _ | refine blk_drew ?_ | refine blk_alloc ?_ _)); refine blk_far ?_ NB376_388.out _; (with_reducible repeat (first | refine blk_drewN ?_ _ | refine blk_drew ?_ | refine blk_alloc ?_ _)); exact BK376.out⟩
        have n11_ : Aside0 ((((w64.setCell ⟨gb388, 0, none⟩ (.slice Ao65 t378.length co65)).setCell ⟨gb388, 1, none⟩ (.slice Ao70 t381.length co70)).setCell ⟨gb388, 2, none⟩ (.slice Ao71 t384.length co71)).heap[gb377]? = some (.cells #[.slice Ao55 x378000_1.length co55, .slice Ao61 x378001_1.length co61, .slice Ao62 x378002_1.length co62] 61 (0, 0))) := ⟨by (with_reducible repeat (first | refine blk_drewN ?_ _ | refine blk_drew ?_ | refine blk_alloc ?_ _)); refine blk_far ?_ NB377_388.out _; (with_reducible repeat (first | refine blk_drewN ?_ _ | refine blk_drew ?_ | refine blk_alloc ?_ _)); refine blk_far ?_ NB377_388.out _; (with_reducible repeat (first | refine blk_drewN ?_ _ | refine blk_drew ?_ | refine blk_alloc ?_ _)); refine blk_far ?_ NB377_388.out _; (with_reducible repeat (first | refine blk_drewN ?_ _ | refine blk_drew ?_ | refine blk_alloc ?_ _)); exact BK377.out⟩
        have n12_ : Aside0 ((((w64.setCell ⟨gb388, 0, none⟩ (.slice Ao65 t378.length co65)).setCell ⟨gb388, 1, none⟩ (.slice Ao70 t381.length co70)).setCell ⟨gb388, 2, none⟩ (.slice Ao71 t384.length co71)).heap[gb388]? = some (.cells #[.slice Ao65 t378.length co65, .slice Ao70 t381.length co70, .slice Ao71 t384.length co71] 61 (0, 0))) := ⟨by (with_reducible repeat (first | refine blk_drewN ?_ _ | refine blk_drew ?_ | refine blk_alloc ?_ _)); refine blk_put (cs := #[.slice Ao65 t378.length co65, .slice Ao70 t381.length co70, .slice none 0 0]) ?_ 2 _ rfl; (with_reducible repeat (first | refine blk_drewN ?_ _ | refine blk_drew ?_ | refine blk_alloc ?_ _)); refine blk_put (cs := #[.slice Ao65 t378.length co65, .slice none 0 0, .slice none 0 0]) ?_ 1 _ rfl; (with_reducible repeat (first | refine blk_drewN ?_ _ | refine blk_drew ?_ | refine blk_alloc ?_ _)); refine blk_put (cs := #[.slice none 0 0, .slice none 0 0, .slice none 0 0]) ?_ 0 _ rfl; (with_reducible repeat (first | refine blk_drewN ?_ _ | refine blk_drew ?_ | refine blk_alloc ?_ _)); exact BK388.out⟩
        have n13_ : Aside0 (Below w.heap.size w (((w64.setCell ⟨gb388, 0, none⟩ (.slice Ao65 t378.length co65)).setCell ⟨gb388, 1, none⟩ (.slice Ao70 t381.length co70)).setCell ⟨gb388, 2, none⟩ (.slice Ao71 t384.length co71))) := ⟨hs_⟩
        (try clear HO_377000)
        (try clear HO_377001)
        (try clear HO_377002)
        (try clear HO_378000)
        (try clear HO_378001)
        (try clear HO_378002)
        (try clear HO380)
        (try clear HO383)
        (try clear HO386)
        (try clear BK366)
        (try clear BK376)
        (try clear BK377)
        (try clear BK388)
        (try clear HB)
        generalize (((w64.setCell ⟨gb388, 0, none⟩ (.slice Ao65 t378.length co65)).setCell ⟨gb388, 1, none⟩ (.slice Ao70 t381.length co70)).setCell ⟨gb388, 2, none⟩ (.slice Ao71 t384.length co71)) = w73 at n0_ n1_ n2_ n3_ n4_ n5_ n6_ n7_ n8_ n9_ n10_ n11_ n12_ n13_ ⊢
        have HO_377000 := n0_
        have HO_377001 := n1_
        have HO_377002 := n2_
        have HO_378000 := n3_
        have HO_378001 := n4_
        have HO_378002 := n5_
        have HO380 := n6_
        have HO383 := n7_
        have HO386 := n8_
        have BK366 := n9_
        have BK376 := n10_
        have BK377 := n11_
        have BK388 := n12_
        have HB := n13_
        clear n0_ n1_ n2_ n3_ n4_ n5_ n6_ n7_ n8_ n9_ n10_ n11_ n12_ n13_
        have n0_ := A_ (Kd.R_drew HO_377000.out)
        have n1_ := A_ (Kd.R_drew HO_377001.out)
        have n2_ := A_ (Kd.R_drew HO_377002.out)
        have n3_ := A_ (Kd.R_drew HO_378000.out)
        have n4_ := A_ (Kd.R_drew HO_378001.out)
        have n5_ := A_ (Kd.R_drew HO_378002.out)
        have n6_ := A_ (Kd.R_drew HO380.out)
        have n7_ := A_ (Kd.R_drew HO383.out)
        have n8_ := A_ (Kd.R_drew HO386.out)
        have n9_ := A_ (blk_drew BK366.out)
        have n10_ := A_ (blk_drew BK376.out)
        have n11_ := A_ (blk_drew BK377.out)
        have n12_ := A_ (blk_drew BK388.out)
        have n13_ := A_ (below_drew1 HB.out)
        clear HO_377000
        clear HO_377001
        clear HO_377002
        clear HO_378000
        clear HO_378001
        clear HO_378002
        clear HO380
        clear HO383
        clear HO386
        clear BK366
        clear BK376
        clear BK377
        clear BK388
        clear HB
        have HO_377000 := n0_
        have HO_377001 := n1_
        have HO_377002 := n2_
        have HO_378000 := n3_
        have HO_378001 := n4_
        have HO_378002 := n5_
        have HO380 := n6_
        have HO383 := n7_
        have HO386 := n8_
        have BK366 := n9_
        have BK376 := n10_
        have BK377 := n11_
        have BK388 := n12_
        have HB := n13_
        clear n0_ n1_ n2_ n3_ n4_ n5_ n6_ n7_ n8_ n9_ n10_ n11_ n12_ n13_
        refine start_ (n := 4) (S := fun w' => w'.cell? ⟨gb377, 0, none⟩ = some (.slice Ao55 x378000_1.length co55) ∧ w'.cell? ⟨gb377, 1, none⟩ = some (.slice Ao61 x378001_1.length co61) ∧ w'.cell? ⟨gb377, 2, none⟩ = some (.slice Ao62 x378002_1.length co62) ∧ w'.cell? ⟨gb388, 0, none⟩ = some (.slice Ao65 t378.length co65) ∧ w'.cell? ⟨gb388, 1, none⟩ = some (.slice Ao70 t381.length co70) ∧ w'.cell? ⟨gb388, 2, none⟩ = some (.slice Ao71 t384.length co71)) (ds := [3]) #[false, false, false, false] (by kernel_rfl) rfl rfl ⟨(blk_cell BK377.out 0).trans rfl, (blk_cell BK377.out 1).trans rfl, (blk_cell BK377.out 2).trans rfl, (blk_cell BK388.out 0).trans rfl, (blk_cell BK388.out 1).trans rfl, (blk_cell BK388.out 2).trans rfl⟩ (fun hHeld => ?_)
        generalize w73.drew = w74 at HO_377000 HO_377001 HO_377002 HO_378000 HO_378001 HO_378002 HO380 HO383 HO386 BK366 BK376 BK377 BK388 HB hHeld ⊢
        refine take_ (i := 0) (N := some 52) (v := ?_) (a' := ?_) #[true, false, false, false] rfl rfl (by kernel_rfl) (fun _ _ _ h => h) (Or.inl ⟨by rfl, ?_⟩) hHeld ?_ ?_
        rotate_left
        ·rintro w' ⟨s0, s1, s2, s3, s4, s5⟩
         go_simp
         with_reducible rfl
        rotate_left
        ·simp only [Act.put, List.setIfInBounds_toArray, List.set_cons_zero, List.set_cons_succ, i64_w, i32_w]
         rfl
        refine take_ (i := 1) (N := some 53) (v := ?_) (a' := ?_) #[true, true, false, false] rfl rfl (by kernel_rfl) (fun _ _ _ h => h) (Or.inl ⟨by rfl, ?_⟩) hHeld ?_ ?_
        rotate_left
        ·rintro w' ⟨s0, s1, s2, s3, s4, s5⟩
         go_simp
         with_reducible rfl
        rotate_left
        ·simp only [Act.put, List.setIfInBounds_toArray, List.set_cons_zero, List.set_cons_succ, i64_w, i32_w]
         rfl
        refine one_ (i := 2) (N := none) #[true, true, true, false] rfl rfl (by kernel_rfl) (by decide) (fun K hK => ?_)
        have hs75 : w74.cell? ⟨gb376, 0, none⟩ = some (.slice Ao58 x377000_1.length co58) := (blk_cell BK376.out 0).trans rfl
        have hfs75 := blk_frozen BK376.out 0
        have hns75_0 := NB366_376.out
        have hns75_2 := NB377_376.out
        have hns75_3 := NB388_376.out
        have hms75_0 := NB376_366.out
        have hms75_2 := NB376_377.out
        have hms75_3 := NB376_388.out
        have hs76 : w74.cell? ⟨gb376, 1, none⟩ = some (.slice Ao59 x377001_1.length co59) := (blk_cell BK376.out 1).trans rfl
        have hfs76 := blk_frozen BK376.out 1
        have hns76_0 := NB366_376.out
        have hns76_2 := NB377_376.out
        have hns76_3 := NB388_376.out
        have hms76_0 := NB376_366.out
        have hms76_2 := NB376_377.out
        have hms76_3 := NB376_388.out
        have hs77 : w74.cell? ⟨gb376, 2, none⟩ = some (.slice Ao60 x377002_1.length co60) := (blk_cell BK376.out 2).trans rfl
        have hfs77 := blk_frozen BK376.out 2
        have hns77_0 := NB366_376.out
        have hns77_2 := NB377_376.out
        have hns77_3 := NB388_376.out
        have hms77_0 := NB376_366.out
        have hms77_2 := NB376_377.out
        have hms77_3 := NB376_388.out
        refine skip_ (w1 := ?_) (by rfl) rfl ?_ ?_
        rotate_left
        ·go_simp
         rfl
        refine hK.out _ _ ⟨((cell_far (p := ⟨gb376, _, none⟩) NB377_376.out _).trans (((cell_far (p := ⟨gb376, _, none⟩) NB377_376.out _).trans (((cell_far (p := ⟨gb376, _, none⟩) NB377_376.out _).trans (hHeld.1)))))), ((cell_far (p := ⟨gb376, _, none⟩) NB377_376.out _).trans (((cell_far (p := ⟨gb376, _, none⟩) NB377_376.out _).trans (((cell_far (p := ⟨gb376, _, none⟩) NB377_376.out _).trans (hHeld.2.1)))))), ((cell_far (p := ⟨gb376, _, none⟩) NB377_376.out _).trans (((cell_far (p := ⟨gb376, _, none⟩) NB377_376.out _).trans (((cell_far (p := ⟨gb376, _, none⟩) NB377_376.out _).trans (hHeld.2.2.1)))))), ((cell_far (p := ⟨gb376, _, none⟩) NB388_376.out _).trans (((cell_far (p := ⟨gb376, _, none⟩) NB388_376.out _).trans (((cell_far (p := ⟨gb376, _, none⟩) NB388_376.out _).trans (hHeld.2.2.2.1)))))), ((cell_far (p := ⟨gb376, _, none⟩) NB388_376.out _).trans (((cell_far (p := ⟨gb376, _, none⟩) NB388_376.out _).trans (((cell_far (p := ⟨gb376, _, none⟩) NB388_376.out _).trans (hHeld.2.2.2.2.1)))))), ((cell_far (p := ⟨gb376, _, none⟩) NB388_376.out _).trans (((cell_far (p := ⟨gb376, _, none⟩) NB388_376.out _).trans (((cell_far (p := ⟨gb376, _, none⟩) NB388_376.out _).trans (hHeld.2.2.2.2.2))))))⟩ (fun hHeld => ?_)
        clear hK K
        refine last_ (i := 3) (N := none) #[true, true, true, true] rfl rfl (by kernel_rfl) (by decide) (fun K hK => ?_)
        have hs78 : w74.cell? ⟨gb377, 0, none⟩ = some (.slice Ao55 x378000_1.length co55) := (blk_cell BK377.out 0).trans rfl
        have hfs78 := blk_frozen BK377.out 0
        have hns78_0 := NB366_377.out
        have hns78_1 := NB376_377.out
        have hns78_3 := NB388_377.out
        have hms78_0 := NB377_366.out
        have hms78_1 := NB377_376.out
        have hms78_3 := NB377_388.out
        have hs79 : w74.cell? ⟨gb377, 1, none⟩ = some (.slice Ao61 x378001_1.length co61) := (blk_cell BK377.out 1).trans rfl
        have hfs79 := blk_frozen BK377.out 1
        have hns79_0 := NB366_377.out
        have hns79_1 := NB376_377.out
        have hns79_3 := NB388_377.out
        have hms79_0 := NB377_366.out
        have hms79_1 := NB377_376.out
        have hms79_3 := NB377_388.out
        have hs80 : w74.cell? ⟨gb377, 2, none⟩ = some (.slice Ao62 x378002_1.length co62) := (blk_cell BK377.out 2).trans rfl
        have hfs80 := blk_frozen BK377.out 2
        have hns80_0 := NB366_377.out
        have hns80_1 := NB376_377.out
        have hns80_3 := NB388_377.out
        have hms80_0 := NB377_366.out
        have hms80_1 := NB377_376.out
        have hms80_3 := NB377_388.out
        refine skip_ (w1 := ?_) (by rfl) rfl ?_ ?_
        rotate_left
        ·go_simp
         rfl
        refine hK.out _ _ ?_
        clear hK K
        refine done_ (by kernel_rfl) ?_
        try go_wp2_with (go_step3)
        go_roundg kj21
        case measure => have := HK1.out; have := HJ21.out; omega
        case rel => exact ⟨(x378000_1), (x378001_1), (x378002_1), (t378), (t381), (t384), (.slice Ao55 x378000_1.length co55), (.slice Ao61 x378001_1.length co61), (.slice Ao62 x378002_1.length co62), (.slice Ao65 t378.length co65), (.slice Ao70 t381.length co70), (.slice Ao71 t384.length co71), H', ⟨by have := HK1.out; have := HJ21.out; omega⟩, ⟨by (with_reducible repeat (first | apply Kd.R_alloc | apply Kd.R_drewN | apply Kd.R_drew)); exact Kd.R_mono (Kd.R_far (p := ⟨gb377, 2, none⟩) (Kd.R_far (p := ⟨gb377, 1, none⟩) (Kd.R_far (p := ⟨gb377, 0, none⟩) (Kd.R_far (p := ⟨gb376, 2, none⟩) (Kd.R_far (p := ⟨gb376, 1, none⟩) (Kd.R_far (p := ⟨gb376, 0, none⟩) (Kd.R_types (Kd.R_types HO_378000.out BK376.out (by decide)) BK377.out (by decide)) (fun _ hk => hk.1.2) (.slice Ao55 x378000_1.length co55)) (fun _ hk => hk.1.2) (.slice Ao61 x378001_1.length co61)) (fun _ hk => hk.1.2) (.slice Ao62 x378002_1.length co62)) (fun _ hk => hk.2) (.slice Ao65 t378.length co65)) (fun _ hk => hk.2) (.slice Ao70 t381.length co70)) (fun _ hk => hk.2) (.slice Ao71 t384.length co71)) (fun _ hk => trivial)⟩, ⟨by (with_reducible repeat (first | apply Kd.R_alloc | apply Kd.R_drewN | apply Kd.R_drew)); exact Kd.R_mono (Kd.R_far (p := ⟨gb377, 2, none⟩) (Kd.R_far (p := ⟨gb377, 1, none⟩) (Kd.R_far (p := ⟨gb377, 0, none⟩) (Kd.R_far (p := ⟨gb376, 2, none⟩) (Kd.R_far (p := ⟨gb376, 1, none⟩) (Kd.R_far (p := ⟨gb376, 0, none⟩) (Kd.R_types (Kd.R_types HO_378001.out BK376.out (by decide)) BK377.out (by decide)) (fun _ hk => hk.1.2) (.slice Ao55 x378000_1.length co55)) (fun _ hk => hk.1.2) (.slice Ao61 x378001_1.length co61)) (fun _ hk => hk.1.2) (.slice Ao62 x378002_1.length co62)) (fun _ hk => hk.2) (.slice Ao65 t378.length co65)) (fun _ hk => hk.2) (.slice Ao70 t381.length co70)) (fun _ hk => hk.2) (.slice Ao71 t384.length co71)) (fun _ hk => trivial)⟩, ⟨by (with_reducible repeat (first | apply Kd.R_alloc | apply Kd.R_drewN | apply Kd.R_drew)); exact Kd.R_mono (Kd.R_far (p := ⟨gb377, 2, none⟩) (Kd.R_far (p := ⟨gb377, 1, none⟩) (Kd.R_far (p := ⟨gb377, 0, none⟩) (Kd.R_far (p := ⟨gb376, 2, none⟩) (Kd.R_far (p := ⟨gb376, 1, none⟩) (Kd.R_far (p := ⟨gb376, 0, none⟩) (Kd.R_types (Kd.R_types HO_378002.out BK376.out (by decide)) BK377.out (by decide)) (fun _ hk => hk.1.2) (.slice Ao55 x378000_1.length co55)) (fun _ hk => hk.1.2) (.slice Ao61 x378001_1.length co61)) (fun _ hk => hk.1.2) (.slice Ao62 x378002_1.length co62)) (fun _ hk => hk.2) (.slice Ao65 t378.length co65)) (fun _ hk => hk.2) (.slice Ao70 t381.length co70)) (fun _ hk => hk.2) (.slice Ao71 t384.length co71)) (fun _ hk => trivial)⟩, ⟨by (with_reducible repeat (first | apply Kd.R_alloc | apply Kd.R_drewN | apply Kd.R_drew)); exact Kd.R_mono (Kd.R_far (p := ⟨gb377, 2, none⟩) (Kd.R_far (p := ⟨gb377, 1, none⟩) (Kd.R_far (p := ⟨gb377, 0, none⟩) (Kd.R_far (p := ⟨gb376, 2, none⟩) (Kd.R_far (p := ⟨gb376, 1, none⟩) (Kd.R_far (p := ⟨gb376, 0, none⟩) (Kd.R_types (Kd.R_types HO380.out BK376.out (by decide)) BK377.out (by decide)) (fun _ hk => hk.1.2) (.slice Ao55 x378000_1.length co55)) (fun _ hk => hk.1.2) (.slice Ao61 x378001_1.length co61)) (fun _ hk => hk.1.2) (.slice Ao62 x378002_1.length co62)) (fun _ hk => hk.2) (.slice Ao65 t378.length co65)) (fun _ hk => hk.2) (.slice Ao70 t381.length co70)) (fun _ hk => hk.2) (.slice Ao71 t384.length co71)) (fun _ hk => trivial)⟩, ⟨by (with_reducible repeat (first | apply Kd.R_alloc | apply Kd.R_drewN | apply Kd.R_drew)); exact Kd.R_mono (Kd.R_far (p := ⟨gb377, 2, none⟩) (Kd.R_far (p := ⟨gb377, 1, none⟩) (Kd.R_far (p := ⟨gb377, 0, none⟩) (Kd.R_far (p := ⟨gb376, 2, none⟩) (Kd.R_far (p := ⟨gb376, 1, none⟩) (Kd.R_far (p := ⟨gb376, 0, none⟩) (Kd.R_types (Kd.R_types HO383.out BK376.out (by decide)) BK377.out (by decide)) (fun _ hk => hk.1.2) (.slice Ao55 x378000_1.length co55)) (fun _ hk => hk.1.2) (.slice Ao61 x378001_1.length co61)) (fun _ hk => hk.1.2) (.slice Ao62 x378002_1.length co62)) (fun _ hk => hk.2) (.slice Ao65 t378.length co65)) (fun _ hk => hk.2) (.slice Ao70 t381.length co70)) (fun _ hk => hk.2) (.slice Ao71 t384.length co71)) (fun _ hk => trivial)⟩, ⟨by (with_reducible repeat (first | apply Kd.R_alloc | apply Kd.R_drewN | apply Kd.R_drew)); exact Kd.R_mono (Kd.R_far (p := ⟨gb377, 2, none⟩) (Kd.R_far (p := ⟨gb377, 1, none⟩) (Kd.R_far (p := ⟨gb377, 0, none⟩) (Kd.R_far (p := ⟨gb376, 2, none⟩) (Kd.R_far (p := ⟨gb376, 1, none⟩) (Kd.R_far (p := ⟨gb376, 0, none⟩) (Kd.R_types (Kd.R_types HO386.out BK376.out (by decide)) BK377.out (by decide)) (fun _ hk => hk.1.2) (.slice Ao55 x378000_1.length co55)) (fun _ hk => hk.1.2) (.slice Ao61 x378001_1.length co61)) (fun _ hk => hk.1.2) (.slice Ao62 x378002_1.length co62)) (fun _ hk => hk.2) (.slice Ao65 t378.length co65)) (fun _ hk => hk.2) (.slice Ao70 t381.length co70)) (fun _ hk => hk.2) (.slice Ao71 t384.length co71)) (fun _ hk => trivial)⟩, ⟨by (with_reducible repeat (first | refine blk_drewN ?_ _ | refine blk_drew ?_ | refine blk_alloc ?_ _)); refine blk_far ?_ NB366_377.out _; (with_reducible repeat (first | refine blk_drewN ?_ _ | refine blk_drew ?_ | refine blk_alloc ?_ _)); refine blk_far ?_ NB366_377.out _; (with_reducible repeat (first | refine blk_drewN ?_ _ | refine blk_drew ?_ | refine blk_alloc ?_ _)); refine blk_far ?_ NB366_377.out _; (with_reducible repeat (first | refine blk_drewN ?_ _ | refine blk_drew ?_ | refine blk_alloc ?_ _)); refine blk_far ?_ NB366_376.out _; (with_reducible repeat (first | refine blk_drewN ?_ _ | refine blk_drew ?_ | refine blk_alloc ?_ _)); refine blk_far ?_ NB366_376.out _; (with_reducible repeat (first | refine blk_drewN ?_ _ | refine blk_drew ?_ | refine blk_alloc ?_ _)); refine blk_far ?_ NB366_376.out _; (with_reducible repeat (first | refine blk_drewN ?_ _ | refine blk_drew ?_ | refine blk_alloc ?_ _)); exact BK366.out⟩, ⟨by (with_reducible repeat (first | refine blk_drewN ?_ _ | refine blk_drew ?_ | refine blk_alloc ?_ _)); refine blk_far ?_ NB376_377.out _; (with_reducible repeat (first | refine blk_drewN ?_ _ | refine blk_drew ?_ | refine blk_alloc ?_ _)); refine blk_far ?_ NB376_377.out _; (with_reducible repeat (first | refine blk_drewN ?_ _ | refine blk_drew ?_ | refine blk_alloc ?_ _)); refine blk_far ?_ NB376_377.out _; (with_reducible repeat (first | refine blk_drewN ?_ _ | refine blk_drew ?_ | refine blk_alloc ?_ _)); refine blk_put (cs := #[.slice Ao55 x378000_1.length co55, .slice Ao61 x378001_1.length co61, .slice Ao60 x377002_1.length co60]) ?_ 2 _ rfl; (with_reducible repeat (first | refine blk_drewN ?_ _ | refine blk_drew ?_ | refine blk_alloc ?_ _)); refine blk_put (cs := #[.slice Ao55 x378000_1.length co55, .slice Ao59 x377001_1.length co59, .slice Ao60 x377002_1.length co60]) ?_ 1 _ rfl; (with_reducible repeat (first | refine blk_drewN ?_ _ | refine blk_drew ?_ | refine blk_alloc ?_ _)); refine blk_put (cs := #[.slice Ao58 x377000_1.length co58, .slice Ao59 x377001_1.length co59, .slice Ao60 x377002_1.length co60]) ?_ 0 _ rfl; (with_reducible repeat (first | refine blk_drewN ?_ _ | refine blk_drew ?_ | refine blk_alloc ?_ _)); exact BK376.out⟩, ⟨by (with_reducible repeat (first | refine blk_drewN ?_ _ | refine blk_drew ?_ | refine blk_alloc ?_ _)); refine blk_put (cs := #[.slice Ao65 t378.length co65, .slice Ao70 t381.length co70, .slice Ao62 x378002_1.length co62]) ?_ 2 _ rfl; (with_reducible repeat (first | refine blk_drewN ?_ _ | refine blk_drew ?_ | refine blk_alloc ?_ _)); refine blk_put (cs := #[.slice Ao65 t378.length co65, .slice Ao61 x378001_1.length co61, .slice Ao62 x378002_1.length co62]) ?_ 1 _ rfl; (with_reducible repeat (first | refine blk_drewN ?_ _ | refine blk_drew ?_ | refine blk_alloc ?_ _)); refine blk_put (cs := #[.slice Ao55 x378000_1.length co55, .slice Ao61 x378001_1.length co61, .slice Ao62 x378002_1.length co62]) ?_ 0 _ rfl; (with_reducible repeat (first | refine blk_drewN ?_ _ | refine blk_drew ?_ | refine blk_alloc ?_ _)); refine blk_far ?_ NB377_376.out _; (with_reducible repeat (first | refine blk_drewN ?_ _ | refine blk_drew ?_ | refine blk_alloc ?_ _)); refine blk_far ?_ NB377_376.out _; (with_reducible repeat (first | refine blk_drewN ?_ _ | refine blk_drew ?_ | refine blk_alloc ?_ _)); refine blk_far ?_ NB377_376.out _; (with_reducible repeat (first | refine blk_drewN ?_ _ | refine blk_drew ?_ | refine blk_alloc ?_ _)); exact BK377.out⟩, ⟨hs_⟩⟩
       ·rw [if_neg c72] at H
        have c72b0 : (t387 == 0) = false := beq_eq_false_iff_ne.mpr c72
        have c72b1 : (t387 != 0) = true := bne_iff_ne.mpr c72
        (first | rw [c72b0] | rw [c72b1] | (simp only [i64_w, i32_w]; first | rw [c72b0] | rw [c72b1]) | skip)
        simp only [Option.some.injEq, Prod.mk.injEq] at H
        obtain ⟨rfl, rfl, rfl, rfl⟩ := H
        have hnb81 := NB366_376.out
        have hnc81 := NB376_366.out
        have hnb82 := NB366_377.out
        have hnc82 := NB377_366.out
        have hnb83 := NB366_388.out
        have hnc83 := NB388_366.out
        have hcz84_0 : w64.cell? ⟨gb366, 0, none⟩ = some (.slice none 0 0) := (blk_cell BK366.out 0).trans rfl
        have hcz84_1 : w64.cell? ⟨gb366, 1, none⟩ = some (.slice none 0 0) := (blk_cell BK366.out 1).trans rfl
        have hcz84_2 : w64.cell? ⟨gb366, 2, none⟩ = some (.slice none 0 0) := (blk_cell BK366.out 2).trans rfl
        have hfz84_0 := blk_frozen BK366.out 0
        have hfz84_1 := blk_frozen BK366.out 1
        have hfz84_2 := blk_frozen BK366.out 2
        go_wp2_with (go_step3)
        (try rw [Exit.noGoto_ret])
        refine bodyPost_ret (results_ct rfl _ _ gb366 61 #[.slice none 0 0, .slice none 0 0, .slice none 0 0] (0, 0) _ rfl (by (with_reducible repeat (first | refine blk_drewN ?_ _ | refine blk_drew ?_ | refine blk_alloc ?_ _)); refine blk_put (cs := #[.slice none 0 0, .slice none 0 0, .slice none 0 0]) ?_ 2 _ rfl; (with_reducible repeat (first | refine blk_drewN ?_ _ | refine blk_drew ?_ | refine blk_alloc ?_ _)); refine blk_put (cs := #[.slice none 0 0, .slice none 0 0, .slice none 0 0]) ?_ 1 _ rfl; (with_reducible repeat (first | refine blk_drewN ?_ _ | refine blk_drew ?_ | refine blk_alloc ?_ _)); refine blk_put (cs := #[.slice none 0 0, .slice none 0 0, .slice none 0 0]) ?_ 0 _ rfl; (with_reducible repeat (first | refine blk_drewN ?_ _ | refine blk_drew ?_ | refine blk_alloc ?_ _)); refine blk_far ?_ NB366_388.out _; (with_reducible repeat (first | refine blk_drewN ?_ _ | refine blk_drew ?_ | refine blk_alloc ?_ _)); refine blk_far ?_ NB366_388.out _; (with_reducible repeat (first | refine blk_drewN ?_ _ | refine blk_drew ?_ | refine blk_alloc ?_ _)); refine blk_far ?_ NB366_388.out _; (with_reducible repeat (first | refine blk_drewN ?_ _ | refine blk_drew ?_ | refine blk_alloc ?_ _)); exact BK366.out) Try.underlying61 rfl (by kernel_rfl)) rfl ?_
        exact ⟨_, _, _, fr_, by first | exact Kd.R_nil _ _ _ _ _ | exact Kd.N_nil _ _ _ _ _ | exact Kd.V_nil _ _ _ _ _ | exact Kd.Q_nil _ _ _ _ _ | exact Kd.S_nil _ _ _ _ _, by first | exact Kd.R_nil _ _ _ _ _ | exact Kd.N_nil _ _ _ _ _ | exact Kd.V_nil _ _ _ _ _ | exact Kd.Q_nil _ _ _ _ _ | exact Kd.S_nil _ _ _ _ _, by first | exact Kd.R_nil _ _ _ _ _ | exact Kd.N_nil _ _ _ _ _ | exact Kd.V_nil _ _ _ _ _ | exact Kd.Q_nil _ _ _ _ _ | exact Kd.S_nil _ _ _ _ _, hs_⟩
end Go.Proofs.Yteofgcmgncaojaa.PEuclidInverts
