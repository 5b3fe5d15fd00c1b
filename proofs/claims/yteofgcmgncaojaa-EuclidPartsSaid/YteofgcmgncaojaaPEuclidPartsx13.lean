/- The Go functions as Lean functions, each with the proof that its call comes to just that; written by a program of this session, by the words of the print. -/
import Derived.Test.YteofgcmgncaojaaPEuclidPartsx0
import Derived.Test.YteofgcmgncaojaaPEuclidPartsx1
import Derived.Test.YteofgcmgncaojaaPEuclidPartsx4
import Derived.Test.YteofgcmgncaojaaPEuclidPartsx5
import Derived.Test.YteofgcmgncaojaaPEuclidPartsx8
import Derived.Test.YteofgcmgncaojaaPEuclidPartsx9
import Derived.Test.YteofgcmgncaojaaPEuclidPartsx11
namespace Go.Proofs.Yteofgcmgncaojaa.PEuclidParts
open Go.RowKit Go.Proofs.YteofgcmgncaojaaW.PrintWords Go.Proofs.YteofgcmgncaojaaW.PrintLast Go.Proofs.YteofgcmgncaojaaW.PrintMore
attribute [local go_sem] max2_int min2_int max_two min_two max_three min_three max_four min_four   -- for this text's walks alone
set_option linter.unusedVariables false
set_option linter.unusedSimpArgs false
/-! ### euclid_Ratio: function 24 -/
mutual
def euclid_Ratio.j0 : Nat → Int → Int → Bool → List Int → List Int → List Int → Option (List Int × List Int × Bool × Int)
 | 0, _, _, _, _, _, _ => none
 | k + 1, x0, x11, x43, x549000, x549001, x549002 => if x43 = true then (some (([] : List Int), ([] : List Int), false, x11)) else ((poly_DivMod.f k x0 x549000 x549002).bind fun bt549 => (if bt549.2.2 = 0 then (euclid_Ratio.j1 k x0 bt549.2.2 bt549.1 (decide ((bt549.2.1.length : Int) > 0)) x549000 x549001 x549002) else (euclid_Ratio.j1 k x0 bt549.2.2 bt549.1 true x549000 x549001 x549002)))
def euclid_Ratio.j1 : Nat → Int → Int → List Int → Bool → List Int → List Int → List Int → Option (List Int × List Int × Bool × Int)
 | 0, _, _, _, _, _, _, _ => none
 | k + 1, x0, x11, x13, x61, x549000, x549001, x549002 => if x61 = true then (some (([] : List Int), ([] : List Int), false, x11)) else ((euclid_monic.f k x0 x549002).bind fun bt556 => (if bt556.2 = 0 then (some (x13, bt556.1, true, 0)) else (some (([] : List Int), ([] : List Int), false, bt556.2))))
end
def euclid_Ratio.f (k : Nat) (a0 : Int) (l1 : List Int) (l2 : List Int) (a3 : Int) : Option (List Int × List Int × Bool × Int) := if a3 < 0 then (some (([] : List Int), ([] : List Int), false, 2)) else ((euclid_may.f k a0 (([l1, l2] : List (List Int)))).bind fun t536 => (if t536 = 0 then ((poly_Degree.f k l2).bind fun t537 => (if t537 < 0 then (some (([] : List Int), ([] : List Int), false, 5)) else ((euclid_partial.f k a0 l2 l1 a3).bind fun bt538 => (if bt538.2.2.2 = 0 then (euclid_Ratio.j0 k a0 bt538.2.2.2 ((bt538.2.2.1.length : Int) == 0) bt538.1 bt538.2.1 bt538.2.2.1) else (euclid_Ratio.j0 k a0 bt538.2.2.2 true bt538.1 bt538.2.1 bt538.2.2.1))))) else (some (([] : List Int), ([] : List Int), false, t536))))
theorem euclid_Ratio.mono_l : ∀ k, (∀ y0 y1 y2 y3 y4 y5, LeO (euclid_Ratio.j0 k y0 y1 y2 y3 y4 y5) (euclid_Ratio.j0 (k + 1) y0 y1 y2 y3 y4 y5)) ∧ (∀ y0 y1 y2 y3 y4 y5 y6, LeO (euclid_Ratio.j1 k y0 y1 y2 y3 y4 y5 y6) (euclid_Ratio.j1 (k + 1) y0 y1 y2 y3 y4 y5 y6))
 | 0 => ⟨fun _ _ _ _ _ _ r h => by simp [euclid_Ratio.j0] at h, fun _ _ _ _ _ _ _ r h => by simp [euclid_Ratio.j1] at h⟩
 | k + 1 => by
  obtain ⟨ih0, ih1⟩ := euclid_Ratio.mono_l k
  refine ⟨?_, ?_⟩
  ·intro y0 y1 y2 y3 y4 y5
   unfold euclid_Ratio.j0
   repeat' first
   | (with_reducible exact ih0 _ _ _ _ _ _)
   | (with_reducible exact ih1 _ _ _ _ _ _ _)
   | (with_reducible exact euclid_may.mono _ _ _)
   | (with_reducible exact euclid_monic.mono _ _ _)
   | (with_reducible exact euclid_partial.mono _ _ _ _ _)
   | (with_reducible exact poly_Degree.mono _ _)
   | (with_reducible exact poly_DivMod.mono _ _ _ _)
   | (with_reducible exact LeO.refl _)
   | (with_reducible exact LeO.none _)
   | (with_reducible refine LeO.ite ?_ ?_)
   | (with_reducible refine LeO.bind ?_ (fun _ => ?_))
   | exact ih0 _ _ _ _ _ _
   | exact ih1 _ _ _ _ _ _ _
   | exact euclid_may.mono _ _ _
   | exact euclid_monic.mono _ _ _
   | exact euclid_partial.mono _ _ _ _ _
   | exact poly_Degree.mono _ _
   | exact poly_DivMod.mono _ _ _ _
   | exact LeO.none _
   | refine LeO.ite ?_ ?_
   | refine LeO.bind ?_ (fun _ => ?_)
  ·intro y0 y1 y2 y3 y4 y5 y6
   unfold euclid_Ratio.j1
   repeat' first
   | (with_reducible exact ih0 _ _ _ _ _ _)
   | (with_reducible exact ih1 _ _ _ _ _ _ _)
   | (with_reducible exact euclid_may.mono _ _ _)
   | (with_reducible exact euclid_monic.mono _ _ _)
   | (with_reducible exact euclid_partial.mono _ _ _ _ _)
   | (with_reducible exact poly_Degree.mono _ _)
   | (with_reducible exact poly_DivMod.mono _ _ _ _)
   | (with_reducible exact LeO.refl _)
   | (with_reducible exact LeO.none _)
   | (with_reducible refine LeO.ite ?_ ?_)
   | (with_reducible refine LeO.bind ?_ (fun _ => ?_))
   | exact ih0 _ _ _ _ _ _
   | exact ih1 _ _ _ _ _ _ _
   | exact euclid_may.mono _ _ _
   | exact euclid_monic.mono _ _ _
   | exact euclid_partial.mono _ _ _ _ _
   | exact poly_Degree.mono _ _
   | exact poly_DivMod.mono _ _ _ _
   | exact LeO.none _
   | refine LeO.ite ?_ ?_
   | refine LeO.bind ?_ (fun _ => ?_)
theorem euclid_Ratio.mono : ∀ a0 a1 a2 a3 k, LeO (euclid_Ratio.f k a0 a1 a2 a3) (euclid_Ratio.f (k + 1) a0 a1 a2 a3) := by
 intro a0 a1 a2 a3 k
 obtain ⟨ih0, ih1⟩ := euclid_Ratio.mono_l k
 unfold euclid_Ratio.f
 repeat' first
   | (with_reducible exact ih0 _ _ _ _ _ _)
   | (with_reducible exact ih1 _ _ _ _ _ _ _)
   | (with_reducible exact euclid_may.mono _ _ _)
   | (with_reducible exact euclid_monic.mono _ _ _)
   | (with_reducible exact euclid_partial.mono _ _ _ _ _)
   | (with_reducible exact poly_Degree.mono _ _)
   | (with_reducible exact poly_DivMod.mono _ _ _ _)
   | (with_reducible exact LeO.refl _)
   | (with_reducible exact LeO.none _)
   | (with_reducible refine LeO.ite ?_ ?_)
   | (with_reducible refine LeO.bind ?_ (fun _ => ?_))
   | exact ih0 _ _ _ _ _ _
   | exact ih1 _ _ _ _ _ _ _
   | exact euclid_may.mono _ _ _
   | exact euclid_monic.mono _ _ _
   | exact euclid_partial.mono _ _ _ _ _
   | exact poly_Degree.mono _ _
   | exact poly_DivMod.mono _ _ _ _
   | exact LeO.none _
   | refine LeO.ite ?_ ?_
   | refine LeO.bind ?_ (fun _ => ?_)
set_option maxHeartbeats 8000000 in
set_option maxRecDepth 100000 in
theorem euclid_Ratio.calls (k : Nat) (a0 : Int) (P1_ : Nat → Prop) (A1 : Option Addr) (c1 : Nat) (l1 : List Int) (P2_ : Nat → Prop) (A2 : Option Addr) (c2 : Nat) (l2 : List Int) (a3 : Int) (r1 : List Int) (r2 : List Int) (r3 : Bool) (r4 : Int) (w : World) (hs1 : Kd.V (Kd.int .u64) 40 w w.heap.size (fun k_ => P1_ k_) (.slice A1 l1.length c1) l1) (hs2 : Kd.V (Kd.int .u64) 40 w w.heap.size (fun k_ => P2_ k_) (.slice A2 l2.length c2) l2) (h : euclid_Ratio.f k a0 l1 l2 a3 = some (r1, r2, r3, r4)) :
  Calls Try.prog 24 #[.int .u8 a0, .slice A1 l1.length c1, .slice A2 l2.length c2, .int .i64 a3] w fun e w' => ∃ v0_ v1_ : Value, e = .returned (.tuple #[v0_, v1_, .bool r3, .int .i64 r4]) ∧ Kd.R (Kd.int .u64) 40 w' w.heap.size (fun k_ => (w.heap.size ≤ k_)) v0_ r1 ∧ Kd.R (Kd.int .u64) 40 w' w.heap.size (fun k_ => (w.heap.size ≤ k_)) v1_ r2 ∧ Below w.heap.size w w' := by
 have hu61 := Try.underlying61
 have HO1 := A_ (show Kd.V (Kd.int .u64) 40 w w.heap.size (fun k_ => ((P1_ k_ ∨ P2_ k_) ∨ w.heap.size ≤ k_)) (.slice A1 l1.length c1) l1 from Kd.V_mono hs1 (fun k_ hk => .inl (.inl hk)))
 have HO2 := A_ (show Kd.V (Kd.int .u64) 40 w w.heap.size (fun k_ => ((P1_ k_ ∨ P2_ k_) ∨ w.heap.size ≤ k_)) (.slice A2 l2.length c2) l2 from Kd.V_mono hs2 (fun k_ hk => .inl (.inr hk)))
 have HB := A_ (Below.refl w.heap.size w)
 have H : (if a3 < 0 then (some (([] : List Int), ([] : List Int), false, 2)) else ((euclid_may.f k a0 (([l1, l2] : List (List Int)))).bind fun t536 => (if t536 = 0 then ((poly_Degree.f k l2).bind fun t537 => (if t537 < 0 then (some (([] : List Int), ([] : List Int), false, 5)) else ((euclid_partial.f k a0 l2 l1 a3).bind fun bt538 => (if bt538.2.2.2 = 0 then (euclid_Ratio.j0 k a0 bt538.2.2.2 ((bt538.2.2.1.length : Int) == 0) bt538.1 bt538.2.1 bt538.2.2.1) else (euclid_Ratio.j0 k a0 bt538.2.2.2 true bt538.1 bt538.2.1 bt538.2.2.1))))) else (some (([] : List Int), ([] : List Int), false, t536))))) = some (r1, r2, r3, r4) := h
 clear h
 by_cases c5 : a3 < 0
 ·rw [if_pos c5] at H
  have c5b0 : decide (a3 < 0) = true := decide_eq_true c5
  clear c5
  simp only [Option.some.injEq, Prod.mk.injEq] at H
  obtain ⟨rfl, rfl, rfl, rfl⟩ := H
  go_enter Try.func24, Try.ntmps24
  go_wp2
  refine bodyPost_ret (results_list (rs := [.tmp 8, .tmp 9, .tmp 10, .tmp 11]) rfl (by simp) (.tmp (.tmp (.tmp (.tmp .nil))))) rfl ?_
  exact ⟨_, _, fr_, by first | exact Kd.R_nil _ _ _ _ _ | exact Kd.N_nil _ _ _ _ _ | exact Kd.V_nil _ _ _ _ _ | exact Kd.Q_nil _ _ _ _ _ | exact Kd.S_nil _ _ _ _ _, by first | exact Kd.R_nil _ _ _ _ _ | exact Kd.N_nil _ _ _ _ _ | exact Kd.V_nil _ _ _ _ _ | exact Kd.Q_nil _ _ _ _ _ | exact Kd.S_nil _ _ _ _ _, hb_⟩
 ·rw [if_neg c5] at H
  have c5b0 : decide (a3 < 0) = false := decide_eq_false c5
  clear c5
  obtain ⟨y533, hy533⟩ : ∃ y_ : List (List Int), y_ = (([l1, l2] : List (List Int))) := ⟨_, rfl⟩
  replace H : ((euclid_may.f k a0 y533).bind fun t536 => (if t536 = 0 then ((poly_Degree.f k l2).bind fun t537 => (if t537 < 0 then (some (([] : List Int), ([] : List Int), false, 5)) else ((euclid_partial.f k a0 l2 l1 a3).bind fun bt538 => (if bt538.2.2.2 = 0 then (euclid_Ratio.j0 k a0 bt538.2.2.2 ((bt538.2.2.1.length : Int) == 0) bt538.1 bt538.2.1 bt538.2.2.1) else (euclid_Ratio.j0 k a0 bt538.2.2.2 true bt538.1 bt538.2.1 bt538.2.2.1))))) else (some (([] : List Int), ([] : List Int), false, t536)))) = some (r1, r2, r3, r4) := by first | (rw [hy533]; with_reducible exact H) | (have H2_ := (Option.bind_some _ _).symm.trans H; rw [hy533]; with_reducible exact H2_) | (have H2_ := (Option.bind_some _ _).symm.trans H; with_reducible exact H2_) | with_reducible exact H | (rw [hy533]; exact H) | exact H
  have Ny533 := Aside0.mk hy533
  clear hy533
  replace H := Option.bind_eq_some_iff.mp H
  obtain ⟨t536, A60, H⟩ := H
  (try dsimp only at H)
  have A6 := Aside0.mk A60
  clear A60
  have HC7 := Aside0.mk H
  clear H
  go_enter Try.func24, Try.ntmps24
  go_upto_if 23 with (first | ((with_reducible refine gate_dst (N := 20) rfl ?_); (try (refine gate_guard (by rfl) ?_; dsimp only)); refine Kd.N_lit (Kd.slice 40 (Kd.int .u64)) _ 22 ?hg (N' := 20) ?hd (xs := ([l1, l2] : List (List Int))) (inner := [.slice A1 l1.length c1, .slice A2 l2.length c2]) (ok := (fun k_ => ((P1_ k_ ∨ P2_ k_) ∨ w.heap.size ≤ k_))) (okp := (fun k_ => ((P1_ k_ ∨ P2_ k_) ∨ w.heap.size ≤ k_))) ?hr ?hp (fun _ hk => hk) ((show ∀ k_, w.heap.size ≤ k_ → (fun k_ => ((P1_ k_ ∨ P2_ k_) ∨ w.heap.size ≤ k_)) k_ from fun k_ hk => (.inr (Nat.le_trans (below_size hb_) hk))) _ (Nat.le_refl _)) (Below.refl _ _) (Nat.le_refl _) (by simp) ?_; (case hd => rfl); (case hg => rfl); (case hr => first | (go_simp; done) | (go_simp; rfl)); (case hp => exact (Reps.one (show Kd.FK (Kd.slice 40 (Kd.int .u64)) _ _ l1 [.slice A1 l1.length c1] from (Kd.FK_slice_mk (Kd.V_reads' (Kd.V_mono (ok' := (fun k_ => ((P1_ k_ ∨ P2_ k_) ∨ w.heap.size ≤ k_))) (HO1.out) (fun k_ hk => hk))).2.1 (Kd.V_F (Kd.V_mono (ok' := (fun k_ => ((P1_ k_ ∨ P2_ k_) ∨ w.heap.size ≤ k_))) (HO1.out) (fun k_ hk => hk))))) (Reps.one (show Kd.FK (Kd.slice 40 (Kd.int .u64)) _ _ l2 [.slice A2 l2.length c2] from (Kd.FK_slice_mk (Kd.V_reads' (Kd.V_mono (ok' := (fun k_ => ((P1_ k_ ∨ P2_ k_) ∨ w.heap.size ≤ k_))) (HO2.out) (fun k_ hk => hk))).2.1 (Kd.V_F (Kd.V_mono (ok' := (fun k_ => ((P1_ k_ ∨ P2_ k_) ∨ w.heap.size ≤ k_))) (HO2.out) (fun k_ hk => hk))))) (Reps.none _ _)))); intro v534 w8 ho9 hb hg_ hnew_; clear hg_ hnew_; (first | rw [← Ny533.out] at ho9 | (simp only [Int.reduceToNat] at ho9; rw [← Ny533.out] at ho9)); have n0_ := A_ (Kd.V_below (nV_ HO1) hb); have n1_ := A_ (Kd.V_below (nV_ HO2) hb); have n2_ := A_ (Kd.N_lower ho9 (below_size hb_)); have n3_ := A_ (below_step hb_ hb); clear HO1 HO2 HB; have HO1 := n0_; have HO2 := n1_; have HO535 := n2_; have HB := n3_; clear n0_ n1_ n2_ n3_; clear hb ho9; obtain ⟨Ao10, co10, eo10⟩ := Kd.N_slice HO535.out; subst eo10) | ((with_reducible refine gate_callee (f := 27) rfl ?_); refine goesM_ (some 21) Try.func27 #[.int .u8 a0, .slice Ao10 y533.length co10] ?_; (with_reducible refine (euclid_may.calls k a0 _ _ y533 t536 _ ?side1 ?side2 A6.out).mono ?_); (case side1 => repeat (first | exact (Kd.N_reads' HO535.out).2.2 | (with_reducible refine Kd.C_alloc ?_ _) | (with_reducible refine Kd.C_drewN ?_ _) | (with_reducible refine Kd.C_drew ?_))); (case side2 => exact (Kd.N_reads' HO535.out).2.1); rintro e w11 ⟨rfl, hb⟩; refine ⟨_, rfl, ?_⟩; have n0_ := A_ (Kd.V_below (nV_ HO1) hb); have n1_ := A_ (Kd.V_below (nV_ HO2) hb); have n2_ := A_ (Kd.N_below (nN_ HO535) hb); have n3_ := A_ (below_step hb_ hb); clear HO1 HO2 HO535 HB; have HO1 := n0_; have HO2 := n1_; have HO535 := n2_; have HB := n3_; clear n0_ n1_ n2_ n3_; (try clear hb)))
  (try simp only [Act.put, List.setIfInBounds_toArray, List.set_cons_zero, List.set_cons_succ])
  have H := HC7.out
  clear HC7
  by_cases c12 : t536 = 0
  ·rw [if_pos c12] at H
   have c12b0 : (t536 == 0) = true := beq_iff_eq.mpr c12
   have c12b1 : (t536 != 0) = false := bne_eq_false_iff_eq.mpr c12
   clear c12
   (first | rw [c12b0] | rw [c12b1] | (simp only [i64_w, i32_w]; first | rw [c12b0] | rw [c12b1]) | skip)
   replace H := Option.bind_eq_some_iff.mp H
   obtain ⟨t537, A130, H⟩ := H
   (try dsimp only at H)
   have A13 := Aside0.mk A130
   clear A130
   have HC14 := Aside0.mk H
   clear H
   go_upto_if 27 with (first | ((with_reducible refine gate_callee (f := 33) rfl ?_); refine goesM_ (some 26) Try.func33 #[.slice A2 l2.length c2] ?_; (with_reducible refine (poly_Degree.calls k _ _ l2 t537 _ ?side1 ?side2 A13.out).mono ?_); (case side1 => repeat (first | exact (Kd.V_reads' HO2.out).2.2 | (with_reducible refine Kd.C_alloc ?_ _) | (with_reducible refine Kd.C_drewN ?_ _) | (with_reducible refine Kd.C_drew ?_))); (case side2 => exact (Kd.V_reads' HO2.out).2.1); rintro e w15 ⟨rfl, hb⟩; refine ⟨_, rfl, ?_⟩; have n0_ := A_ (Kd.V_below (nV_ HO1) hb); have n1_ := A_ (Kd.V_below (nV_ HO2) hb); have n2_ := A_ (Kd.N_below (nN_ HO535) hb); have n3_ := A_ (below_step hb_ hb); clear HO1 HO2 HO535 HB; have HO1 := n0_; have HO2 := n1_; have HO535 := n2_; have HB := n3_; clear n0_ n1_ n2_ n3_; (try clear hb)))
   (try simp only [Act.put, List.setIfInBounds_toArray, List.set_cons_zero, List.set_cons_succ])
   have H := HC14.out
   clear HC14
   by_cases c16 : t537 < 0
   ·rw [if_pos c16] at H
    have c16b0 : decide (t537 < 0) = true := decide_eq_true c16
    clear c16
    (first | rw [c16b0] | (simp only [i64_w, i32_w]; first | rw [c16b0]) | skip)
    simp only [Option.some.injEq, Prod.mk.injEq] at H
    obtain ⟨rfl, rfl, rfl, rfl⟩ := H
    go_wp2
    refine bodyPost_ret (results_list (rs := [.tmp 8, .tmp 9, .tmp 10, .tmp 11]) rfl (by simp) (.tmp (.tmp (.tmp (.tmp .nil))))) rfl ?_
    exact ⟨_, _, fr_, by first | exact Kd.R_nil _ _ _ _ _ | exact Kd.N_nil _ _ _ _ _ | exact Kd.V_nil _ _ _ _ _ | exact Kd.Q_nil _ _ _ _ _ | exact Kd.S_nil _ _ _ _ _, by first | exact Kd.R_nil _ _ _ _ _ | exact Kd.N_nil _ _ _ _ _ | exact Kd.V_nil _ _ _ _ _ | exact Kd.Q_nil _ _ _ _ _ | exact Kd.S_nil _ _ _ _ _, hb_⟩
   ·rw [if_neg c16] at H
    have c16b0 : decide (t537 < 0) = false := decide_eq_false c16
    clear c16
    (first | rw [c16b0] | (simp only [i64_w, i32_w]; first | rw [c16b0]) | skip)
    replace H := Option.bind_eq_some_iff.mp H
    obtain ⟨⟨t538, t541, t544, t547⟩, A170, H⟩ := H
    replace H : (if t547 = 0 then (euclid_Ratio.j0 k a0 t547 ((t544.length : Int) == 0) t538 t541 t544) else (euclid_Ratio.j0 k a0 t547 true t538 t541 t544)) = some (r1, r2, r3, r4) := H
    have A17 := Aside0.mk A170
    clear A170
    have HC18 := Aside0.mk H
    clear H
    go_upto_region 9 with (first | ((with_reducible refine gate_callee (f := 34) rfl ?_); refine goesM_ (some 33) Try.func34 #[.int .u8 a0, .slice A2 l2.length c2, .slice A1 l1.length c1, .int .i64 a3] ?_; (with_reducible refine (euclid_partial.calls k a0 _ _ l2 _ _ l1 a3 t538 t541 t544 t547 _ ?side1 ?side2 ?side3 ?side4 A17.out).mono ?_); (case side1 => repeat (first | exact (Kd.V_reads' HO2.out).2.2 | (with_reducible refine Kd.C_alloc ?_ _) | (with_reducible refine Kd.C_drewN ?_ _) | (with_reducible refine Kd.C_drew ?_))); (case side2 => exact (Kd.V_reads' HO2.out).2.1); (case side3 => repeat (first | exact (Kd.V_reads' HO1.out).2.2 | (with_reducible refine Kd.C_alloc ?_ _) | (with_reducible refine Kd.C_drewN ?_ _) | (with_reducible refine Kd.C_drew ?_))); (case side4 => exact (Kd.V_reads' HO1.out).2.1); rintro e w19 ⟨v539, v542, v545, rfl, ho0, ho1, ho2, hb⟩; refine ⟨_, rfl, ?_⟩; have n0_ := A_ (Kd.V_below (nV_ HO1) hb); have n1_ := A_ (Kd.V_below (nV_ HO2) hb); have n2_ := A_ (Kd.N_below (nN_ HO535) hb); have n3_ := A_ (Kd.R_lower (Kd.R_newM (M := fun k_ => (w.heap.size ≤ k_)) (Kd.R_mono (ok' := fun _ => True) ho0 (fun _ _ => trivial)) (below_size hb_) (fun k_ h_ => h_)) (below_size hb_)); have n4_ := A_ (Kd.R_lower (Kd.R_newM (M := fun k_ => (w.heap.size ≤ k_)) (Kd.R_mono (ok' := fun _ => True) ho1 (fun _ _ => trivial)) (below_size hb_) (fun k_ h_ => h_)) (below_size hb_)); have n5_ := A_ (Kd.R_lower (Kd.R_newM (M := fun k_ => (w.heap.size ≤ k_)) (Kd.R_mono (ok' := fun _ => True) ho2 (fun _ _ => trivial)) (below_size hb_) (fun k_ h_ => h_)) (below_size hb_)); have n6_ := A_ (below_step hb_ hb); clear HO1 HO2 HO535 HB; have HO1 := n0_; have HO2 := n1_; have HO535 := n2_; have HO540 := n3_; have HO543 := n4_; have HO546 := n5_; have HB := n6_; clear n0_ n1_ n2_ n3_ n4_ n5_ n6_; (try clear hb); (try clear ho0); (try clear ho1); (try clear ho2)) | ((with_reducible refine gate_dst (N := 12) rfl ?_); (try (refine gate_guard (by rfl) ?_; dsimp only)); refine box_event ?hg (N := 12) ?hd (cs := #[.slice none 0 0, .slice none 0 0, .slice none 0 0]) (t := 61) ?hr ?_; (case hd => rfl); (case hg => rfl); (case hr => first | (go_simp; done) | (go_simp; rfl)); intro gb548 hg w20 hbox hb; have n0_ := A_ (Kd.V_below (Kd.V_elderB (nV_ HO1) gb548 (Nat.le_of_eq hg.symm)) hb); have n1_ := A_ (Kd.V_below (Kd.V_elderB (nV_ HO2) gb548 (Nat.le_of_eq hg.symm)) hb); have n2_ := A_ (Kd.N_below (Kd.N_elderB (nN_ HO535) gb548 (Nat.le_of_eq hg.symm)) hb); have n3_ := A_ (Kd.R_below (nR_ HO540) hb); have n4_ := A_ (Kd.R_below (nR_ HO543) hb); have n5_ := A_ (Kd.R_below (nR_ HO546) hb); have n6_ := A_ (below_step hb_ hb); have n7_ := A_ (hbox); have n8_ := A_ ((by rw [hg]; exact (below_size hb_) : w.heap.size ≤ gb548)); have n9_ := A_ ((by rw [hg]; exact (below_size hb_) : w.heap.size ≤ gb548)); clear HO1 HO2 HO535 HO540 HO543 HO546 HB; have HO1 := n0_; have HO2 := n1_; have HO535 := n2_; have HO540 := n3_; have HO543 := n4_; have HO546 := n5_; have HB := n6_; have BK548 := n7_; have GW548 := n8_; have GE548 := n9_; clear n0_ n1_ n2_ n3_ n4_ n5_ n6_ n7_ n8_ n9_; clear hb hbox hg; obtain ⟨Ao21, co21, eo21⟩ := Kd.R_slice HO540.out; subst eo21; have hcz22_0 : w20.cell? ⟨gb548, 0, none⟩ = some (.slice none 0 0) := (blk_cell BK548.out 0).trans rfl; have hcz22_1 : w20.cell? ⟨gb548, 1, none⟩ = some (.slice none 0 0) := (blk_cell BK548.out 1).trans rfl; have hcz22_2 : w20.cell? ⟨gb548, 2, none⟩ = some (.slice none 0 0) := (blk_cell BK548.out 2).trans rfl; have hfz22_0 := blk_frozen BK548.out 0; have hfz22_1 := blk_frozen BK548.out 1; have hfz22_2 := blk_frozen BK548.out 2; obtain ⟨Ao23, co23, eo23⟩ := Kd.R_slice HO543.out; subst eo23; obtain ⟨Ao24, co24, eo24⟩ := Kd.R_slice HO546.out; subst eo24))
    (try simp only [Act.put, List.setIfInBounds_toArray, List.set_cons_zero, List.set_cons_succ])
    go_cut [43] (fun v43 wc => ∃ (kq : Nat) (x43_17 : Bool), v43 = .bool x43_17 ∧ Aside0 (euclid_Ratio.j0 kq a0 t547 x43_17 t538 t541 t544 = some (r1, r2, r3, r4)) ∧ Aside0 (kq ≤ k) ∧ Aside0 (Kd.R (Kd.int .u64) 40 wc w.heap.size (fun k_ => (w.heap.size ≤ k_)) (.slice Ao21 t538.length co21) t538) ∧ Aside0 (Kd.R (Kd.int .u64) 40 wc w.heap.size (fun k_ => (w.heap.size ≤ k_)) (.slice Ao23 t541.length co23) t541) ∧ Aside0 (Kd.R (Kd.int .u64) 40 wc w.heap.size (fun k_ => (w.heap.size ≤ k_)) (.slice Ao24 t544.length co24) t544) ∧ Aside0 (wc.heap[gb548]? = some (.cells #[(.slice Ao21 t538.length co21), (.slice Ao23 t541.length co23), (.slice Ao24 t544.length co24)] 61 (0, 0))) ∧ Aside0 (Below w.heap.size w wc))
    case first =>
     have H := HC18.out
     clear HC18
     by_cases c25 : t547 = 0
     ·rw [if_pos c25] at H
      have c25b0 : (t547 == 0) = true := beq_iff_eq.mpr c25
      have c25b1 : (t547 != 0) = false := bne_eq_false_iff_eq.mpr c25
      clear c25
      (first | rw [c25b0] | rw [c25b1] | (simp only [i64_w, i32_w]; first | rw [c25b0] | rw [c25b1]) | skip)
      have H' := Aside0.mk H
      clear H
      have hcz26_0 : w20.cell? ⟨gb548, 0, none⟩ = some (.slice none 0 0) := (blk_cell BK548.out 0).trans rfl
      have hcz26_1 : w20.cell? ⟨gb548, 1, none⟩ = some (.slice none 0 0) := (blk_cell BK548.out 1).trans rfl
      have hcz26_2 : w20.cell? ⟨gb548, 2, none⟩ = some (.slice none 0 0) := (blk_cell BK548.out 2).trans rfl
      have hfz26_0 := blk_frozen BK548.out 0
      have hfz26_1 := blk_frozen BK548.out 1
      have hfz26_2 := blk_frozen BK548.out 2
      go_wp2
      go_meet
      case rel => exact ⟨_, (((t544.length : Int) == 0)), (fs_), H', ⟨fo_⟩, ⟨by (with_reducible repeat (first | apply Kd.R_alloc | apply Kd.R_drewN | apply Kd.R_drew)); exact Kd.R_mono (Kd.R_far (p := ⟨gb548, 2, none⟩) (Kd.R_far (p := ⟨gb548, 1, none⟩) (Kd.R_far (p := ⟨gb548, 0, none⟩) (Kd.R_types HO540.out BK548.out (by decide)) (fun _ hk => hk.2) (.slice Ao21 t538.length co21)) (fun _ hk => hk.2) (.slice Ao23 t541.length co23)) (fun _ hk => hk.2) (.slice Ao24 t544.length co24)) (fun _ hk => hk.1.1)⟩, ⟨by (with_reducible repeat (first | apply Kd.R_alloc | apply Kd.R_drewN | apply Kd.R_drew)); exact Kd.R_mono (Kd.R_far (p := ⟨gb548, 2, none⟩) (Kd.R_far (p := ⟨gb548, 1, none⟩) (Kd.R_far (p := ⟨gb548, 0, none⟩) (Kd.R_types HO543.out BK548.out (by decide)) (fun _ hk => hk.2) (.slice Ao21 t538.length co21)) (fun _ hk => hk.2) (.slice Ao23 t541.length co23)) (fun _ hk => hk.2) (.slice Ao24 t544.length co24)) (fun _ hk => hk.1.1)⟩, ⟨by (with_reducible repeat (first | apply Kd.R_alloc | apply Kd.R_drewN | apply Kd.R_drew)); exact Kd.R_mono (Kd.R_far (p := ⟨gb548, 2, none⟩) (Kd.R_far (p := ⟨gb548, 1, none⟩) (Kd.R_far (p := ⟨gb548, 0, none⟩) (Kd.R_types HO546.out BK548.out (by decide)) (fun _ hk => hk.2) (.slice Ao21 t538.length co21)) (fun _ hk => hk.2) (.slice Ao23 t541.length co23)) (fun _ hk => hk.2) (.slice Ao24 t544.length co24)) (fun _ hk => hk.1.1)⟩, ⟨by (with_reducible repeat (first | refine blk_drewN ?_ _ | refine blk_drew ?_ | refine blk_alloc ?_ _)); refine blk_put (cs := #[.slice Ao21 t538.length co21, .slice Ao23 t541.length co23, .slice none 0 0]) ?_ 2 _ rfl; (with_reducible repeat (first | refine blk_drewN ?_ _ | refine blk_drew ?_ | refine blk_alloc ?_ _)); refine blk_put (cs := #[.slice Ao21 t538.length co21, .slice none 0 0, .slice none 0 0]) ?_ 1 _ rfl; (with_reducible repeat (first | refine blk_drewN ?_ _ | refine blk_drew ?_ | refine blk_alloc ?_ _)); refine blk_put (cs := #[.slice none 0 0, .slice none 0 0, .slice none 0 0]) ?_ 0 _ rfl; (with_reducible repeat (first | refine blk_drewN ?_ _ | refine blk_drew ?_ | refine blk_alloc ?_ _)); exact BK548.out⟩, ⟨hs_⟩⟩
     ·rw [if_neg c25] at H
      have c25b0 : (t547 == 0) = false := beq_eq_false_iff_ne.mpr c25
      have c25b1 : (t547 != 0) = true := bne_iff_ne.mpr c25
      (first | rw [c25b0] | rw [c25b1] | (simp only [i64_w, i32_w]; first | rw [c25b0] | rw [c25b1]) | skip)
      have H' := Aside0.mk H
      clear H
      go_wp2
      go_meet
      case rel => exact ⟨_, (true), (fs_), H', ⟨fo_⟩, ⟨by (with_reducible repeat (first | apply Kd.R_alloc | apply Kd.R_drewN | apply Kd.R_drew)); exact Kd.R_mono (Kd.R_far (p := ⟨gb548, 2, none⟩) (Kd.R_far (p := ⟨gb548, 1, none⟩) (Kd.R_far (p := ⟨gb548, 0, none⟩) (Kd.R_types HO540.out BK548.out (by decide)) (fun _ hk => hk.2) (.slice Ao21 t538.length co21)) (fun _ hk => hk.2) (.slice Ao23 t541.length co23)) (fun _ hk => hk.2) (.slice Ao24 t544.length co24)) (fun _ hk => hk.1.1)⟩, ⟨by (with_reducible repeat (first | apply Kd.R_alloc | apply Kd.R_drewN | apply Kd.R_drew)); exact Kd.R_mono (Kd.R_far (p := ⟨gb548, 2, none⟩) (Kd.R_far (p := ⟨gb548, 1, none⟩) (Kd.R_far (p := ⟨gb548, 0, none⟩) (Kd.R_types HO543.out BK548.out (by decide)) (fun _ hk => hk.2) (.slice Ao21 t538.length co21)) (fun _ hk => hk.2) (.slice Ao23 t541.length co23)) (fun _ hk => hk.2) (.slice Ao24 t544.length co24)) (fun _ hk => hk.1.1)⟩, ⟨by (with_reducible repeat (first | apply Kd.R_alloc | apply Kd.R_drewN | apply Kd.R_drew)); exact Kd.R_mono (Kd.R_far (p := ⟨gb548, 2, none⟩) (Kd.R_far (p := ⟨gb548, 1, none⟩) (Kd.R_far (p := ⟨gb548, 0, none⟩) (Kd.R_types HO546.out BK548.out (by decide)) (fun _ hk => hk.2) (.slice Ao21 t538.length co21)) (fun _ hk => hk.2) (.slice Ao23 t541.length co23)) (fun _ hk => hk.2) (.slice Ao24 t544.length co24)) (fun _ hk => hk.1.1)⟩, ⟨by (with_reducible repeat (first | refine blk_drewN ?_ _ | refine blk_drew ?_ | refine blk_alloc ?_ _)); refine blk_put (cs := #[.slice Ao21 t538.length co21, .slice Ao23 t541.length co23, .slice none 0 0]) ?_ 2 _ rfl; (with_reducible repeat (first | refine blk_drewN ?_ _ | refine blk_drew ?_ | refine blk_alloc ?_ _)); refine blk_put (cs := #[.slice Ao21 t538.length co21, .slice none 0 0, .slice none 0 0]) ?_ 1 _ rfl; (with_reducible repeat (first | refine blk_drewN ?_ _ | refine blk_drew ?_ | refine blk_alloc ?_ _)); refine blk_put (cs := #[.slice none 0 0, .slice none 0 0, .slice none 0 0]) ?_ 0 _ rfl; (with_reducible repeat (first | refine blk_drewN ?_ _ | refine blk_drew ?_ | refine blk_alloc ?_ _)); exact BK548.out⟩, ⟨hs_⟩⟩
    case rest =>
     clear HC18
     try clear c1
     try clear c2
     try clear p2
     try clear c3
     try clear c5
     try clear c5b0
     try clear c12
     try clear c12b0
     try clear c12b1
     try clear c16
     try clear c16b0
     try clear c24
     try clear c25
     try clear c25b0
     try clear c25b1
     try clear hcz22_0
     try clear hcz22_1
     try clear hcz22_2
     try clear hcz26_0
     try clear hcz26_1
     try clear hcz26_2
     try clear hfz22_0
     try clear hfz22_1
     try clear hfz22_2
     try clear hfz26_0
     try clear hfz26_1
     try clear hfz26_2
     obtain ⟨kq, x43_17, rfl, HA, HJ17, HO_549000, HO_549001, HO_549002, BK548, HB⟩ := hcut
     cases kq with
     | zero => exact absurd HA.out (by simp [euclid_Ratio.j0])
     | succ kj17 =>
      have H := HA.out
      clear HA
      simp only [euclid_Ratio.j0] at H
      by_cases c27 : x43_17 = true
      ·subst c27
       have H1 : (some (([] : List Int), ([] : List Int), false, t547)) = some (r1, r2, r3, r4) := by rw [if_pos rfl] at H; exact H
       clear H
       have H := H1
       clear H1
       simp only [Option.some.injEq, Prod.mk.injEq] at H
       obtain ⟨rfl, rfl, rfl, rfl⟩ := H
       go_wp2
       refine bodyPost_ret (results_list (rs := [.tmp 8, .tmp 9, .tmp 10, .tmp 11]) rfl (by simp) (.tmp (.tmp (.tmp (.tmp .nil))))) rfl ?_
       exact ⟨_, _, fr_, by first | exact Kd.R_nil _ _ _ _ _ | exact Kd.N_nil _ _ _ _ _ | exact Kd.V_nil _ _ _ _ _ | exact Kd.Q_nil _ _ _ _ _ | exact Kd.S_nil _ _ _ _ _, by first | exact Kd.R_nil _ _ _ _ _ | exact Kd.N_nil _ _ _ _ _ | exact Kd.V_nil _ _ _ _ _ | exact Kd.Q_nil _ _ _ _ _ | exact Kd.S_nil _ _ _ _ _, hs_⟩
      ·replace c27 := Bool.eq_false_iff.mpr c27
       subst c27
       have H1 : ((poly_DivMod.f kj17 a0 t538 t544).bind fun bt549 => (if bt549.2.2 = 0 then (euclid_Ratio.j1 kj17 a0 bt549.2.2 bt549.1 (decide ((bt549.2.1.length : Int) > 0)) t538 t541 t544) else (euclid_Ratio.j1 kj17 a0 bt549.2.2 bt549.1 true t538 t541 t544))) = some (r1, r2, r3, r4) := by rw [if_neg (show ¬ (false = true) by decide)] at H; exact H
       clear H
       have H := H1
       clear H1
       replace H := Option.bind_eq_some_iff.mp H
       obtain ⟨⟨t549, t552, t555⟩, A280, H⟩ := H
       replace H : (if t555 = 0 then (euclid_Ratio.j1 kj17 a0 t555 t549 (decide ((t552.length : Int) > 0)) t538 t541 t544) else (euclid_Ratio.j1 kj17 a0 t555 t549 true t538 t541 t544)) = some (r1, r2, r3, r4) := H
       have A28 := Aside0.mk A280
       clear A280
       have HC29 := Aside0.mk H
       clear H
       have hcz30_0 : wc.cell? ⟨gb548, 0, none⟩ = some (.slice Ao21 t538.length co21) := (blk_cell BK548.out 0).trans rfl
       have hcz30_1 : wc.cell? ⟨gb548, 1, none⟩ = some (.slice Ao23 t541.length co23) := (blk_cell BK548.out 1).trans rfl
       have hcz30_2 : wc.cell? ⟨gb548, 2, none⟩ = some (.slice Ao24 t544.length co24) := (blk_cell BK548.out 2).trans rfl
       have hfz30_0 := blk_frozen BK548.out 0
       have hfz30_1 := blk_frozen BK548.out 1
       have hfz30_2 := blk_frozen BK548.out 2
       go_upto_region 12 with (first | ((with_reducible refine gate_callee (f := 29) rfl ?_); refine goesM_ (some 51) Try.func29 #[.int .u8 a0, .slice Ao21 t538.length co21, .slice Ao24 t544.length co24] ?_; (with_reducible refine (poly_DivMod.calls kj17 a0 (fun k_ => some k_ = (.slice Ao21 t538.length co21 : Value).ownBlock) _ _ t538 (fun k_ => some k_ = (.slice Ao24 t544.length co24 : Value).ownBlock) _ _ t544 t549 t552 t555 _ ?side1 ?side2 A28.out).mono ?_); (case side1 => exact Kd.R_V (Kd.R_tight rfl (HO_549000.out))); (case side2 => exact Kd.R_V (Kd.R_tight rfl (HO_549002.out))); rintro e w31 ⟨v550, v553, rfl, ho0, ho1, hb⟩; refine ⟨_, rfl, ?_⟩; have n0_ := A_ (Kd.R_below (nR_ HO_549000) hb); have n1_ := A_ (Kd.R_below (nR_ HO_549001) hb); have n2_ := A_ (Kd.R_below (nR_ HO_549002) hb); have n3_ := A_ (Kd.R_lower (Kd.R_newM (M := fun k_ => (w.heap.size ≤ k_)) (Kd.R_mono (ok' := fun k_ => True) ho0 (fun _ hk_ => trivial)) (below_size hs_) (fun k_ h_ => h_)) (below_size hs_)); have n4_ := A_ (Kd.R_lower (Kd.R_newM (M := fun k_ => (w.heap.size ≤ k_)) (Kd.R_mono (ok' := fun k_ => True) ho1 (fun _ hk_ => trivial)) (below_size hs_) (fun k_ h_ => h_)) (below_size hs_)); have n5_ := A_ (blk_below (g := gb548) (o := .cells #[.slice Ao21 t538.length co21, .slice Ao23 t541.length co23, .slice Ao24 t544.length co24] 61 (0, 0)) (nb_ BK548) hb); have n6_ := A_ (below_step hs_ hb); clear HO_549000 HO_549001 HO_549002 BK548 HB; have HO_549000 := n0_; have HO_549001 := n1_; have HO_549002 := n2_; have HO551 := n3_; have HO554 := n4_; have BK548 := n5_; have HB := n6_; clear n0_ n1_ n2_ n3_ n4_ n5_ n6_; (try clear hb); (try clear ho0); (try clear ho1)))
       (try simp only [Act.put, List.setIfInBounds_toArray, List.set_cons_zero, List.set_cons_succ])
       go_cut [61] (fun v61 wc => ∃ (kq : Nat) (x61_28 : Bool), v61 = .bool x61_28 ∧ Aside0 (euclid_Ratio.j1 kq a0 t555 t549 x61_28 t538 t541 t544 = some (r1, r2, r3, r4)) ∧ Aside0 (kq ≤ kj17) ∧ Aside0 (Kd.R (Kd.int .u64) 40 wc w.heap.size (fun k_ => (w.heap.size ≤ k_)) v550 t549) ∧ Aside0 (Kd.R (Kd.int .u64) 40 wc w.heap.size (fun k_ => (w.heap.size ≤ k_)) (.slice Ao21 t538.length co21) t538) ∧ Aside0 (Kd.R (Kd.int .u64) 40 wc w.heap.size (fun k_ => (w.heap.size ≤ k_)) (.slice Ao23 t541.length co23) t541) ∧ Aside0 (Kd.R (Kd.int .u64) 40 wc w.heap.size (fun k_ => (w.heap.size ≤ k_)) (.slice Ao24 t544.length co24) t544) ∧ Aside0 (wc.heap[gb548]? = some (.cells #[(.slice Ao21 t538.length co21), (.slice Ao23 t541.length co23), (.slice Ao24 t544.length co24)] 61 (0, 0))) ∧ Aside0 (Below w.heap.size w wc))
       case first =>
        have H := HC29.out
        clear HC29
        by_cases c32 : t555 = 0
        ·rw [if_pos c32] at H
         have c32b0 : (t555 == 0) = true := beq_iff_eq.mpr c32
         have c32b1 : (t555 != 0) = false := bne_eq_false_iff_eq.mpr c32
         clear c32
         (first | rw [c32b0] | rw [c32b1] | (simp only [i64_w, i32_w]; first | rw [c32b0] | rw [c32b1]) | skip)
         have H' := Aside0.mk H
         clear H
         obtain ⟨Ao33, co33, eo33⟩ := Kd.R_slice HO554.out
         subst eo33
         go_wp2
         go_meet
         case rel => exact ⟨_, (decide ((t552.length : Int) > 0)), (fs_), H', ⟨by have := HJ17.out; first | omega | exact Nat.le_refl _⟩, ⟨by (with_reducible repeat (first | apply Kd.R_alloc | apply Kd.R_drewN | apply Kd.R_drew)); exact Kd.R_mono HO551.out (fun _ hk => hk.1)⟩, ⟨mR_ HO_549000.out⟩, ⟨mR_ HO_549001.out⟩, ⟨mR_ HO_549002.out⟩, ⟨mb_ BK548.out⟩, ⟨hs_⟩⟩
        ·rw [if_neg c32] at H
         have c32b0 : (t555 == 0) = false := beq_eq_false_iff_ne.mpr c32
         have c32b1 : (t555 != 0) = true := bne_iff_ne.mpr c32
         (first | rw [c32b0] | rw [c32b1] | (simp only [i64_w, i32_w]; first | rw [c32b0] | rw [c32b1]) | skip)
         have H' := Aside0.mk H
         clear H
         go_wp2
         go_meet
         case rel => exact ⟨_, (true), (fs_), H', ⟨by have := HJ17.out; first | omega | exact Nat.le_refl _⟩, ⟨by (with_reducible repeat (first | apply Kd.R_alloc | apply Kd.R_drewN | apply Kd.R_drew)); exact Kd.R_mono HO551.out (fun _ hk => hk.1)⟩, ⟨mR_ HO_549000.out⟩, ⟨mR_ HO_549001.out⟩, ⟨mR_ HO_549002.out⟩, ⟨mb_ BK548.out⟩, ⟨hs_⟩⟩
       case rest =>
        clear HC29
        try clear c1
        try clear c2
        try clear p2
        try clear c3
        try clear c5
        try clear c5b0
        try clear c12
        try clear c12b0
        try clear c12b1
        try clear c16
        try clear c16b0
        try clear c24
        try clear c25
        try clear c25b0
        try clear c25b1
        try clear c27
        try clear c29
        try clear c32
        try clear c32b0
        try clear c32b1
        try clear c33
        try clear hcz22_0
        try clear hcz22_1
        try clear hcz22_2
        try clear hcz26_0
        try clear hcz26_1
        try clear hcz26_2
        try clear hcz30_0
        try clear hcz30_1
        try clear hcz30_2
        try clear hfz22_0
        try clear hfz22_1
        try clear hfz22_2
        try clear hfz26_0
        try clear hfz26_1
        try clear hfz26_2
        try clear hfz30_0
        try clear hfz30_1
        try clear hfz30_2
        try clear p2
        obtain ⟨kq, x61_28, rfl, HA, HJ28, HO_13, HO_549000, HO_549001, HO_549002, BK548, HB⟩ := hcut
        cases kq with
        | zero => exact absurd HA.out (by simp [euclid_Ratio.j1])
        | succ kj28 =>
         have H := HA.out
         clear HA
         simp only [euclid_Ratio.j1] at H
         by_cases c34 : x61_28 = true
         ·subst c34
          have H1 : (some (([] : List Int), ([] : List Int), false, t555)) = some (r1, r2, r3, r4) := by rw [if_pos rfl] at H; exact H
          clear H
          have H := H1
          clear H1
          simp only [Option.some.injEq, Prod.mk.injEq] at H
          obtain ⟨rfl, rfl, rfl, rfl⟩ := H
          go_wp2
          refine bodyPost_ret (results_list (rs := [.tmp 8, .tmp 9, .tmp 10, .tmp 11]) rfl (by simp) (.tmp (.tmp (.tmp (.tmp .nil))))) rfl ?_
          exact ⟨_, _, fr_, by first | exact Kd.R_nil _ _ _ _ _ | exact Kd.N_nil _ _ _ _ _ | exact Kd.V_nil _ _ _ _ _ | exact Kd.Q_nil _ _ _ _ _ | exact Kd.S_nil _ _ _ _ _, by first | exact Kd.R_nil _ _ _ _ _ | exact Kd.N_nil _ _ _ _ _ | exact Kd.V_nil _ _ _ _ _ | exact Kd.Q_nil _ _ _ _ _ | exact Kd.S_nil _ _ _ _ _, hs_⟩
         ·replace c34 := Bool.eq_false_iff.mpr c34
          subst c34
          have H1 : ((euclid_monic.f kj28 a0 t544).bind fun bt556 => (if bt556.2 = 0 then (some (t549, bt556.1, true, 0)) else (some (([] : List Int), ([] : List Int), false, bt556.2)))) = some (r1, r2, r3, r4) := by rw [if_neg (show ¬ (false = true) by decide)] at H; exact H
          clear H
          have H := H1
          clear H1
          replace H := Option.bind_eq_some_iff.mp H
          obtain ⟨⟨t556, t557⟩, A350, H⟩ := H
          replace H : (if t557 = 0 then (some (t549, t556, true, 0)) else (some (([] : List Int), ([] : List Int), false, t557))) = some (r1, r2, r3, r4) := H
          have A35 := Aside0.mk A350
          clear A350
          have HC36 := Aside0.mk H
          clear H
          have hcz37_0 : wc.cell? ⟨gb548, 0, none⟩ = some (.slice Ao21 t538.length co21) := (blk_cell BK548.out 0).trans rfl
          have hcz37_1 : wc.cell? ⟨gb548, 1, none⟩ = some (.slice Ao23 t541.length co23) := (blk_cell BK548.out 1).trans rfl
          have hcz37_2 : wc.cell? ⟨gb548, 2, none⟩ = some (.slice Ao24 t544.length co24) := (blk_cell BK548.out 2).trans rfl
          have hfz37_0 := blk_frozen BK548.out 0
          have hfz37_1 := blk_frozen BK548.out 1
          have hfz37_2 := blk_frozen BK548.out 2
          go_upto_if 71 with (first | ((with_reducible refine gate_callee (f := 30) rfl ?_); refine goesM_ (some 67) Try.func30 #[.int .u8 a0, .slice Ao24 t544.length co24] ?_; (with_reducible refine (euclid_monic.calls kj28 a0 _ _ t544 t556 t557 _ ?side1 ?side2 A35.out).mono ?_); (case side1 => repeat (first | exact (Kd.R_reads' HO_549002.out).2.2 | (with_reducible refine Kd.C_alloc ?_ _) | (with_reducible refine Kd.C_drewN ?_ _) | (with_reducible refine Kd.C_drew ?_))); (case side2 => exact (Kd.R_reads' HO_549002.out).2.1); rintro e w38 ⟨v558, rfl, ho0, hb⟩; refine ⟨_, rfl, ?_⟩; have n0_ := A_ (Kd.R_below (nR_ HO_13) hb); have n1_ := A_ (Kd.R_below (nR_ HO_549000) hb); have n2_ := A_ (Kd.R_below (nR_ HO_549001) hb); have n3_ := A_ (Kd.R_below (nR_ HO_549002) hb); have n4_ := A_ (Kd.R_lower (Kd.R_newM (M := fun k_ => (w.heap.size ≤ k_)) (Kd.R_mono (ok' := fun _ => True) ho0 (fun _ _ => trivial)) (below_size hs_) (fun k_ h_ => h_)) (below_size hs_)); have n5_ := A_ (blk_below (g := gb548) (o := .cells #[.slice Ao21 t538.length co21, .slice Ao23 t541.length co23, .slice Ao24 t544.length co24] 61 (0, 0)) (nb_ BK548) hb); have n6_ := A_ (below_step hs_ hb); clear HO_13 HO_549000 HO_549001 HO_549002 BK548 HB; have HO_13 := n0_; have HO_549000 := n1_; have HO_549001 := n2_; have HO_549002 := n3_; have HO559 := n4_; have BK548 := n5_; have HB := n6_; clear n0_ n1_ n2_ n3_ n4_ n5_ n6_; (try clear hb); (try clear ho0)))
          (try simp only [Act.put, List.setIfInBounds_toArray, List.set_cons_zero, List.set_cons_succ])
          have H := HC36.out
          clear HC36
          by_cases c39 : t557 = 0
          ·rw [if_pos c39] at H
           have c39b0 : (t557 == 0) = true := beq_iff_eq.mpr c39
           have c39b1 : (t557 != 0) = false := bne_eq_false_iff_eq.mpr c39
           clear c39
           (first | rw [c39b0] | rw [c39b1] | (simp only [i64_w, i32_w]; first | rw [c39b0] | rw [c39b1]) | skip)
           simp only [Option.some.injEq, Prod.mk.injEq] at H
           obtain ⟨rfl, rfl, rfl, rfl⟩ := H
           go_wp2
           refine bodyPost_ret (results_list (rs := [.tmp 8, .tmp 9, .tmp 10, .tmp 11]) rfl (by simp) (.tmp (.tmp (.tmp (.tmp .nil))))) rfl ?_
           exact ⟨_, _, fr_, nR_ HO_13, by (with_reducible repeat (first | apply Kd.R_alloc | apply Kd.R_drewN | apply Kd.R_drew)); exact Kd.R_mono HO559.out (fun _ hk => hk.1), hs_⟩
          ·rw [if_neg c39] at H
           have c39b0 : (t557 == 0) = false := beq_eq_false_iff_ne.mpr c39
           have c39b1 : (t557 != 0) = true := bne_iff_ne.mpr c39
           (first | rw [c39b0] | rw [c39b1] | (simp only [i64_w, i32_w]; first | rw [c39b0] | rw [c39b1]) | skip)
           simp only [Option.some.injEq, Prod.mk.injEq] at H
           obtain ⟨rfl, rfl, rfl, rfl⟩ := H
           go_wp2
           refine bodyPost_ret (results_list (rs := [.tmp 8, .tmp 9, .tmp 10, .tmp 11]) rfl (by simp) (.tmp (.tmp (.tmp (.tmp .nil))))) rfl ?_
           exact ⟨_, _, fr_, by first | exact Kd.R_nil _ _ _ _ _ | exact Kd.N_nil _ _ _ _ _ | exact Kd.V_nil _ _ _ _ _ | exact Kd.Q_nil _ _ _ _ _ | exact Kd.S_nil _ _ _ _ _, by first | exact Kd.R_nil _ _ _ _ _ | exact Kd.N_nil _ _ _ _ _ | exact Kd.V_nil _ _ _ _ _ | exact Kd.Q_nil _ _ _ _ _ | exact Kd.S_nil _ _ _ _ _, hs_⟩
  ·rw [if_neg c12] at H
   have c12b0 : (t536 == 0) = false := beq_eq_false_iff_ne.mpr c12
   have c12b1 : (t536 != 0) = true := bne_iff_ne.mpr c12
   (first | rw [c12b0] | rw [c12b1] | (simp only [i64_w, i32_w]; first | rw [c12b0] | rw [c12b1]) | skip)
   simp only [Option.some.injEq, Prod.mk.injEq] at H
   obtain ⟨rfl, rfl, rfl, rfl⟩ := H
   go_wp2
   refine bodyPost_ret (results_list (rs := [.tmp 8, .tmp 9, .tmp 10, .tmp 11]) rfl (by simp) (.tmp (.tmp (.tmp (.tmp .nil))))) rfl ?_
   exact ⟨_, _, fr_, by first | exact Kd.R_nil _ _ _ _ _ | exact Kd.N_nil _ _ _ _ _ | exact Kd.V_nil _ _ _ _ _ | exact Kd.Q_nil _ _ _ _ _ | exact Kd.S_nil _ _ _ _ _, by first | exact Kd.R_nil _ _ _ _ _ | exact Kd.N_nil _ _ _ _ _ | exact Kd.V_nil _ _ _ _ _ | exact Kd.Q_nil _ _ _ _ _ | exact Kd.S_nil _ _ _ _ _, hb_⟩
/-! ### cr3_at: function 45 -/
def cr3_at.f (l0 : List Int) (a1 : Int) : Option (Int) := if a1 < 0 then (some 0) else (if a1 ≥ (l0.length : Int) then (some 0) else (if 0 ≤ a1 then (if a1 < (l0.length : Int) then (some (rd l0 a1)) else (none)) else (none)))
set_option maxHeartbeats 8000000 in
set_option maxRecDepth 100000 in
theorem cr3_at.calls (A0 : Option Addr) (c0 : Nat) (l0 : List Int) (a1 : Int) (r : Int) (w : World) (hr0 : Kd.C (Kd.int .u64) w A0 l0.length l0) (hc0 : l0.length ≤ c0) (h : cr3_at.f l0 a1 = some r) :
  Calls Try.prog 45 #[.slice A0 l0.length c0, .int .i64 a1] w fun e w' => e = .returned (.int .u64 r) ∧ Drawn0 w w' := by
 have HR0 := Aside0.mk hr0
 have HC0 := Aside0.mk hc0
 clear hr0 hc0
 have H : (if a1 < 0 then (some 0) else (if a1 ≥ (l0.length : Int) then (some 0) else (if 0 ≤ a1 then (if a1 < (l0.length : Int) then (some (rd l0 a1)) else (none)) else (none)))) = some r := h
 clear h
 by_cases c3 : a1 < 0
 ·rw [if_pos c3] at H
  have c3b0 : decide (a1 < 0) = true := decide_eq_true c3
  clear c3
  obtain rfl := Option.some.inj H
  go_enter Try.func45, Try.ntmps45
  go_wp2
  go_ret
  exact ⟨fs_, by repeat (first | exact Drawn0.refl _ | apply Drawn0.step)⟩
 ·rw [if_neg c3] at H
  have c3b0 : decide (a1 < 0) = false := decide_eq_false c3
  clear c3
  by_cases c4 : a1 ≥ (l0.length : Int)
  ·rw [if_pos c4] at H
   have c4b0 : decide ((l0.length : Int) ≤ a1) = true := decide_eq_true c4
   clear c4
   obtain rfl := Option.some.inj H
   go_enter Try.func45, Try.ntmps45
   go_wp2
   go_ret
   exact ⟨fs_, by repeat (first | exact Drawn0.refl _ | apply Drawn0.step)⟩
  ·rw [if_neg c4] at H
   have c4b0 : decide ((l0.length : Int) ≤ a1) = false := decide_eq_false c4
   clear c4
   by_cases c5 : 0 ≤ a1
   ·rw [if_pos c5] at H
    have c5b0 : decide (0 ≤ a1) = true := decide_eq_true c5
    clear c5
    by_cases c6 : a1 < (l0.length : Int)
    ·rw [if_pos c6] at H
     have c6b0 : decide (a1 < (l0.length : Int)) = true := decide_eq_true c6
     clear c6
     obtain rfl := Option.some.inj H
     have p560 : 0 ≤ (a1 : Int) := of_decide_eq_true (by first | (with_reducible assumption) | assumption)
     have q560 : a1 < (l0.length : Int) := of_decide_eq_true (by first | (with_reducible assumption) | assumption)
     obtain ⟨ad560, e560, hx560_0⟩ := Kd.at_int HR0.out a1 p560 q560
     cases e560
     replace p560 := eq_true p560
     replace q560 := eq_true q560
     go_enter Try.func45, Try.ntmps45
     go_wp2
     go_ret
     exact ⟨fs_, by repeat (first | exact Drawn0.refl _ | apply Drawn0.step)⟩
    ·rw [if_neg c6] at H
     exact absurd H (by simp)
   ·rw [if_neg c5] at H
    exact absurd H (by simp)
/-! ### cr3_Sub: function 26 -/
def cr3_Sub.l0 : Nat → Int → List Int → List Int → List Int → Int → Option (List Int × Int)
 | 0, _, _, _, _, _ => none
 | k + 1, x0, x1, x2, x9, x10 => if x10 < (mx (x1.length : Int) (x2.length : Int)) then ((cr1_P.f x0).bind fun t565 => ((cr3_at.f x1 x10).bind fun t566 => ((cr3_at.f x2 x10).bind fun t567 => ((cr1_Less.f t565 t566 t567).bind fun t568 => (if x9.length < 17592186044416 then (cr3_Sub.l0 k x0 x1 x2 (x9 ++ [t568]) (wrap64 (x10 + 1))) else (none)))))) else ((cr3_Trim.f k x9).bind fun t562 => (some (t562, 0)))
def cr3_Sub.f (k : Nat) (a0 : Int) (l1 : List Int) (l2 : List Int) : Option (List Int × Int) := (cr3_Bad.f k a0 l1 l2).bind fun t561 => (if t561 = 0 then (cr3_Sub.l0 k a0 l1 l2 ([] : List Int) 0) else (some (([] : List Int), t561)))
theorem cr3_Sub.mono_l : ∀ k, (∀ y0 y1 y2 y3 y4, LeO (cr3_Sub.l0 k y0 y1 y2 y3 y4) (cr3_Sub.l0 (k + 1) y0 y1 y2 y3 y4))
 | 0 => fun _ _ _ _ _ r h => by simp [cr3_Sub.l0] at h
 | k + 1 => by
  have ih0 := cr3_Sub.mono_l k
  ·intro y0 y1 y2 y3 y4
   unfold cr3_Sub.l0
   repeat' first
   | (with_reducible exact ih0 _ _ _ _ _)
   | (with_reducible exact cr3_Bad.mono _ _ _ _)
   | (with_reducible exact cr3_Trim.mono _ _)
   | (with_reducible exact LeO.refl _)
   | (with_reducible exact LeO.none _)
   | (with_reducible refine LeO.ite ?_ ?_)
   | (with_reducible refine LeO.bind ?_ (fun _ => ?_))
   | exact ih0 _ _ _ _ _
   | exact cr3_Bad.mono _ _ _ _
   | exact cr3_Trim.mono _ _
   | exact LeO.none _
   | refine LeO.ite ?_ ?_
   | refine LeO.bind ?_ (fun _ => ?_)
theorem cr3_Sub.mono : ∀ a0 a1 a2 k, LeO (cr3_Sub.f k a0 a1 a2) (cr3_Sub.f (k + 1) a0 a1 a2) := by
 intro a0 a1 a2 k
 have ih0 := cr3_Sub.mono_l k
 unfold cr3_Sub.f
 repeat' first
   | (with_reducible exact ih0 _ _ _ _ _)
   | (with_reducible exact cr3_Bad.mono _ _ _ _)
   | (with_reducible exact cr3_Trim.mono _ _)
   | (with_reducible exact LeO.refl _)
   | (with_reducible exact LeO.none _)
   | (with_reducible refine LeO.ite ?_ ?_)
   | (with_reducible refine LeO.bind ?_ (fun _ => ?_))
   | exact ih0 _ _ _ _ _
   | exact cr3_Bad.mono _ _ _ _
   | exact cr3_Trim.mono _ _
   | exact LeO.none _
   | refine LeO.ite ?_ ?_
   | refine LeO.bind ?_ (fun _ => ?_)
set_option maxHeartbeats 8000000 in
set_option maxRecDepth 100000 in
theorem cr3_Sub.calls (k : Nat) (a0 : Int) (A1 : Option Addr) (c1 : Nat) (l1 : List Int) (A2 : Option Addr) (c2 : Nat) (l2 : List Int) (r1 : List Int) (r2 : Int) (w : World) (hr1 : Kd.C (Kd.int .u64) w A1 l1.length l1) (hc1 : l1.length ≤ c1) (hr2 : Kd.C (Kd.int .u64) w A2 l2.length l2) (hc2 : l2.length ≤ c2) (h : cr3_Sub.f k a0 l1 l2 = some (r1, r2)) :
  Calls Try.prog 26 #[.int .u8 a0, .slice A1 l1.length c1, .slice A2 l2.length c2] w fun e w' => ∃ v0_ : Value, e = .returned (.tuple #[v0_, .int .i64 r2]) ∧ Kd.R (Kd.int .u64) 40 w' w.heap.size (fun _ => True) v0_ r1 ∧ Below w.heap.size w w' := by
 have HR1 := Aside0.mk hr1
 have HC1 := Aside0.mk hc1
 clear hr1 hc1
 have HR2 := Aside0.mk hr2
 have HC2 := Aside0.mk hc2
 clear hr2 hc2
 have HB := A_ (Below.refl w.heap.size w)
 have H : ((cr3_Bad.f k a0 l1 l2).bind fun t561 => (if t561 = 0 then (cr3_Sub.l0 k a0 l1 l2 ([] : List Int) 0) else (some (([] : List Int), t561)))) = some (r1, r2) := h
 clear h
 replace H := Option.bind_eq_some_iff.mp H
 obtain ⟨t561, A40, H⟩ := H
 replace H : (if t561 = 0 then (cr3_Sub.l0 k a0 l1 l2 ([] : List Int) 0) else (some (([] : List Int), t561))) = some (r1, r2) := H
 have A4 := Aside0.mk A40
 clear A40
 have HC5 := Aside0.mk H
 clear H
 go_enter Try.func26, Try.ntmps26
 go_upto_if 16 with (first | ((with_reducible refine gate_callee (f := 16) rfl ?_); refine goesM_ (some 14) Try.func16 #[.int .u8 a0, .slice A1 l1.length c1, .slice A2 l2.length c2] ?_; (with_reducible refine (cr3_Bad.calls k a0 _ _ l1 _ _ l2 t561 _ ?side1 ?side2 ?side3 ?side4 A4.out).mono ?_); (case side1 => exact nC_ HR1.out); (case side2 => exact HC1.out); (case side3 => exact nC_ HR2.out); (case side4 => exact HC2.out); rintro e w' ⟨rfl, ⟨nd, rfl⟩⟩; refine ⟨_, rfl, ?_⟩))
 (try simp only [Act.put, List.setIfInBounds_toArray, List.set_cons_zero, List.set_cons_succ])
 have H := HC5.out
 clear HC5
 by_cases c6 : t561 = 0
 ·rw [if_pos c6] at H
  have c6b0 : (t561 == 0) = true := beq_iff_eq.mpr c6
  have c6b1 : (t561 != 0) = false := bne_eq_false_iff_eq.mpr c6
  clear c6
  (first | rw [c6b0] | rw [c6b1] | (simp only [i64_w, i32_w]; first | rw [c6b0] | rw [c6b1]) | skip)
  have H' := Aside0.mk H
  clear H
  go_wp2
  go_loopg [9, 10] k (fun kq v9 v10 w' => ∃ (x9_1 : List Int) (x10_1 : Int), v10 = .int .i64 x10_1 ∧ Aside0 (cr3_Sub.l0 kq a0 l1 l2 x9_1 x10_1 = some (r1, r2)) ∧ Aside0 (kq ≤ k) ∧ Aside0 (Kd.R (Kd.int .u64) 40 w' w.heap.size (fun _ => True) v9 x9_1) ∧ Aside0 (Below w.heap.size w w'))
  case atStart => exact ⟨(([] : List Int)), (0), (fs_), H', ⟨Nat.le_refl _⟩, ⟨by first | exact Kd.R_nil _ _ _ _ _ | exact Kd.N_nil _ _ _ _ _ | exact Kd.V_nil _ _ _ _ _ | exact Kd.Q_nil _ _ _ _ _ | exact Kd.S_nil _ _ _ _ _⟩, ⟨by repeat (first | (with_reducible first | exact HB.out | apply below_alloc | apply pw_below_drewN | apply below_drew1) | exact HB.out)⟩⟩
  case round =>
   clear H'
   try clear c1
   try clear c2
   try clear p2
   try clear c6
   try clear c6b0
   try clear c6b1
   obtain ⟨x9_1, x10_1, rfl, HA, HK1, HO_9, HB⟩ := hrel
   cases gk with
   | zero => exact absurd HA.out (by simp [cr3_Sub.l0])
   | succ k1 =>
    have H := HA.out
    clear HA
    simp only [cr3_Sub.l0] at H
    obtain ⟨ji7, hji7⟩ : ∃ j_ : Int, (mx (l1.length : Int) (l2.length : Int)) = j_ := ⟨_, rfl⟩
    replace H : (if x10_1 < (ji7) then ((cr1_P.f a0).bind fun t565 => ((cr3_at.f l1 x10_1).bind fun t566 => ((cr3_at.f l2 x10_1).bind fun t567 => ((cr1_Less.f t565 t566 t567).bind fun t568 => (if x9_1.length < 17592186044416 then (cr3_Sub.l0 k1 a0 l1 l2 (x9_1 ++ [t568]) (wrap64 (x10_1 + 1))) else (none)))))) else ((cr3_Trim.f k1 x9_1).bind fun t562 => (some (t562, 0)))) = some (r1, r2) := by first | (rw [hji7] at H; exact H) | (simp only [hji7] at H ⊢; exact H)
    (try (have hji7l : 0 ≤ ji7 := by (rw [← hji7]; unfold mx; (repeat' split) <;> omega)))
    (try (have hji7m : 0 ≤ ji7 := by omega))
    have hji7N : (if l1.length < l2.length then (l2.length : Int) else (l1.length : Int)) = ji7 := by have h_ := hji7; unfold mx at h_; simp only [Int.ofNat_lt] at h_; exact h_
    have hji7_ : (if (l1.length : Int) < (l2.length : Int) then (l2.length : Int) else (l1.length : Int)) = ji7 := hji7
    by_cases c8 : x10_1 < (ji7)
    ·rw [if_pos c8] at H
     have c8b0 : decide (x10_1 < (ji7)) = true := decide_eq_true c8
     clear c8
     replace H := Option.bind_eq_some_iff.mp H
     obtain ⟨t565, A90, H⟩ := H
     replace H : ((cr3_at.f l1 x10_1).bind fun t566 => ((cr3_at.f l2 x10_1).bind fun t567 => ((cr1_Less.f t565 t566 t567).bind fun t568 => (if x9_1.length < 17592186044416 then (cr3_Sub.l0 k1 a0 l1 l2 (x9_1 ++ [t568]) (wrap64 (x10_1 + 1))) else (none))))) = some (r1, r2) := H
     have A9 := Aside0.mk A90
     clear A90
     replace H := Option.bind_eq_some_iff.mp H
     obtain ⟨t566, A100, H⟩ := H
     replace H : ((cr3_at.f l2 x10_1).bind fun t567 => ((cr1_Less.f t565 t566 t567).bind fun t568 => (if x9_1.length < 17592186044416 then (cr3_Sub.l0 k1 a0 l1 l2 (x9_1 ++ [t568]) (wrap64 (x10_1 + 1))) else (none)))) = some (r1, r2) := H
     have A10 := Aside0.mk A100
     clear A100
     replace H := Option.bind_eq_some_iff.mp H
     obtain ⟨t567, A110, H⟩ := H
     replace H : ((cr1_Less.f t565 t566 t567).bind fun t568 => (if x9_1.length < 17592186044416 then (cr3_Sub.l0 k1 a0 l1 l2 (x9_1 ++ [t568]) (wrap64 (x10_1 + 1))) else (none))) = some (r1, r2) := H
     have A11 := Aside0.mk A110
     clear A110
     replace H := Option.bind_eq_some_iff.mp H
     obtain ⟨t568, A120, H⟩ := H
     replace H : (if x9_1.length < 17592186044416 then (cr3_Sub.l0 k1 a0 l1 l2 (x9_1 ++ [t568]) (wrap64 (x10_1 + 1))) else (none)) = some (r1, r2) := H
     have A12 := Aside0.mk A120
     clear A120
     by_cases c13 : x9_1.length < 17592186044416
     ·rw [if_pos c13] at H
      have LMc13 := Aside0.mk c13
      clear c13
      obtain ⟨y569, hy569⟩ : ∃ y_ : List Int, y_ = (x9_1 ++ [t568]) := ⟨_, rfl⟩
      replace H : (cr3_Sub.l0 k1 a0 l1 l2 y569 (wrap64 (x10_1 + 1))) = some (r1, r2) := by first | (rw [hy569]; with_reducible exact H) | (have H2_ := (Option.bind_some _ _).symm.trans H; rw [hy569]; with_reducible exact H2_) | (have H2_ := (Option.bind_some _ _).symm.trans H; with_reducible exact H2_) | with_reducible exact H | (rw [hy569]; exact H) | exact H
      have Ny569 := Aside0.mk hy569
      clear hy569
      have H' := Aside0.mk H
      clear H
      go_wp2_with (first | ((with_reducible refine gate_callee (f := 39) rfl ?_); refine goesM_ (some 29) Try.func39 #[.int .u8 a0] ?_; (with_reducible refine (cr1_P.calls a0 t565 _ A9.out).mono ?_); rintro e w' ⟨rfl, ⟨nd, rfl⟩⟩; refine ⟨_, rfl, ?_⟩) | ((with_reducible refine gate_callee (f := 45) rfl ?_); refine goesM_ (some 32) Try.func45 #[.slice A1 l1.length c1, .int .i64 x10_1] ?_; (with_reducible refine (cr3_at.calls _ _ l1 x10_1 t566 _ ?side1 ?side2 A10.out).mono ?_); (case side1 => repeat (first | exact (Kd.C_below HR1.out hb_) | (with_reducible refine Kd.C_alloc ?_ _) | (with_reducible refine Kd.C_drewN ?_ _) | (with_reducible refine Kd.C_drew ?_))); (case side2 => exact HC1.out); rintro e w' ⟨rfl, ⟨nd, rfl⟩⟩; refine ⟨_, rfl, ?_⟩) | ((with_reducible refine gate_callee (f := 45) rfl ?_); refine goesM_ (some 35) Try.func45 #[.slice A2 l2.length c2, .int .i64 x10_1] ?_; (with_reducible refine (cr3_at.calls _ _ l2 x10_1 t567 _ ?side1 ?side2 A11.out).mono ?_); (case side1 => repeat (first | exact (Kd.C_below HR2.out hb_) | (with_reducible refine Kd.C_alloc ?_ _) | (with_reducible refine Kd.C_drewN ?_ _) | (with_reducible refine Kd.C_drew ?_))); (case side2 => exact HC2.out); rintro e w' ⟨rfl, ⟨nd, rfl⟩⟩; refine ⟨_, rfl, ?_⟩) | ((with_reducible refine gate_callee (f := 43) rfl ?_); refine goesM_ (some 36) Try.func43 #[.int .u64 t565, .int .u64 t566, .int .u64 t567] ?_; (with_reducible refine (cr1_Less.calls t565 t566 t567 t568 _ A12.out).mono ?_); rintro e w' ⟨rfl, ⟨nd, rfl⟩⟩; refine ⟨_, rfl, ?_⟩) | ((with_reducible refine gate_builtin (b := .append) (xs := #[.tmp 27, .tmp 37]) rfl ?_); at_builtin; refine Kd.R_append (Kd.int .u64) (w0 := w) w.heap.size rfl (.tmp 27) (.tmp 37) 22 40 (.int .u64 0) 8 rfl Try.underlying22 info40 rfl (by decide) (by omega) u9 x9_1 t568 [.int .u64 t568] (fun _ => True) (fun _ => False) rfl rfl ?aP (fun _ hk => hk.elim) ?aF ?aO ?aB ?aS ?aL ?_; (case aP => exact rfl); (case aB => exact hb_); (case aF => exact (fun _ _ => trivial)); (case aO => exact (nR_ HO_9)); (case aS => exact (below_size hb_)); (case aL => have := LMc13.out; omega); intro v570 w14 ho hb hg hat; rw [← Ny569.out] at ho; have n0_ := A_ (hb); have n1_ := A_ (ho); clear HB HO_9; have HB := n0_; have HO571 := n1_; clear n0_ n1_; clear ho hb hg hat))
      go_roundg k1
      case measure => have := HK1.out; omega
      case rel => exact ⟨(y569), (wrap64 (x10_1 + 1)), (fs_), H', ⟨by have := HK1.out; omega⟩, ⟨mR_ HO571.out⟩, ⟨by repeat (first | (with_reducible first | exact HB.out | apply below_alloc | apply pw_below_drewN | apply below_drew1) | exact HB.out)⟩⟩
     ·rw [if_neg c13] at H
      exact absurd H (by simp)
    ·rw [if_neg c8] at H
     have c8b0 : decide (x10_1 < (ji7)) = false := decide_eq_false c8
     clear c8
     replace H := Option.bind_eq_some_iff.mp H
     obtain ⟨t562, A150, H⟩ := H
     replace H : (some (t562, 0)) = some (r1, r2) := H
     have A15 := Aside0.mk A150
     clear A150
     simp only [Option.some.injEq, Prod.mk.injEq] at H
     obtain ⟨rfl, rfl⟩ := H
     obtain ⟨Ao16, co16, eo16⟩ := Kd.R_slice HO_9.out
     subst eo16
     go_wp2_with (first | ((with_reducible refine gate_callee (f := 20) rfl ?_); refine goesM_ (some 40) Try.func20 #[.slice Ao16 x9_1.length co16] ?_; (with_reducible refine (cr3_Trim.calls k1 _ _ x9_1 t562 _ ?side1 ?side2 A15.out).mono ?_); (case side1 => repeat (first | exact (Kd.R_reads' HO_9.out).2.2 | (with_reducible refine Kd.C_alloc ?_ _) | (with_reducible refine Kd.C_drewN ?_ _) | (with_reducible refine Kd.C_drew ?_))); (case side2 => exact (Kd.R_reads' HO_9.out).2.1); rintro e w17 ⟨v563, rfl, ho0, hb⟩; refine ⟨_, rfl, ?_⟩; have n0_ := A_ (Kd.R_elder' (nR_ HO_9) (Kd.R_base ho0) hb); have n1_ := A_ (Kd.R_lower (Kd.R_new' ho0 (Kd.R_lt (nR_ HO_9))) (below_size hb_)); have n2_ := A_ (below_step hb_ hb); clear HO_9 HB; have HO_9 := n0_; have HO564 := n1_; have HB := n2_; clear n0_ n1_ n2_; (try clear hb); (try clear ho0)))
     go_ret2
     exact ⟨_, by first | rfl | (simp [errW_none, errW_some] <;> rfl) | (simp only [← hji7]; first | rfl | (simp [errW_none, errW_some] <;> rfl)) | (simp [*, errW_none, errW_some] <;> rfl), by (with_reducible repeat (first | apply Kd.R_alloc | apply Kd.R_drewN | apply Kd.R_drew)); exact Kd.R_mono HO564.out (fun _ hk => trivial), hb_⟩
 ·rw [if_neg c6] at H
  have c6b0 : (t561 == 0) = false := beq_eq_false_iff_ne.mpr c6
  have c6b1 : (t561 != 0) = true := bne_iff_ne.mpr c6
  (first | rw [c6b0] | rw [c6b1] | (simp only [i64_w, i32_w]; first | rw [c6b0] | rw [c6b1]) | skip)
  simp only [Option.some.injEq, Prod.mk.injEq] at H
  obtain ⟨rfl, rfl⟩ := H
  go_wp2
  go_ret2
  exact ⟨_, fr_, by first | exact Kd.R_nil _ _ _ _ _ | exact Kd.N_nil _ _ _ _ _ | exact Kd.V_nil _ _ _ _ _ | exact Kd.Q_nil _ _ _ _ _ | exact Kd.S_nil _ _ _ _ _, hb_⟩
end Go.Proofs.Yteofgcmgncaojaa.PEuclidParts
